-- by gprint.py (this session's program over the kit's print.py) (a twelfth state) out of the translation. Not trusted: Lean checks it.
import Derived.Test.YtkjlbkfnhmeoeaaGFnExactSameReqx0
import Derived.Test.YtkjlbkfnhmeoeaaGFnExactSameReqx2
import Derived.Test.YtkjlbkfnhmeoeaaGFnExactSameReqx3
namespace Go.Proofs.Ytkjlbkfnhmeoeaa.GFnExactSameReq
open Go.RowKit Go.Proofs.YtkjlbkfnhmeoeaaW.PrintWords Go.Proofs.YtkjlbkfnhmeoeaaW.PrintLast Go.Proofs.YtkjlbkfnhmeoeaaW.PrintMore
attribute [local go_sem] max2_int min2_int max_two min_two max_three min_three max_four min_four   -- for this text's walks alone
set_option linter.unusedVariables false
set_option linter.unusedSimpArgs false

/-! ### laws_FnExactSameReq: function 11 -/
def laws_FnExactSameReq.f (k : Nat) (a0_0 : ByteArray) (a0_1 : ByteArray) (l0_2 : List (S80)) (a0_3 : ByteArray) (a1_0 : ByteArray) (a1_1 : ByteArray) (l1_2 : List (S80)) (a1_3 : ByteArray) : Option (Bool) := (laws_szReq.f k a0_0 a0_1 l0_2 a0_3 1048576).bind fun t142 => (if t142 < 0 then (some true) else ((laws_szReq.f k a1_0 a1_1 l1_2 a1_3 t142).bind fun t143 => (if t143 < 0 then (some true) else ((laws_toReq.f k a0_0 a0_1 l0_2 a0_3).bind fun bt144 => ((laws_toReq.f k a1_0 a1_1 l1_2 a1_3).bind fun bt150 => ((spec_SameReq.f k bt144.1 bt144.2.1 bt144.2.2.1 bt144.2.2.2 bt150.1 bt150.2.1 bt150.2.2.1 bt150.2.2.2).bind fun t156 => ((laws_toReq.f k a0_0 a0_1 l0_2 a0_3).bind fun bt157 => ((laws_toReq.f k a1_0 a1_1 l1_2 a1_3).bind fun bt164 => ((impl_SameReq.f k bt157.1 bt157.2.1 bt157.2.2.1 bt157.2.2.2 bt164.1 bt164.2.1 bt164.2.2.1 bt164.2.2.2).bind fun t171 => (if (t171 != t156) = true then (some false) else ((laws_toReq.f k a0_0 a0_1 l0_2 a0_3).bind fun bt172 => ((laws_eqReq.f k bt157.1 bt157.2.1 bt157.2.2.1 bt157.2.2.2 bt172.1 bt172.2.1 bt172.2.2.1 bt172.2.2.2).bind fun t178 => (if t178 = true then ((laws_toReq.f k a1_0 a1_1 l1_2 a1_3).bind fun bt179 => ((laws_eqReq.f k bt164.1 bt164.2.1 bt164.2.2.1 bt164.2.2.2 bt179.1 bt179.2.1 bt179.2.2.1 bt179.2.2.2).bind fun t185 => (if t185 = true then (some true) else (some false)))) else (some false))))))))))))))
theorem laws_FnExactSameReq.mono : ∀ a0 a1 a2 a3 a4 a5 a6 a7 k, LeO (laws_FnExactSameReq.f k a0 a1 a2 a3 a4 a5 a6 a7) (laws_FnExactSameReq.f (k + 1) a0 a1 a2 a3 a4 a5 a6 a7) := by
  intro a0 a1 a2 a3 a4 a5 a6 a7 k
  unfold laws_FnExactSameReq.f
  repeat' first
      | (with_reducible exact impl_SameReq.mono _ _ _ _ _ _ _ _ _)
      | (with_reducible exact laws_eqReq.mono _ _ _ _ _ _ _ _ _)
      | (with_reducible exact laws_szReq.mono _ _ _ _ _ _)
      | (with_reducible exact laws_toReq.mono _ _ _ _ _)
      | (with_reducible exact spec_SameReq.mono _ _ _ _ _ _ _ _ _)
      | (with_reducible exact LeO.refl _)
      | (with_reducible exact LeO.none _)
      | (with_reducible refine LeO.ite ?_ ?_)
      | (with_reducible refine LeO.bind ?_ (fun _ => ?_))
      | exact impl_SameReq.mono _ _ _ _ _ _ _ _ _
      | exact laws_eqReq.mono _ _ _ _ _ _ _ _ _
      | exact laws_szReq.mono _ _ _ _ _ _
      | exact laws_toReq.mono _ _ _ _ _
      | exact spec_SameReq.mono _ _ _ _ _ _ _ _ _
      | exact LeO.none _
      | refine LeO.ite ?_ ?_
      | refine LeO.bind ?_ (fun _ => ?_)
set_option maxHeartbeats 8000000 in
set_option maxRecDepth 100000 in
theorem laws_FnExactSameReq.calls (k : Nat) (a0_0 : ByteArray) (a0_1 : ByteArray) (A0_2 : Option Addr) (c0_2 : Nat) (l0_2 : List (S80)) (a0_3 : ByteArray) (a1_0 : ByteArray) (a1_1 : ByteArray) (A1_2 : Option Addr) (c1_2 : Nat) (l1_2 : List (S80)) (a1_3 : ByteArray) (r : Bool) (w : World) (hr0_2 : Kd.C k80 w A0_2 l0_2.length l0_2) (hc0_2 : l0_2.length ≤ c0_2) (hr1_2 : Kd.C k80 w A1_2 l1_2.length l1_2) (hc1_2 : l1_2.length ≤ c1_2) (h : laws_FnExactSameReq.f k a0_0 a0_1 l0_2 a0_3 a1_0 a1_1 l1_2 a1_3 = some r) :
    Calls Try.prog 11 #[.agg #[.string a0_0, .string a0_1, .slice A0_2 l0_2.length c0_2, .string a0_3], .agg #[.string a1_0, .string a1_1, .slice A1_2 l1_2.length c1_2, .string a1_3]] w fun e w' => e = .returned (.bool r) ∧ Below w.heap.size w w' := by
  have hu66 := Try.underlying66
  have hu70 := Try.underlying70
  have HR0_2 := Aside0.mk hr0_2
  have HC0_2 := Aside0.mk hc0_2
  clear hr0_2 hc0_2
  have HR1_2 := Aside0.mk hr1_2
  have HC1_2 := Aside0.mk hc1_2
  clear hr1_2 hc1_2
  have HB := Aside0.mk (Below.refl w.heap.size w)
  have H : ((laws_szReq.f k a0_0 a0_1 l0_2 a0_3 1048576).bind fun t142 => (if t142 < 0 then (some true) else ((laws_szReq.f k a1_0 a1_1 l1_2 a1_3 t142).bind fun t143 => (if t143 < 0 then (some true) else ((laws_toReq.f k a0_0 a0_1 l0_2 a0_3).bind fun bt144 => ((laws_toReq.f k a1_0 a1_1 l1_2 a1_3).bind fun bt150 => ((spec_SameReq.f k bt144.1 bt144.2.1 bt144.2.2.1 bt144.2.2.2 bt150.1 bt150.2.1 bt150.2.2.1 bt150.2.2.2).bind fun t156 => ((laws_toReq.f k a0_0 a0_1 l0_2 a0_3).bind fun bt157 => ((laws_toReq.f k a1_0 a1_1 l1_2 a1_3).bind fun bt164 => ((impl_SameReq.f k bt157.1 bt157.2.1 bt157.2.2.1 bt157.2.2.2 bt164.1 bt164.2.1 bt164.2.2.1 bt164.2.2.2).bind fun t171 => (if (t171 != t156) = true then (some false) else ((laws_toReq.f k a0_0 a0_1 l0_2 a0_3).bind fun bt172 => ((laws_eqReq.f k bt157.1 bt157.2.1 bt157.2.2.1 bt157.2.2.2 bt172.1 bt172.2.1 bt172.2.2.1 bt172.2.2.2).bind fun t178 => (if t178 = true then ((laws_toReq.f k a1_0 a1_1 l1_2 a1_3).bind fun bt179 => ((laws_eqReq.f k bt164.1 bt164.2.1 bt164.2.2.1 bt164.2.2.2 bt179.1 bt179.2.1 bt179.2.2.1 bt179.2.2.2).bind fun t185 => (if t185 = true then (some true) else (some false)))) else (some false))))))))))))))) = some r := h
  clear h
  replace H := Option.bind_eq_some_iff.mp H
  obtain ⟨t142, A30, H⟩ := H
  replace H : (if t142 < 0 then (some true) else ((laws_szReq.f k a1_0 a1_1 l1_2 a1_3 t142).bind fun t143 => (if t143 < 0 then (some true) else ((laws_toReq.f k a0_0 a0_1 l0_2 a0_3).bind fun bt144 => ((laws_toReq.f k a1_0 a1_1 l1_2 a1_3).bind fun bt150 => ((spec_SameReq.f k bt144.1 bt144.2.1 bt144.2.2.1 bt144.2.2.2 bt150.1 bt150.2.1 bt150.2.2.1 bt150.2.2.2).bind fun t156 => ((laws_toReq.f k a0_0 a0_1 l0_2 a0_3).bind fun bt157 => ((laws_toReq.f k a1_0 a1_1 l1_2 a1_3).bind fun bt164 => ((impl_SameReq.f k bt157.1 bt157.2.1 bt157.2.2.1 bt157.2.2.2 bt164.1 bt164.2.1 bt164.2.2.1 bt164.2.2.2).bind fun t171 => (if (t171 != t156) = true then (some false) else ((laws_toReq.f k a0_0 a0_1 l0_2 a0_3).bind fun bt172 => ((laws_eqReq.f k bt157.1 bt157.2.1 bt157.2.2.1 bt157.2.2.2 bt172.1 bt172.2.1 bt172.2.2.1 bt172.2.2.2).bind fun t178 => (if t178 = true then ((laws_toReq.f k a1_0 a1_1 l1_2 a1_3).bind fun bt179 => ((laws_eqReq.f k bt164.1 bt164.2.1 bt164.2.2.1 bt164.2.2.2 bt179.1 bt179.2.1 bt179.2.2.1 bt179.2.2.2).bind fun t185 => (if t185 = true then (some true) else (some false)))) else (some false)))))))))))))) = some r := H
  have A3 := Aside0.mk A30
  clear A30
  by_cases c4 : t142 < 0
  · rw [if_pos c4] at H
    have c4b0 : decide (t142 < 0) = true := decide_eq_true c4
    clear c4
    obtain rfl := Option.some.inj H
    go_enter Try.func11, Try.ntmps11
    go_wp2_with (first | ((with_reducible refine gate_dst (N := 2) rfl ?_); refine box_event ?hg (N := 2) ?hd (cs := #[.string a0_0, .string a0_1, .slice A0_2 l0_2.length c0_2, .string a0_3]) (t := 66) ?hr ?_; (case hd => rfl); (case hg => rfl); (case hr => first | (go_simp; done) | (go_simp; rfl)); intro gb140 hg w5 hbox hb; have n0_ := Aside0.mk (below_step (by repeat (first | (with_reducible first | exact HB.out | apply aB_ | apply pN_ | apply dB_) | exact HB.out)) hb); have n1_ := Aside0.mk (hbox); have n2_ := Aside0.mk ((by rw [hg]; exact (below_size (by repeat (first | (with_reducible first | exact HB.out | apply aB_ | apply pN_ | apply dB_) | exact HB.out))) : w.heap.size ≤ gb140)); have n3_ := Aside0.mk ((by rw [hg]; exact (below_size (by repeat (first | (with_reducible first | exact HB.out | apply aB_ | apply pN_ | apply dB_) | exact HB.out))) : w.heap.size ≤ gb140)); clear HB; have HB := n0_; have BK140 := n1_; have GW140 := n2_; have GE140 := n3_; clear n0_ n1_ n2_ n3_; clear hb hbox hg) | ((with_reducible refine gate_dst (N := 3) rfl ?_); refine box_event ?hg (N := 3) ?hd (cs := #[.string a1_0, .string a1_1, .slice A1_2 l1_2.length c1_2, .string a1_3]) (t := 66) ?hr ?_; (case hd => rfl); (case hg => rfl); (case hr => first | (go_simp; done) | (go_simp; rfl)); intro gb141 hg w6 hbox hb; have n0_ := Aside0.mk (bB_ (g := gb140) (o := .cells #[.string a0_0, .string a0_1, .slice A0_2 l0_2.length c0_2, .string a0_3] 66 (0, 0)) (by (with_reducible repeat (first | refine bN_ ?_ _ | refine bD_ ?_ | refine bA_ ?_ _)); exact BK140.out) hb); have n1_ := Aside0.mk (below_step (by repeat (first | (with_reducible first | exact HB.out | apply aB_ | apply pN_ | apply dB_ | refine sB_ ?_ GE140.out) | exact HB.out)) hb); have n2_ := Aside0.mk (hbox); have n3_ := Aside0.mk ((by rw [hg]; exact (below_size (by repeat (first | (with_reducible first | exact HB.out | apply aB_ | apply pN_ | apply dB_ | refine sB_ ?_ GE140.out) | exact HB.out))) : w.heap.size ≤ gb141)); have n4_ := Aside0.mk ((by rw [hg]; exact (below_size (by repeat (first | (with_reducible first | exact HB.out | apply aB_ | apply pN_ | apply dB_ | refine sB_ ?_ GE140.out) | exact HB.out))) : w.heap.size ≤ gb141)); have n5_ := Aside0.mk ((by rw [hg]; exact Nat.ne_of_lt (blk_lt (g := gb140) (o := .cells #[.string a0_0, .string a0_1, .slice A0_2 l0_2.length c0_2, .string a0_3] 66 (0, 0)) (by (with_reducible repeat (first | refine bN_ ?_ _ | refine bD_ ?_ | refine bA_ ?_ _)); exact BK140.out)) : gb140 ≠ gb141)); have n6_ := Aside0.mk ((by rw [hg]; exact Nat.ne_of_gt (blk_lt (g := gb140) (o := .cells #[.string a0_0, .string a0_1, .slice A0_2 l0_2.length c0_2, .string a0_3] 66 (0, 0)) (by (with_reducible repeat (first | refine bN_ ?_ _ | refine bD_ ?_ | refine bA_ ?_ _)); exact BK140.out)) : gb141 ≠ gb140)); clear BK140; clear HB; have BK140 := n0_; have HB := n1_; have BK141 := n2_; have GW141 := n3_; have GE141 := n4_; have NB140_141 := n5_; have NB141_140 := n6_; clear n0_ n1_ n2_ n3_ n4_ n5_ n6_; clear hb hbox hg; have hnb7 := NB140_141.out; have hnc7 := NB141_140.out; have hcz8_0 : w6.cell? ⟨gb140, 0, none⟩ = some (.string a0_0) := (bc_ BK140.out 0).trans rfl; have hcz8_1 : w6.cell? ⟨gb140, 1, none⟩ = some (.string a0_1) := (bc_ BK140.out 1).trans rfl; have hcz8_2 : w6.cell? ⟨gb140, 2, none⟩ = some (.slice A0_2 l0_2.length c0_2) := (bc_ BK140.out 2).trans rfl; have hcz8_3 : w6.cell? ⟨gb140, 3, none⟩ = some (.string a0_3) := (bc_ BK140.out 3).trans rfl; have hfz8_0 := bF_ BK140.out 0; have hfz8_1 := bF_ BK140.out 1; have hfz8_2 := bF_ BK140.out 2; have hfz8_3 := bF_ BK140.out 3) | ((with_reducible refine gate_callee (f := 48) rfl ?_); refine goesL_ (some 12) rfl rfl Try.func48 (by kernel_rfl) rfl #[.agg #[.string a0_0, .string a0_1, .slice A0_2 l0_2.length c0_2, .string a0_3], .int .i64 1048576] rfl (by (try simp only [List.map_toArray, List.map_cons, List.map_nil]); first | done | rfl | (simp only [List.length_drop, List.length_take]; rfl)) ?_; (with_reducible refine (laws_szReq.calls k a0_0 a0_1 _ _ l0_2 a0_3 1048576 t142 _ ?side1 ?side2 A3.out).mono ?_); (case side1 => repeat (first | exact (Kd.C_below HR0_2.out HB.out) | (with_reducible refine Kd.C_alloc ?_ _) | (with_reducible refine Kd.C_drewN ?_ _) | (with_reducible refine Kd.C_drew ?_))); (case side2 => exact HC0_2.out); rintro e w9 ⟨rfl, hb⟩; refine ⟨_, rfl, ?_⟩; have n0_ := Aside0.mk (bB_ (g := gb140) (o := .cells #[.string a0_0, .string a0_1, .slice A0_2 l0_2.length c0_2, .string a0_3] 66 (0, 0)) (by (with_reducible repeat (first | refine bN_ ?_ _ | refine bD_ ?_ | refine bA_ ?_ _)); exact BK140.out) hb); have n1_ := Aside0.mk (bB_ (g := gb141) (o := .cells #[.string a1_0, .string a1_1, .slice A1_2 l1_2.length c1_2, .string a1_3] 66 (0, 0)) (by (with_reducible repeat (first | refine bN_ ?_ _ | refine bD_ ?_ | refine bA_ ?_ _)); exact BK141.out) hb); have n2_ := Aside0.mk (below_step (by repeat (first | (with_reducible first | exact HB.out | apply aB_ | apply pN_ | apply dB_ | refine sB_ ?_ GE140.out | refine sB_ ?_ GE141.out) | exact HB.out)) hb); clear BK140; clear BK141; clear HB; have BK140 := n0_; have BK141 := n1_; have HB := n2_; clear n0_ n1_ n2_; (try clear hb); (try clear hb2); (try clear hk); (try clear hi)))
    go_ret
    exact ⟨by first | rfl | (simp [errW_none, errW_some] <;> rfl) | (simp [*, errW_none, errW_some] <;> rfl), by repeat (first | (with_reducible first | exact HB.out | apply aB_ | apply pN_ | apply dB_ | refine sB_ ?_ GE140.out | refine sB_ ?_ GE141.out) | exact HB.out)⟩
  · rw [if_neg c4] at H
    have c4b0 : decide (t142 < 0) = false := decide_eq_false c4
    clear c4
    replace H := Option.bind_eq_some_iff.mp H
    obtain ⟨t143, A100, H⟩ := H
    replace H : (if t143 < 0 then (some true) else ((laws_toReq.f k a0_0 a0_1 l0_2 a0_3).bind fun bt144 => ((laws_toReq.f k a1_0 a1_1 l1_2 a1_3).bind fun bt150 => ((spec_SameReq.f k bt144.1 bt144.2.1 bt144.2.2.1 bt144.2.2.2 bt150.1 bt150.2.1 bt150.2.2.1 bt150.2.2.2).bind fun t156 => ((laws_toReq.f k a0_0 a0_1 l0_2 a0_3).bind fun bt157 => ((laws_toReq.f k a1_0 a1_1 l1_2 a1_3).bind fun bt164 => ((impl_SameReq.f k bt157.1 bt157.2.1 bt157.2.2.1 bt157.2.2.2 bt164.1 bt164.2.1 bt164.2.2.1 bt164.2.2.2).bind fun t171 => (if (t171 != t156) = true then (some false) else ((laws_toReq.f k a0_0 a0_1 l0_2 a0_3).bind fun bt172 => ((laws_eqReq.f k bt157.1 bt157.2.1 bt157.2.2.1 bt157.2.2.2 bt172.1 bt172.2.1 bt172.2.2.1 bt172.2.2.2).bind fun t178 => (if t178 = true then ((laws_toReq.f k a1_0 a1_1 l1_2 a1_3).bind fun bt179 => ((laws_eqReq.f k bt164.1 bt164.2.1 bt164.2.2.1 bt164.2.2.2 bt179.1 bt179.2.1 bt179.2.2.1 bt179.2.2.2).bind fun t185 => (if t185 = true then (some true) else (some false)))) else (some false)))))))))))) = some r := H
    have A10 := Aside0.mk A100
    clear A100
    by_cases c11 : t143 < 0
    · rw [if_pos c11] at H
      have c11b0 : decide (t143 < 0) = true := decide_eq_true c11
      clear c11
      obtain rfl := Option.some.inj H
      go_enter Try.func11, Try.ntmps11
      go_wp2_with (first | ((with_reducible refine gate_dst (N := 2) rfl ?_); refine box_event ?hg (N := 2) ?hd (cs := #[.string a0_0, .string a0_1, .slice A0_2 l0_2.length c0_2, .string a0_3]) (t := 66) ?hr ?_; (case hd => rfl); (case hg => rfl); (case hr => first | (go_simp; done) | (go_simp; rfl)); intro gb140 hg w12 hbox hb; have n0_ := Aside0.mk (below_step (by repeat (first | (with_reducible first | exact HB.out | apply aB_ | apply pN_ | apply dB_) | exact HB.out)) hb); have n1_ := Aside0.mk (hbox); have n2_ := Aside0.mk ((by rw [hg]; exact (below_size (by repeat (first | (with_reducible first | exact HB.out | apply aB_ | apply pN_ | apply dB_) | exact HB.out))) : w.heap.size ≤ gb140)); have n3_ := Aside0.mk ((by rw [hg]; exact (below_size (by repeat (first | (with_reducible first | exact HB.out | apply aB_ | apply pN_ | apply dB_) | exact HB.out))) : w.heap.size ≤ gb140)); clear HB; have HB := n0_; have BK140 := n1_; have GW140 := n2_; have GE140 := n3_; clear n0_ n1_ n2_ n3_; clear hb hbox hg) | ((with_reducible refine gate_dst (N := 3) rfl ?_); refine box_event ?hg (N := 3) ?hd (cs := #[.string a1_0, .string a1_1, .slice A1_2 l1_2.length c1_2, .string a1_3]) (t := 66) ?hr ?_; (case hd => rfl); (case hg => rfl); (case hr => first | (go_simp; done) | (go_simp; rfl)); intro gb141 hg w13 hbox hb; have n0_ := Aside0.mk (bB_ (g := gb140) (o := .cells #[.string a0_0, .string a0_1, .slice A0_2 l0_2.length c0_2, .string a0_3] 66 (0, 0)) (by (with_reducible repeat (first | refine bN_ ?_ _ | refine bD_ ?_ | refine bA_ ?_ _)); exact BK140.out) hb); have n1_ := Aside0.mk (below_step (by repeat (first | (with_reducible first | exact HB.out | apply aB_ | apply pN_ | apply dB_ | refine sB_ ?_ GE140.out) | exact HB.out)) hb); have n2_ := Aside0.mk (hbox); have n3_ := Aside0.mk ((by rw [hg]; exact (below_size (by repeat (first | (with_reducible first | exact HB.out | apply aB_ | apply pN_ | apply dB_ | refine sB_ ?_ GE140.out) | exact HB.out))) : w.heap.size ≤ gb141)); have n4_ := Aside0.mk ((by rw [hg]; exact (below_size (by repeat (first | (with_reducible first | exact HB.out | apply aB_ | apply pN_ | apply dB_ | refine sB_ ?_ GE140.out) | exact HB.out))) : w.heap.size ≤ gb141)); have n5_ := Aside0.mk ((by rw [hg]; exact Nat.ne_of_lt (blk_lt (g := gb140) (o := .cells #[.string a0_0, .string a0_1, .slice A0_2 l0_2.length c0_2, .string a0_3] 66 (0, 0)) (by (with_reducible repeat (first | refine bN_ ?_ _ | refine bD_ ?_ | refine bA_ ?_ _)); exact BK140.out)) : gb140 ≠ gb141)); have n6_ := Aside0.mk ((by rw [hg]; exact Nat.ne_of_gt (blk_lt (g := gb140) (o := .cells #[.string a0_0, .string a0_1, .slice A0_2 l0_2.length c0_2, .string a0_3] 66 (0, 0)) (by (with_reducible repeat (first | refine bN_ ?_ _ | refine bD_ ?_ | refine bA_ ?_ _)); exact BK140.out)) : gb141 ≠ gb140)); clear BK140; clear HB; have BK140 := n0_; have HB := n1_; have BK141 := n2_; have GW141 := n3_; have GE141 := n4_; have NB140_141 := n5_; have NB141_140 := n6_; clear n0_ n1_ n2_ n3_ n4_ n5_ n6_; clear hb hbox hg; have hnb14 := NB140_141.out; have hnc14 := NB141_140.out; have hcz15_0 : w13.cell? ⟨gb140, 0, none⟩ = some (.string a0_0) := (bc_ BK140.out 0).trans rfl; have hcz15_1 : w13.cell? ⟨gb140, 1, none⟩ = some (.string a0_1) := (bc_ BK140.out 1).trans rfl; have hcz15_2 : w13.cell? ⟨gb140, 2, none⟩ = some (.slice A0_2 l0_2.length c0_2) := (bc_ BK140.out 2).trans rfl; have hcz15_3 : w13.cell? ⟨gb140, 3, none⟩ = some (.string a0_3) := (bc_ BK140.out 3).trans rfl; have hfz15_0 := bF_ BK140.out 0; have hfz15_1 := bF_ BK140.out 1; have hfz15_2 := bF_ BK140.out 2; have hfz15_3 := bF_ BK140.out 3) | ((with_reducible refine gate_callee (f := 48) rfl ?_); refine goesL_ (some 12) rfl rfl Try.func48 (by kernel_rfl) rfl #[.agg #[.string a0_0, .string a0_1, .slice A0_2 l0_2.length c0_2, .string a0_3], .int .i64 1048576] rfl (by (try simp only [List.map_toArray, List.map_cons, List.map_nil]); first | done | rfl | (simp only [List.length_drop, List.length_take]; rfl)) ?_; (with_reducible refine (laws_szReq.calls k a0_0 a0_1 _ _ l0_2 a0_3 1048576 t142 _ ?side1 ?side2 A3.out).mono ?_); (case side1 => repeat (first | exact (Kd.C_below HR0_2.out HB.out) | (with_reducible refine Kd.C_alloc ?_ _) | (with_reducible refine Kd.C_drewN ?_ _) | (with_reducible refine Kd.C_drew ?_))); (case side2 => exact HC0_2.out); rintro e w16 ⟨rfl, hb⟩; refine ⟨_, rfl, ?_⟩; have n0_ := Aside0.mk (bB_ (g := gb140) (o := .cells #[.string a0_0, .string a0_1, .slice A0_2 l0_2.length c0_2, .string a0_3] 66 (0, 0)) (by (with_reducible repeat (first | refine bN_ ?_ _ | refine bD_ ?_ | refine bA_ ?_ _)); exact BK140.out) hb); have n1_ := Aside0.mk (bB_ (g := gb141) (o := .cells #[.string a1_0, .string a1_1, .slice A1_2 l1_2.length c1_2, .string a1_3] 66 (0, 0)) (by (with_reducible repeat (first | refine bN_ ?_ _ | refine bD_ ?_ | refine bA_ ?_ _)); exact BK141.out) hb); have n2_ := Aside0.mk (below_step (by repeat (first | (with_reducible first | exact HB.out | apply aB_ | apply pN_ | apply dB_ | refine sB_ ?_ GE140.out | refine sB_ ?_ GE141.out) | exact HB.out)) hb); clear BK140; clear BK141; clear HB; have BK140 := n0_; have BK141 := n1_; have HB := n2_; clear n0_ n1_ n2_; (try clear hb); (try clear hb2); (try clear hk); (try clear hi); have hcz17_0 : w16.cell? ⟨gb141, 0, none⟩ = some (.string a1_0) := (bc_ BK141.out 0).trans rfl; have hcz17_1 : w16.cell? ⟨gb141, 1, none⟩ = some (.string a1_1) := (bc_ BK141.out 1).trans rfl; have hcz17_2 : w16.cell? ⟨gb141, 2, none⟩ = some (.slice A1_2 l1_2.length c1_2) := (bc_ BK141.out 2).trans rfl; have hcz17_3 : w16.cell? ⟨gb141, 3, none⟩ = some (.string a1_3) := (bc_ BK141.out 3).trans rfl; have hfz17_0 := bF_ BK141.out 0; have hfz17_1 := bF_ BK141.out 1; have hfz17_2 := bF_ BK141.out 2; have hfz17_3 := bF_ BK141.out 3) | ((with_reducible refine gate_callee (f := 48) rfl ?_); refine goesL_ (some 17) rfl rfl Try.func48 (by kernel_rfl) rfl #[.agg #[.string a1_0, .string a1_1, .slice A1_2 l1_2.length c1_2, .string a1_3], .int .i64 t142] rfl (by (try simp only [List.map_toArray, List.map_cons, List.map_nil]); first | done | rfl | (simp only [List.length_drop, List.length_take]; rfl)) ?_; (with_reducible refine (laws_szReq.calls k a1_0 a1_1 _ _ l1_2 a1_3 t142 t143 _ ?side1 ?side2 A10.out).mono ?_); (case side1 => repeat (first | exact (Kd.C_below HR1_2.out HB.out) | (with_reducible refine Kd.C_alloc ?_ _) | (with_reducible refine Kd.C_drewN ?_ _) | (with_reducible refine Kd.C_drew ?_))); (case side2 => exact HC1_2.out); rintro e w18 ⟨rfl, hb⟩; refine ⟨_, rfl, ?_⟩; have n0_ := Aside0.mk (bB_ (g := gb140) (o := .cells #[.string a0_0, .string a0_1, .slice A0_2 l0_2.length c0_2, .string a0_3] 66 (0, 0)) (by (with_reducible repeat (first | refine bN_ ?_ _ | refine bD_ ?_ | refine bA_ ?_ _)); exact BK140.out) hb); have n1_ := Aside0.mk (bB_ (g := gb141) (o := .cells #[.string a1_0, .string a1_1, .slice A1_2 l1_2.length c1_2, .string a1_3] 66 (0, 0)) (by (with_reducible repeat (first | refine bN_ ?_ _ | refine bD_ ?_ | refine bA_ ?_ _)); exact BK141.out) hb); have n2_ := Aside0.mk (below_step (by repeat (first | (with_reducible first | exact HB.out | apply aB_ | apply pN_ | apply dB_ | refine sB_ ?_ GE140.out | refine sB_ ?_ GE141.out) | exact HB.out)) hb); clear BK140; clear BK141; clear HB; have BK140 := n0_; have BK141 := n1_; have HB := n2_; clear n0_ n1_ n2_; (try clear hb); (try clear hb2); (try clear hk); (try clear hi)))
      go_ret
      exact ⟨by first | rfl | (simp [errW_none, errW_some] <;> rfl) | (simp [*, errW_none, errW_some] <;> rfl), by repeat (first | (with_reducible first | exact HB.out | apply aB_ | apply pN_ | apply dB_ | refine sB_ ?_ GE140.out | refine sB_ ?_ GE141.out) | exact HB.out)⟩
    · rw [if_neg c11] at H
      have c11b0 : decide (t143 < 0) = false := decide_eq_false c11
      clear c11
      replace H := Option.bind_eq_some_iff.mp H
      obtain ⟨⟨t144, t145, t146, t149⟩, A190, H⟩ := H
      replace H : ((laws_toReq.f k a1_0 a1_1 l1_2 a1_3).bind fun bt150 => ((spec_SameReq.f k t144 t145 t146 t149 bt150.1 bt150.2.1 bt150.2.2.1 bt150.2.2.2).bind fun t156 => ((laws_toReq.f k a0_0 a0_1 l0_2 a0_3).bind fun bt157 => ((laws_toReq.f k a1_0 a1_1 l1_2 a1_3).bind fun bt164 => ((impl_SameReq.f k bt157.1 bt157.2.1 bt157.2.2.1 bt157.2.2.2 bt164.1 bt164.2.1 bt164.2.2.1 bt164.2.2.2).bind fun t171 => (if (t171 != t156) = true then (some false) else ((laws_toReq.f k a0_0 a0_1 l0_2 a0_3).bind fun bt172 => ((laws_eqReq.f k bt157.1 bt157.2.1 bt157.2.2.1 bt157.2.2.2 bt172.1 bt172.2.1 bt172.2.2.1 bt172.2.2.2).bind fun t178 => (if t178 = true then ((laws_toReq.f k a1_0 a1_1 l1_2 a1_3).bind fun bt179 => ((laws_eqReq.f k bt164.1 bt164.2.1 bt164.2.2.1 bt164.2.2.2 bt179.1 bt179.2.1 bt179.2.2.1 bt179.2.2.2).bind fun t185 => (if t185 = true then (some true) else (some false)))) else (some false)))))))))) = some r := H
      have A19 := Aside0.mk A190
      clear A190
      replace H := Option.bind_eq_some_iff.mp H
      obtain ⟨⟨t150, t151, t152, t155⟩, A200, H⟩ := H
      replace H : ((spec_SameReq.f k t144 t145 t146 t149 t150 t151 t152 t155).bind fun t156 => ((laws_toReq.f k a0_0 a0_1 l0_2 a0_3).bind fun bt157 => ((laws_toReq.f k a1_0 a1_1 l1_2 a1_3).bind fun bt164 => ((impl_SameReq.f k bt157.1 bt157.2.1 bt157.2.2.1 bt157.2.2.2 bt164.1 bt164.2.1 bt164.2.2.1 bt164.2.2.2).bind fun t171 => (if (t171 != t156) = true then (some false) else ((laws_toReq.f k a0_0 a0_1 l0_2 a0_3).bind fun bt172 => ((laws_eqReq.f k bt157.1 bt157.2.1 bt157.2.2.1 bt157.2.2.2 bt172.1 bt172.2.1 bt172.2.2.1 bt172.2.2.2).bind fun t178 => (if t178 = true then ((laws_toReq.f k a1_0 a1_1 l1_2 a1_3).bind fun bt179 => ((laws_eqReq.f k bt164.1 bt164.2.1 bt164.2.2.1 bt164.2.2.2 bt179.1 bt179.2.1 bt179.2.2.1 bt179.2.2.2).bind fun t185 => (if t185 = true then (some true) else (some false)))) else (some false))))))))) = some r := H
      have A20 := Aside0.mk A200
      clear A200
      replace H := Option.bind_eq_some_iff.mp H
      obtain ⟨t156, A210, H⟩ := H
      replace H : ((laws_toReq.f k a0_0 a0_1 l0_2 a0_3).bind fun bt157 => ((laws_toReq.f k a1_0 a1_1 l1_2 a1_3).bind fun bt164 => ((impl_SameReq.f k bt157.1 bt157.2.1 bt157.2.2.1 bt157.2.2.2 bt164.1 bt164.2.1 bt164.2.2.1 bt164.2.2.2).bind fun t171 => (if (t171 != t156) = true then (some false) else ((laws_toReq.f k a0_0 a0_1 l0_2 a0_3).bind fun bt172 => ((laws_eqReq.f k bt157.1 bt157.2.1 bt157.2.2.1 bt157.2.2.2 bt172.1 bt172.2.1 bt172.2.2.1 bt172.2.2.2).bind fun t178 => (if t178 = true then ((laws_toReq.f k a1_0 a1_1 l1_2 a1_3).bind fun bt179 => ((laws_eqReq.f k bt164.1 bt164.2.1 bt164.2.2.1 bt164.2.2.2 bt179.1 bt179.2.1 bt179.2.2.1 bt179.2.2.2).bind fun t185 => (if t185 = true then (some true) else (some false)))) else (some false)))))))) = some r := H
      have A21 := Aside0.mk A210
      clear A210
      replace H := Option.bind_eq_some_iff.mp H
      obtain ⟨⟨t157, t158, t159, t162⟩, A220, H⟩ := H
      replace H : ((laws_toReq.f k a1_0 a1_1 l1_2 a1_3).bind fun bt164 => ((impl_SameReq.f k t157 t158 t159 t162 bt164.1 bt164.2.1 bt164.2.2.1 bt164.2.2.2).bind fun t171 => (if (t171 != t156) = true then (some false) else ((laws_toReq.f k a0_0 a0_1 l0_2 a0_3).bind fun bt172 => ((laws_eqReq.f k t157 t158 t159 t162 bt172.1 bt172.2.1 bt172.2.2.1 bt172.2.2.2).bind fun t178 => (if t178 = true then ((laws_toReq.f k a1_0 a1_1 l1_2 a1_3).bind fun bt179 => ((laws_eqReq.f k bt164.1 bt164.2.1 bt164.2.2.1 bt164.2.2.2 bt179.1 bt179.2.1 bt179.2.2.1 bt179.2.2.2).bind fun t185 => (if t185 = true then (some true) else (some false)))) else (some false))))))) = some r := H
      have A22 := Aside0.mk A220
      clear A220
      replace H := Option.bind_eq_some_iff.mp H
      obtain ⟨⟨t164, t165, t166, t169⟩, A230, H⟩ := H
      replace H : ((impl_SameReq.f k t157 t158 t159 t162 t164 t165 t166 t169).bind fun t171 => (if (t171 != t156) = true then (some false) else ((laws_toReq.f k a0_0 a0_1 l0_2 a0_3).bind fun bt172 => ((laws_eqReq.f k t157 t158 t159 t162 bt172.1 bt172.2.1 bt172.2.2.1 bt172.2.2.2).bind fun t178 => (if t178 = true then ((laws_toReq.f k a1_0 a1_1 l1_2 a1_3).bind fun bt179 => ((laws_eqReq.f k t164 t165 t166 t169 bt179.1 bt179.2.1 bt179.2.2.1 bt179.2.2.2).bind fun t185 => (if t185 = true then (some true) else (some false)))) else (some false)))))) = some r := H
      have A23 := Aside0.mk A230
      clear A230
      replace H := Option.bind_eq_some_iff.mp H
      obtain ⟨t171, A240, H⟩ := H
      replace H : (if (t171 != t156) = true then (some false) else ((laws_toReq.f k a0_0 a0_1 l0_2 a0_3).bind fun bt172 => ((laws_eqReq.f k t157 t158 t159 t162 bt172.1 bt172.2.1 bt172.2.2.1 bt172.2.2.2).bind fun t178 => (if t178 = true then ((laws_toReq.f k a1_0 a1_1 l1_2 a1_3).bind fun bt179 => ((laws_eqReq.f k t164 t165 t166 t169 bt179.1 bt179.2.1 bt179.2.2.1 bt179.2.2.2).bind fun t185 => (if t185 = true then (some true) else (some false)))) else (some false))))) = some r := H
      have A24 := Aside0.mk A240
      clear A240
      by_cases c25 : (t171 != t156) = true
      · rw [if_pos c25] at H
        have c25b0 : (t171 != t156) = true := c25
        (try (have c25b1 : decide (t171 = t156) = false := by simpa using c25))
        (try (have c25b2 : (t171 == t156) = false := by simpa using c25))
        (try (have c25b3 : ¬ (t171 = t156) := by simpa using c25))
        clear c25
        obtain rfl := Option.some.inj H
        go_enter Try.func11, Try.ntmps11
        try go_wp2_with (first | ((with_reducible refine gate_dst (N := 2) rfl ?_); refine box_event ?hg (N := 2) ?hd (cs := #[.string a0_0, .string a0_1, .slice A0_2 l0_2.length c0_2, .string a0_3]) (t := 66) ?hr ?_; (case hd => rfl); (case hg => rfl); (case hr => first | (go_simp; done) | (go_simp; rfl)); intro gb140 hg w26 hbox hb; have n0_ := Aside0.mk (below_step (by repeat (first | (with_reducible first | exact HB.out | apply aB_ | apply pN_ | apply dB_) | exact HB.out)) hb); have n1_ := Aside0.mk (hbox); have n2_ := Aside0.mk ((by rw [hg]; exact (below_size (by repeat (first | (with_reducible first | exact HB.out | apply aB_ | apply pN_ | apply dB_) | exact HB.out))) : w.heap.size ≤ gb140)); have n3_ := Aside0.mk ((by rw [hg]; exact (below_size (by repeat (first | (with_reducible first | exact HB.out | apply aB_ | apply pN_ | apply dB_) | exact HB.out))) : w.heap.size ≤ gb140)); clear HB; have HB := n0_; have BK140 := n1_; have GW140 := n2_; have GE140 := n3_; clear n0_ n1_ n2_ n3_; clear hb hbox hg) | ((with_reducible refine gate_dst (N := 3) rfl ?_); refine box_event ?hg (N := 3) ?hd (cs := #[.string a1_0, .string a1_1, .slice A1_2 l1_2.length c1_2, .string a1_3]) (t := 66) ?hr ?_; (case hd => rfl); (case hg => rfl); (case hr => first | (go_simp; done) | (go_simp; rfl)); intro gb141 hg w27 hbox hb; have n0_ := Aside0.mk (bB_ (g := gb140) (o := .cells #[.string a0_0, .string a0_1, .slice A0_2 l0_2.length c0_2, .string a0_3] 66 (0, 0)) (by (with_reducible repeat (first | refine bN_ ?_ _ | refine bD_ ?_ | refine bA_ ?_ _)); exact BK140.out) hb); have n1_ := Aside0.mk (below_step (by repeat (first | (with_reducible first | exact HB.out | apply aB_ | apply pN_ | apply dB_ | refine sB_ ?_ GE140.out) | exact HB.out)) hb); have n2_ := Aside0.mk (hbox); have n3_ := Aside0.mk ((by rw [hg]; exact (below_size (by repeat (first | (with_reducible first | exact HB.out | apply aB_ | apply pN_ | apply dB_ | refine sB_ ?_ GE140.out) | exact HB.out))) : w.heap.size ≤ gb141)); have n4_ := Aside0.mk ((by rw [hg]; exact (below_size (by repeat (first | (with_reducible first | exact HB.out | apply aB_ | apply pN_ | apply dB_ | refine sB_ ?_ GE140.out) | exact HB.out))) : w.heap.size ≤ gb141)); have n5_ := Aside0.mk ((by rw [hg]; exact Nat.ne_of_lt (blk_lt (g := gb140) (o := .cells #[.string a0_0, .string a0_1, .slice A0_2 l0_2.length c0_2, .string a0_3] 66 (0, 0)) (by (with_reducible repeat (first | refine bN_ ?_ _ | refine bD_ ?_ | refine bA_ ?_ _)); exact BK140.out)) : gb140 ≠ gb141)); have n6_ := Aside0.mk ((by rw [hg]; exact Nat.ne_of_gt (blk_lt (g := gb140) (o := .cells #[.string a0_0, .string a0_1, .slice A0_2 l0_2.length c0_2, .string a0_3] 66 (0, 0)) (by (with_reducible repeat (first | refine bN_ ?_ _ | refine bD_ ?_ | refine bA_ ?_ _)); exact BK140.out)) : gb141 ≠ gb140)); clear BK140; clear HB; have BK140 := n0_; have HB := n1_; have BK141 := n2_; have GW141 := n3_; have GE141 := n4_; have NB140_141 := n5_; have NB141_140 := n6_; clear n0_ n1_ n2_ n3_ n4_ n5_ n6_; clear hb hbox hg; have hnb28 := NB140_141.out; have hnc28 := NB141_140.out; have hcz29_0 : w27.cell? ⟨gb140, 0, none⟩ = some (.string a0_0) := (bc_ BK140.out 0).trans rfl; have hcz29_1 : w27.cell? ⟨gb140, 1, none⟩ = some (.string a0_1) := (bc_ BK140.out 1).trans rfl; have hcz29_2 : w27.cell? ⟨gb140, 2, none⟩ = some (.slice A0_2 l0_2.length c0_2) := (bc_ BK140.out 2).trans rfl; have hcz29_3 : w27.cell? ⟨gb140, 3, none⟩ = some (.string a0_3) := (bc_ BK140.out 3).trans rfl; have hfz29_0 := bF_ BK140.out 0; have hfz29_1 := bF_ BK140.out 1; have hfz29_2 := bF_ BK140.out 2; have hfz29_3 := bF_ BK140.out 3) | ((with_reducible refine gate_callee (f := 48) rfl ?_); refine goesL_ (some 12) rfl rfl Try.func48 (by kernel_rfl) rfl #[.agg #[.string a0_0, .string a0_1, .slice A0_2 l0_2.length c0_2, .string a0_3], .int .i64 1048576] rfl (by (try simp only [List.map_toArray, List.map_cons, List.map_nil]); first | done | rfl | (simp only [List.length_drop, List.length_take]; rfl)) ?_; (with_reducible refine (laws_szReq.calls k a0_0 a0_1 _ _ l0_2 a0_3 1048576 t142 _ ?side1 ?side2 A3.out).mono ?_); (case side1 => repeat (first | exact (Kd.C_below HR0_2.out HB.out) | (with_reducible refine Kd.C_alloc ?_ _) | (with_reducible refine Kd.C_drewN ?_ _) | (with_reducible refine Kd.C_drew ?_))); (case side2 => exact HC0_2.out); rintro e w30 ⟨rfl, hb⟩; refine ⟨_, rfl, ?_⟩; have n0_ := Aside0.mk (bB_ (g := gb140) (o := .cells #[.string a0_0, .string a0_1, .slice A0_2 l0_2.length c0_2, .string a0_3] 66 (0, 0)) (by (with_reducible repeat (first | refine bN_ ?_ _ | refine bD_ ?_ | refine bA_ ?_ _)); exact BK140.out) hb); have n1_ := Aside0.mk (bB_ (g := gb141) (o := .cells #[.string a1_0, .string a1_1, .slice A1_2 l1_2.length c1_2, .string a1_3] 66 (0, 0)) (by (with_reducible repeat (first | refine bN_ ?_ _ | refine bD_ ?_ | refine bA_ ?_ _)); exact BK141.out) hb); have n2_ := Aside0.mk (below_step (by repeat (first | (with_reducible first | exact HB.out | apply aB_ | apply pN_ | apply dB_ | refine sB_ ?_ GE140.out | refine sB_ ?_ GE141.out) | exact HB.out)) hb); clear BK140; clear BK141; clear HB; have BK140 := n0_; have BK141 := n1_; have HB := n2_; clear n0_ n1_ n2_; (try clear hb); (try clear hb2); (try clear hk); (try clear hi); have hcz31_0 : w30.cell? ⟨gb141, 0, none⟩ = some (.string a1_0) := (bc_ BK141.out 0).trans rfl; have hcz31_1 : w30.cell? ⟨gb141, 1, none⟩ = some (.string a1_1) := (bc_ BK141.out 1).trans rfl; have hcz31_2 : w30.cell? ⟨gb141, 2, none⟩ = some (.slice A1_2 l1_2.length c1_2) := (bc_ BK141.out 2).trans rfl; have hcz31_3 : w30.cell? ⟨gb141, 3, none⟩ = some (.string a1_3) := (bc_ BK141.out 3).trans rfl; have hfz31_0 := bF_ BK141.out 0; have hfz31_1 := bF_ BK141.out 1; have hfz31_2 := bF_ BK141.out 2; have hfz31_3 := bF_ BK141.out 3) | ((with_reducible refine gate_callee (f := 48) rfl ?_); refine goesL_ (some 17) rfl rfl Try.func48 (by kernel_rfl) rfl #[.agg #[.string a1_0, .string a1_1, .slice A1_2 l1_2.length c1_2, .string a1_3], .int .i64 t142] rfl (by (try simp only [List.map_toArray, List.map_cons, List.map_nil]); first | done | rfl | (simp only [List.length_drop, List.length_take]; rfl)) ?_; (with_reducible refine (laws_szReq.calls k a1_0 a1_1 _ _ l1_2 a1_3 t142 t143 _ ?side1 ?side2 A10.out).mono ?_); (case side1 => repeat (first | exact (Kd.C_below HR1_2.out HB.out) | (with_reducible refine Kd.C_alloc ?_ _) | (with_reducible refine Kd.C_drewN ?_ _) | (with_reducible refine Kd.C_drew ?_))); (case side2 => exact HC1_2.out); rintro e w32 ⟨rfl, hb⟩; refine ⟨_, rfl, ?_⟩; have n0_ := Aside0.mk (bB_ (g := gb140) (o := .cells #[.string a0_0, .string a0_1, .slice A0_2 l0_2.length c0_2, .string a0_3] 66 (0, 0)) (by (with_reducible repeat (first | refine bN_ ?_ _ | refine bD_ ?_ | refine bA_ ?_ _)); exact BK140.out) hb); have n1_ := Aside0.mk (bB_ (g := gb141) (o := .cells #[.string a1_0, .string a1_1, .slice A1_2 l1_2.length c1_2, .string a1_3] 66 (0, 0)) (by (with_reducible repeat (first | refine bN_ ?_ _ | refine bD_ ?_ | refine bA_ ?_ _)); exact BK141.out) hb); have n2_ := Aside0.mk (below_step (by repeat (first | (with_reducible first | exact HB.out | apply aB_ | apply pN_ | apply dB_ | refine sB_ ?_ GE140.out | refine sB_ ?_ GE141.out) | exact HB.out)) hb); clear BK140; clear BK141; clear HB; have BK140 := n0_; have BK141 := n1_; have HB := n2_; clear n0_ n1_ n2_; (try clear hb); (try clear hb2); (try clear hk); (try clear hi)))
        have n0_ := Aside0.mk (bD_ BK140.out)
        have n1_ := Aside0.mk (bD_ BK141.out)
        have n2_ := Aside0.mk (dB_ HB.out)
        clear BK140
        clear BK141
        clear HB
        have BK140 := n0_
        have BK141 := n1_
        have HB := n2_
        clear n0_ n1_ n2_
        refine start_ (n := 6) (S := fun w' => w'.cell? ⟨gb140, 0, none⟩ = some (.string a0_0) ∧ w'.cell? ⟨gb140, 1, none⟩ = some (.string a0_1) ∧ w'.cell? ⟨gb140, 2, none⟩ = some (.slice A0_2 l0_2.length c0_2) ∧ w'.cell? ⟨gb140, 3, none⟩ = some (.string a0_3) ∧ w'.cell? ⟨gb141, 0, none⟩ = some (.string a1_0) ∧ w'.cell? ⟨gb141, 1, none⟩ = some (.string a1_1) ∧ w'.cell? ⟨gb141, 2, none⟩ = some (.slice A1_2 l1_2.length c1_2) ∧ w'.cell? ⟨gb141, 3, none⟩ = some (.string a1_3)) (ds := []) #[false, false, false, false, false, false] (by kernel_rfl) rfl rfl ⟨(bc_ BK140.out 0).trans rfl, (bc_ BK140.out 1).trans rfl, (bc_ BK140.out 2).trans rfl, (bc_ BK140.out 3).trans rfl, (bc_ BK141.out 0).trans rfl, (bc_ BK141.out 1).trans rfl, (bc_ BK141.out 2).trans rfl, (bc_ BK141.out 3).trans rfl⟩ (fun hHeld => ?_)
        generalize w32.drew = w33 at BK140 BK141 HB hHeld ⊢
        refine take_ (i := 0) (N := some 20) (v := ?_) (a' := ?_) #[true, false, false, false, false, false] rfl rfl (by kernel_rfl) (fun _ _ _ h => h) (Or.inl ⟨by rfl, ?_⟩) hHeld ?_ ?_
        rotate_left
        · rintro w' ⟨s0, s1, s2, s3, s4, s5, s6, s7⟩
          go_simp
          with_reducible rfl
        rotate_left
        · simp only [Act.put, List.setIfInBounds_toArray, List.set_cons_zero, List.set_cons_succ, i64_w, i32_w]
          rfl
        refine take_ (i := 2) (N := some 22) (v := ?_) (a' := ?_) #[true, false, true, false, false, false] rfl rfl (by kernel_rfl) (fun _ _ _ h => h) (Or.inl ⟨by rfl, ?_⟩) hHeld ?_ ?_
        rotate_left
        · rintro w' ⟨s0, s1, s2, s3, s4, s5, s6, s7⟩
          go_simp
          with_reducible rfl
        rotate_left
        · simp only [Act.put, List.setIfInBounds_toArray, List.set_cons_zero, List.set_cons_succ, i64_w, i32_w]
          rfl
        refine one_ (i := 1) (N := some 21) #[true, true, true, false, false, false] rfl rfl (by kernel_rfl) (by decide) (fun K hK => ?_)
        refine goes_ Try.func50 (by kernel_rfl) rfl #[.agg #[.string a0_0, .string a0_1, .slice A0_2 l0_2.length c0_2, .string a0_3]] (by rfl) rfl rfl (by (try simp only [List.map_toArray, List.map_cons, List.map_nil]); first | done | rfl | (simp only [List.length_drop, List.length_take]; rfl)) ?_
        with_reducible refine (laws_toReq.calls k a0_0 a0_1 _ _ l0_2 a0_3 t144 t145 t146 t149 _ ?side1 ?side2 A19.out).mono ?_
        (case side1 => repeat (first | exact (Kd.C_below HR0_2.out HB.out) | (with_reducible refine Kd.C_alloc ?_ _) | (with_reducible refine Kd.C_drewN ?_ _) | (with_reducible refine Kd.C_drew ?_)))
        (case side2 => exact HC0_2.out)
        rintro e w34 ⟨v147, rfl, ho0, hb⟩
        refine ⟨_, rfl, ?_⟩
        have n0_ := Aside0.mk (Kd.R_lower ho0 (below_size (by repeat (first | (with_reducible first | exact HB.out | apply aB_ | apply pN_ | apply dB_ | refine sB_ ?_ GE140.out | refine sB_ ?_ GE141.out) | exact HB.out))))
        have n1_ := Aside0.mk (bB_ (g := gb140) (o := .cells #[.string a0_0, .string a0_1, .slice A0_2 l0_2.length c0_2, .string a0_3] 66 (0, 0)) (by (with_reducible repeat (first | refine bN_ ?_ _ | refine bD_ ?_ | refine bA_ ?_ _)); exact BK140.out) hb)
        have n2_ := Aside0.mk (bB_ (g := gb141) (o := .cells #[.string a1_0, .string a1_1, .slice A1_2 l1_2.length c1_2, .string a1_3] 66 (0, 0)) (by (with_reducible repeat (first | refine bN_ ?_ _ | refine bD_ ?_ | refine bA_ ?_ _)); exact BK141.out) hb)
        have n3_ := Aside0.mk (below_step (by repeat (first | (with_reducible first | exact HB.out | apply aB_ | apply pN_ | apply dB_ | refine sB_ ?_ GE140.out | refine sB_ ?_ GE141.out) | exact HB.out)) hb)
        clear BK140
        clear BK141
        clear HB
        have HO148 := n0_
        have BK140 := n1_
        have BK141 := n2_
        have HB := n3_
        clear n0_ n1_ n2_ n3_
        (try clear hb)
        (try clear hb2)
        (try clear hk)
        (try clear hi)
        (try clear ho0)
        refine hK.out _ _ ⟨(bc_ BK140.out 0).trans rfl, (bc_ BK140.out 1).trans rfl, (bc_ BK140.out 2).trans rfl, (bc_ BK140.out 3).trans rfl, (bc_ BK141.out 0).trans rfl, (bc_ BK141.out 1).trans rfl, (bc_ BK141.out 2).trans rfl, (bc_ BK141.out 3).trans rfl⟩ (fun hHeld => ?_)
        clear hK K
        refine norm_ (a' := ?_) ?_ ?_
        rotate_left
        · show Act.put _ (some 21) _ = _
          simp only [Act.put, List.setIfInBounds_toArray, List.set_cons_zero, List.set_cons_succ, i64_w, i32_w]
          rfl
        refine one_ (i := 3) (N := some 23) #[true, true, true, true, false, false] rfl rfl (by kernel_rfl) (by decide) (fun K hK => ?_)
        refine goes_ Try.func50 (by kernel_rfl) rfl #[.agg #[.string a1_0, .string a1_1, .slice A1_2 l1_2.length c1_2, .string a1_3]] (by rfl) rfl rfl (by (try simp only [List.map_toArray, List.map_cons, List.map_nil]); first | done | rfl | (simp only [List.length_drop, List.length_take]; rfl)) ?_
        with_reducible refine (laws_toReq.calls k a1_0 a1_1 _ _ l1_2 a1_3 t150 t151 t152 t155 _ ?side1 ?side2 A20.out).mono ?_
        (case side1 => repeat (first | exact (Kd.C_below HR1_2.out HB.out) | (with_reducible refine Kd.C_alloc ?_ _) | (with_reducible refine Kd.C_drewN ?_ _) | (with_reducible refine Kd.C_drew ?_)))
        (case side2 => exact HC1_2.out)
        rintro e w35 ⟨v153, rfl, ho0, hb⟩
        refine ⟨_, rfl, ?_⟩
        have n0_ := Aside0.mk (Kd.R_elder' (by (with_reducible repeat (first | apply rA_ | apply rN_ | apply rD_)); exact HO148.out) (Kd.R_base ho0) hb)
        have n1_ := Aside0.mk (Kd.R_lower (Kd.R_new' ho0 (Kd.R_lt (by (with_reducible repeat (first | apply rA_ | apply rN_ | apply rD_)); exact HO148.out))) (below_size (by repeat (first | (with_reducible first | exact HB.out | apply aB_ | apply pN_ | apply dB_ | refine sB_ ?_ GE140.out | refine sB_ ?_ GE141.out) | exact HB.out))))
        have n2_ := Aside0.mk (bB_ (g := gb140) (o := .cells #[.string a0_0, .string a0_1, .slice A0_2 l0_2.length c0_2, .string a0_3] 66 (0, 0)) (by (with_reducible repeat (first | refine bN_ ?_ _ | refine bD_ ?_ | refine bA_ ?_ _)); exact BK140.out) hb)
        have n3_ := Aside0.mk (bB_ (g := gb141) (o := .cells #[.string a1_0, .string a1_1, .slice A1_2 l1_2.length c1_2, .string a1_3] 66 (0, 0)) (by (with_reducible repeat (first | refine bN_ ?_ _ | refine bD_ ?_ | refine bA_ ?_ _)); exact BK141.out) hb)
        have n4_ := Aside0.mk (below_step (by repeat (first | (with_reducible first | exact HB.out | apply aB_ | apply pN_ | apply dB_ | refine sB_ ?_ GE140.out | refine sB_ ?_ GE141.out) | exact HB.out)) hb)
        clear HO148
        clear BK140
        clear BK141
        clear HB
        have HO148 := n0_
        have HO154 := n1_
        have BK140 := n2_
        have BK141 := n3_
        have HB := n4_
        clear n0_ n1_ n2_ n3_ n4_
        (try clear hb)
        (try clear hb2)
        (try clear hk)
        (try clear hi)
        (try clear ho0)
        obtain ⟨Ao36, co36, eo36⟩ := Kd.R_slice HO148.out
        (first | subst eo36 | (injection eo36 with f1_ f2_ f3_; have f4_ := f1_.symm; have f5_ := f3_.symm; clear f1_ f2_ f3_; subst f4_; subst f5_))
        obtain ⟨Ao37, co37, eo37⟩ := Kd.R_slice HO154.out
        (first | subst eo37 | (injection eo37 with f1_ f2_ f3_; have f4_ := f1_.symm; have f5_ := f3_.symm; clear f1_ f2_ f3_; subst f4_; subst f5_))
        refine hK.out _ _ ⟨(bc_ BK140.out 0).trans rfl, (bc_ BK140.out 1).trans rfl, (bc_ BK140.out 2).trans rfl, (bc_ BK140.out 3).trans rfl, (bc_ BK141.out 0).trans rfl, (bc_ BK141.out 1).trans rfl, (bc_ BK141.out 2).trans rfl, (bc_ BK141.out 3).trans rfl⟩ (fun hHeld => ?_)
        clear hK K
        refine norm_ (a' := ?_) ?_ ?_
        rotate_left
        · show Act.put _ (some 23) _ = _
          simp only [Act.put, List.setIfInBounds_toArray, List.set_cons_zero, List.set_cons_succ, i64_w, i32_w]
          rfl
        refine one_ (i := 4) (N := some 24) #[true, true, true, true, true, false] rfl rfl (by kernel_rfl) (by decide) (fun K hK => ?_)
        refine goes_ Try.func49 (by kernel_rfl) rfl #[.agg #[.string t144, .string t145, .slice Ao36 t146.length co36, .string t149], .agg #[.string t150, .string t151, .slice Ao37 t152.length co37, .string t155]] (by rfl) rfl rfl (by (try simp only [List.map_toArray, List.map_cons, List.map_nil]); first | done | rfl | (simp only [List.length_drop, List.length_take]; rfl)) ?_
        with_reducible refine (spec_SameReq.calls k t144 t145 _ _ t146 t149 t150 t151 _ _ t152 t155 t156 _ ?side1 ?side2 ?side3 ?side4 A21.out).mono ?_
        (case side1 => repeat (first | exact (Kd.R_reads' HO148.out).2.2 | (with_reducible refine Kd.C_alloc ?_ _) | (with_reducible refine Kd.C_drewN ?_ _) | (with_reducible refine Kd.C_drew ?_)))
        (case side2 => exact (Kd.R_reads' HO148.out).2.1)
        (case side3 => repeat (first | exact (Kd.R_reads' HO154.out).2.2 | (with_reducible refine Kd.C_alloc ?_ _) | (with_reducible refine Kd.C_drewN ?_ _) | (with_reducible refine Kd.C_drew ?_)))
        (case side4 => exact (Kd.R_reads' HO154.out).2.1)
        rintro e w38 ⟨rfl, hb⟩
        refine ⟨_, rfl, ?_⟩
        have n0_ := Aside0.mk (Kd.R_below (by (with_reducible repeat (first | apply rA_ | apply rN_ | apply rD_)); exact HO148.out) hb)
        have n1_ := Aside0.mk (Kd.R_below (by (with_reducible repeat (first | apply rA_ | apply rN_ | apply rD_)); exact HO154.out) hb)
        have n2_ := Aside0.mk (bB_ (g := gb140) (o := .cells #[.string a0_0, .string a0_1, .slice A0_2 l0_2.length c0_2, .string a0_3] 66 (0, 0)) (by (with_reducible repeat (first | refine bN_ ?_ _ | refine bD_ ?_ | refine bA_ ?_ _)); exact BK140.out) hb)
        have n3_ := Aside0.mk (bB_ (g := gb141) (o := .cells #[.string a1_0, .string a1_1, .slice A1_2 l1_2.length c1_2, .string a1_3] 66 (0, 0)) (by (with_reducible repeat (first | refine bN_ ?_ _ | refine bD_ ?_ | refine bA_ ?_ _)); exact BK141.out) hb)
        have n4_ := Aside0.mk (below_step (by repeat (first | (with_reducible first | exact HB.out | apply aB_ | apply pN_ | apply dB_ | refine sB_ ?_ GE140.out | refine sB_ ?_ GE141.out) | exact HB.out)) hb)
        clear HO148
        clear HO154
        clear BK140
        clear BK141
        clear HB
        have HO148 := n0_
        have HO154 := n1_
        have BK140 := n2_
        have BK141 := n3_
        have HB := n4_
        clear n0_ n1_ n2_ n3_ n4_
        (try clear hb)
        (try clear hb2)
        (try clear hk)
        (try clear hi)
        refine hK.out _ _ ⟨(bc_ BK140.out 0).trans rfl, (bc_ BK140.out 1).trans rfl, (bc_ BK140.out 2).trans rfl, (bc_ BK140.out 3).trans rfl, (bc_ BK141.out 0).trans rfl, (bc_ BK141.out 1).trans rfl, (bc_ BK141.out 2).trans rfl, (bc_ BK141.out 3).trans rfl⟩ (fun hHeld => ?_)
        clear hK K
        refine norm_ (a' := ?_) ?_ ?_
        rotate_left
        · show Act.put _ (some 24) _ = _
          simp only [Act.put, List.setIfInBounds_toArray, List.set_cons_zero, List.set_cons_succ, i64_w, i32_w]
          rfl
        refine pure_ (i := 5) (N := some 6) (v := ?_) (a' := ?_) #[true, true, true, true, true, true] rfl rfl (by kernel_rfl) (fun _ _ _ h => h) (Or.inl ⟨by rfl, ?_⟩) ?_ ?_
        rotate_left
        · intro w'
          go_simp
          with_reducible rfl
        rotate_left
        · simp only [Act.put, List.setIfInBounds_toArray, List.set_cons_zero, List.set_cons_succ, i64_w, i32_w]
          rfl
        refine done_ (by kernel_rfl) ?_
        have hcz39_0 : w38.cell? ⟨gb140, 0, none⟩ = some (.string a0_0) := (bc_ BK140.out 0).trans rfl
        have hcz39_1 : w38.cell? ⟨gb140, 1, none⟩ = some (.string a0_1) := (bc_ BK140.out 1).trans rfl
        have hcz39_2 : w38.cell? ⟨gb140, 2, none⟩ = some (.slice A0_2 l0_2.length c0_2) := (bc_ BK140.out 2).trans rfl
        have hcz39_3 : w38.cell? ⟨gb140, 3, none⟩ = some (.string a0_3) := (bc_ BK140.out 3).trans rfl
        have hfz39_0 := bF_ BK140.out 0
        have hfz39_1 := bF_ BK140.out 1
        have hfz39_2 := bF_ BK140.out 2
        have hfz39_3 := bF_ BK140.out 3
        try go_wp2_with (first | ((with_reducible refine gate_callee (f := 50) rfl ?_); refine goesL_ (some 26) rfl rfl Try.func50 (by kernel_rfl) rfl #[.agg #[.string a0_0, .string a0_1, .slice A0_2 l0_2.length c0_2, .string a0_3]] rfl (by (try simp only [List.map_toArray, List.map_cons, List.map_nil]); first | done | rfl | (simp only [List.length_drop, List.length_take]; rfl)) ?_; (with_reducible refine (laws_toReq.calls k a0_0 a0_1 _ _ l0_2 a0_3 t157 t158 t159 t162 _ ?side1 ?side2 A22.out).mono ?_); (case side1 => repeat (first | exact (Kd.C_below HR0_2.out HB.out) | (with_reducible refine Kd.C_alloc ?_ _) | (with_reducible refine Kd.C_drewN ?_ _) | (with_reducible refine Kd.C_drew ?_))); (case side2 => exact HC0_2.out); rintro e w40 ⟨v160, rfl, ho0, hb⟩; refine ⟨_, rfl, ?_⟩; have n0_ := Aside0.mk (Kd.R_elder' (by (with_reducible repeat (first | apply rA_ | apply rN_ | apply rD_)); exact HO148.out) (Kd.R_base ho0) hb); have n1_ := Aside0.mk (Kd.R_elder' (by (with_reducible repeat (first | apply rA_ | apply rN_ | apply rD_)); exact HO154.out) (Kd.R_base ho0) hb); have n2_ := Aside0.mk (Kd.R_lower (Kd.R_new' (Kd.R_new' ho0 (Kd.R_lt (by (with_reducible repeat (first | apply rA_ | apply rN_ | apply rD_)); exact HO148.out))) (Kd.R_lt (by (with_reducible repeat (first | apply rA_ | apply rN_ | apply rD_)); exact HO154.out))) (below_size (by repeat (first | (with_reducible first | exact HB.out | apply aB_ | apply pN_ | apply dB_ | refine sB_ ?_ GE140.out | refine sB_ ?_ GE141.out) | exact HB.out)))); have n3_ := Aside0.mk (bB_ (g := gb140) (o := .cells #[.string a0_0, .string a0_1, .slice A0_2 l0_2.length c0_2, .string a0_3] 66 (0, 0)) (by (with_reducible repeat (first | refine bN_ ?_ _ | refine bD_ ?_ | refine bA_ ?_ _)); exact BK140.out) hb); have n4_ := Aside0.mk (bB_ (g := gb141) (o := .cells #[.string a1_0, .string a1_1, .slice A1_2 l1_2.length c1_2, .string a1_3] 66 (0, 0)) (by (with_reducible repeat (first | refine bN_ ?_ _ | refine bD_ ?_ | refine bA_ ?_ _)); exact BK141.out) hb); have n5_ := Aside0.mk (below_step (by repeat (first | (with_reducible first | exact HB.out | apply aB_ | apply pN_ | apply dB_ | refine sB_ ?_ GE140.out | refine sB_ ?_ GE141.out) | exact HB.out)) hb); clear HO148; clear HO154; clear BK140; clear BK141; clear HB; have HO148 := n0_; have HO154 := n1_; have HO161 := n2_; have BK140 := n3_; have BK141 := n4_; have HB := n5_; clear n0_ n1_ n2_ n3_ n4_ n5_; (try clear hb); (try clear hb2); (try clear hk); (try clear hi); (try clear ho0)) | ((with_reducible refine gate_dst (N := 7) rfl ?_); refine box_event ?hg (N := 7) ?hd (cs := #[.string (⟨#[]⟩ : ByteArray), .string (⟨#[]⟩ : ByteArray), .slice none 0 0, .string (⟨#[]⟩ : ByteArray)]) (t := 70) ?hr ?_; (case hd => rfl); (case hg => rfl); (case hr => first | (go_simp; done) | (go_simp; rfl)); intro gb163 hg w41 hbox hb; have n0_ := Aside0.mk (Kd.R_below (by (with_reducible repeat (first | apply rA_ | apply rN_ | apply rD_)); exact HO148.out) hb); have n1_ := Aside0.mk (Kd.R_below (by (with_reducible repeat (first | apply rA_ | apply rN_ | apply rD_)); exact HO154.out) hb); have n2_ := Aside0.mk (Kd.R_below (by (with_reducible repeat (first | apply rA_ | apply rN_ | apply rD_)); exact HO161.out) hb); have n3_ := Aside0.mk (bB_ (g := gb140) (o := .cells #[.string a0_0, .string a0_1, .slice A0_2 l0_2.length c0_2, .string a0_3] 66 (0, 0)) (by (with_reducible repeat (first | refine bN_ ?_ _ | refine bD_ ?_ | refine bA_ ?_ _)); exact BK140.out) hb); have n4_ := Aside0.mk (bB_ (g := gb141) (o := .cells #[.string a1_0, .string a1_1, .slice A1_2 l1_2.length c1_2, .string a1_3] 66 (0, 0)) (by (with_reducible repeat (first | refine bN_ ?_ _ | refine bD_ ?_ | refine bA_ ?_ _)); exact BK141.out) hb); have n5_ := Aside0.mk (below_step (by repeat (first | (with_reducible first | exact HB.out | apply aB_ | apply pN_ | apply dB_ | refine sB_ ?_ GE140.out | refine sB_ ?_ GE141.out) | exact HB.out)) hb); have n6_ := Aside0.mk (hbox); have n7_ := Aside0.mk ((by rw [hg]; exact (below_size (by repeat (first | (with_reducible first | exact HB.out | apply aB_ | apply pN_ | apply dB_ | refine sB_ ?_ GE140.out | refine sB_ ?_ GE141.out) | exact HB.out))) : w.heap.size ≤ gb163)); have n8_ := Aside0.mk ((by rw [hg]; exact (below_size (by repeat (first | (with_reducible first | exact HB.out | apply aB_ | apply pN_ | apply dB_ | refine sB_ ?_ GE140.out | refine sB_ ?_ GE141.out) | exact HB.out))) : w.heap.size ≤ gb163)); have n9_ := Aside0.mk ((by rw [hg]; exact Nat.ne_of_lt (blk_lt (g := gb140) (o := .cells #[.string a0_0, .string a0_1, .slice A0_2 l0_2.length c0_2, .string a0_3] 66 (0, 0)) (by (with_reducible repeat (first | refine bN_ ?_ _ | refine bD_ ?_ | refine bA_ ?_ _)); exact BK140.out)) : gb140 ≠ gb163)); have n10_ := Aside0.mk ((by rw [hg]; exact Nat.ne_of_gt (blk_lt (g := gb140) (o := .cells #[.string a0_0, .string a0_1, .slice A0_2 l0_2.length c0_2, .string a0_3] 66 (0, 0)) (by (with_reducible repeat (first | refine bN_ ?_ _ | refine bD_ ?_ | refine bA_ ?_ _)); exact BK140.out)) : gb163 ≠ gb140)); have n11_ := Aside0.mk ((by rw [hg]; exact Nat.ne_of_lt (blk_lt (g := gb141) (o := .cells #[.string a1_0, .string a1_1, .slice A1_2 l1_2.length c1_2, .string a1_3] 66 (0, 0)) (by (with_reducible repeat (first | refine bN_ ?_ _ | refine bD_ ?_ | refine bA_ ?_ _)); exact BK141.out)) : gb141 ≠ gb163)); have n12_ := Aside0.mk ((by rw [hg]; exact Nat.ne_of_gt (blk_lt (g := gb141) (o := .cells #[.string a1_0, .string a1_1, .slice A1_2 l1_2.length c1_2, .string a1_3] 66 (0, 0)) (by (with_reducible repeat (first | refine bN_ ?_ _ | refine bD_ ?_ | refine bA_ ?_ _)); exact BK141.out)) : gb163 ≠ gb141)); clear HO148; clear HO154; clear HO161; clear BK140; clear BK141; clear HB; have HO148 := n0_; have HO154 := n1_; have HO161 := n2_; have BK140 := n3_; have BK141 := n4_; have HB := n5_; have BK163 := n6_; have GW163 := n7_; have GE163 := n8_; have NB140_163 := n9_; have NB163_140 := n10_; have NB141_163 := n11_; have NB163_141 := n12_; clear n0_ n1_ n2_ n3_ n4_ n5_ n6_ n7_ n8_ n9_ n10_ n11_ n12_; clear hb hbox hg; have hnb42 := NB163_140.out; have hnc42 := NB140_163.out; have hnb43 := NB163_141.out; have hnc43 := NB141_163.out; have hcz44_0 : w41.cell? ⟨gb163, 0, none⟩ = some (.string (⟨#[]⟩ : ByteArray)) := (bc_ BK163.out 0).trans rfl; have hcz44_1 : w41.cell? ⟨gb163, 1, none⟩ = some (.string (⟨#[]⟩ : ByteArray)) := (bc_ BK163.out 1).trans rfl; have hcz44_2 : w41.cell? ⟨gb163, 2, none⟩ = some (.slice none 0 0) := (bc_ BK163.out 2).trans rfl; have hcz44_3 : w41.cell? ⟨gb163, 3, none⟩ = some (.string (⟨#[]⟩ : ByteArray)) := (bc_ BK163.out 3).trans rfl; have hfz44_0 := bF_ BK163.out 0; have hfz44_1 := bF_ BK163.out 1; have hfz44_2 := bF_ BK163.out 2; have hfz44_3 := bF_ BK163.out 3; obtain ⟨Ao45, co45, eo45⟩ := Kd.R_slice HO161.out; subst eo45; have hcz46_0 : w41.cell? ⟨gb141, 0, none⟩ = some (.string a1_0) := (bc_ BK141.out 0).trans rfl; have hcz46_1 : w41.cell? ⟨gb141, 1, none⟩ = some (.string a1_1) := (bc_ BK141.out 1).trans rfl; have hcz46_2 : w41.cell? ⟨gb141, 2, none⟩ = some (.slice A1_2 l1_2.length c1_2) := (bc_ BK141.out 2).trans rfl; have hcz46_3 : w41.cell? ⟨gb141, 3, none⟩ = some (.string a1_3) := (bc_ BK141.out 3).trans rfl; have hfz46_0 := bF_ BK141.out 0; have hfz46_1 := bF_ BK141.out 1; have hfz46_2 := bF_ BK141.out 2; have hfz46_3 := bF_ BK141.out 3) | ((with_reducible refine gate_callee (f := 50) rfl ?_); refine goesL_ (some 28) rfl rfl Try.func50 (by kernel_rfl) rfl #[.agg #[.string a1_0, .string a1_1, .slice A1_2 l1_2.length c1_2, .string a1_3]] rfl (by (try simp only [List.map_toArray, List.map_cons, List.map_nil]); first | done | rfl | (simp only [List.length_drop, List.length_take]; rfl)) ?_; (with_reducible refine (laws_toReq.calls k a1_0 a1_1 _ _ l1_2 a1_3 t164 t165 t166 t169 _ ?side1 ?side2 A23.out).mono ?_); (case side1 => exact Kd.C_below HR1_2.out (by repeat (first | (with_reducible first | exact HB.out | apply aB_ | apply pN_ | apply dB_ | refine sB_ ?_ GE140.out | refine sB_ ?_ GE141.out | refine sB_ ?_ GE163.out) | exact HB.out))); (case side2 => exact HC1_2.out); rintro e w47 ⟨v167, rfl, ho0, hb⟩; refine ⟨_, rfl, ?_⟩; have n0_ := Aside0.mk (Kd.R_elder' (by (with_reducible repeat (first | apply rA_ | apply rN_ | apply rD_)); exact (Kd.R_mono (rF_ (p := ⟨gb163, 3, none⟩) (rF_ (p := ⟨gb163, 2, none⟩) (rF_ (p := ⟨gb163, 1, none⟩) (rF_ (p := ⟨gb163, 0, none⟩) (Kd.R_types HO148.out BK163.out (by decide)) (fun _ hk => hk.2) (.string t157)) (fun _ hk => hk.2) (.string t158)) (fun _ hk => hk.2) (.slice Ao45 t159.length co45)) (fun _ hk => hk.2) (.string t162)) (fun _ h_ => h_.1))) (Kd.R_base ho0) hb); have n1_ := Aside0.mk (Kd.R_elder' (by (with_reducible repeat (first | apply rA_ | apply rN_ | apply rD_)); exact (Kd.R_mono (rF_ (p := ⟨gb163, 3, none⟩) (rF_ (p := ⟨gb163, 2, none⟩) (rF_ (p := ⟨gb163, 1, none⟩) (rF_ (p := ⟨gb163, 0, none⟩) (Kd.R_types HO154.out BK163.out (by decide)) (fun _ hk => hk.2) (.string t157)) (fun _ hk => hk.2) (.string t158)) (fun _ hk => hk.2) (.slice Ao45 t159.length co45)) (fun _ hk => hk.2) (.string t162)) (fun _ h_ => h_.1))) (Kd.R_base ho0) hb); have n2_ := Aside0.mk (Kd.R_elder' (by (with_reducible repeat (first | apply rA_ | apply rN_ | apply rD_)); exact (Kd.R_mono (rF_ (p := ⟨gb163, 3, none⟩) (rF_ (p := ⟨gb163, 2, none⟩) (rF_ (p := ⟨gb163, 1, none⟩) (rF_ (p := ⟨gb163, 0, none⟩) (Kd.R_types HO161.out BK163.out (by decide)) (fun _ hk => hk.2) (.string t157)) (fun _ hk => hk.2) (.string t158)) (fun _ hk => hk.2) (.slice Ao45 t159.length co45)) (fun _ hk => hk.2) (.string t162)) (fun _ h_ => h_.1))) (Kd.R_base ho0) hb); have n3_ := Aside0.mk (Kd.R_lower (Kd.R_new' (Kd.R_new' (Kd.R_new' ho0 (Kd.R_lt (by (with_reducible repeat (first | apply rA_ | apply rN_ | apply rD_)); exact (Kd.R_mono (rF_ (p := ⟨gb163, 3, none⟩) (rF_ (p := ⟨gb163, 2, none⟩) (rF_ (p := ⟨gb163, 1, none⟩) (rF_ (p := ⟨gb163, 0, none⟩) (Kd.R_types HO148.out BK163.out (by decide)) (fun _ hk => hk.2) (.string t157)) (fun _ hk => hk.2) (.string t158)) (fun _ hk => hk.2) (.slice Ao45 t159.length co45)) (fun _ hk => hk.2) (.string t162)) (fun _ h_ => h_.1))))) (Kd.R_lt (by (with_reducible repeat (first | apply rA_ | apply rN_ | apply rD_)); exact (Kd.R_mono (rF_ (p := ⟨gb163, 3, none⟩) (rF_ (p := ⟨gb163, 2, none⟩) (rF_ (p := ⟨gb163, 1, none⟩) (rF_ (p := ⟨gb163, 0, none⟩) (Kd.R_types HO154.out BK163.out (by decide)) (fun _ hk => hk.2) (.string t157)) (fun _ hk => hk.2) (.string t158)) (fun _ hk => hk.2) (.slice Ao45 t159.length co45)) (fun _ hk => hk.2) (.string t162)) (fun _ h_ => h_.1))))) (Kd.R_lt (by (with_reducible repeat (first | apply rA_ | apply rN_ | apply rD_)); exact (Kd.R_mono (rF_ (p := ⟨gb163, 3, none⟩) (rF_ (p := ⟨gb163, 2, none⟩) (rF_ (p := ⟨gb163, 1, none⟩) (rF_ (p := ⟨gb163, 0, none⟩) (Kd.R_types HO161.out BK163.out (by decide)) (fun _ hk => hk.2) (.string t157)) (fun _ hk => hk.2) (.string t158)) (fun _ hk => hk.2) (.slice Ao45 t159.length co45)) (fun _ hk => hk.2) (.string t162)) (fun _ h_ => h_.1))))) (below_size (by repeat (first | (with_reducible first | exact HB.out | apply aB_ | apply pN_ | apply dB_ | refine sB_ ?_ GE140.out | refine sB_ ?_ GE141.out | refine sB_ ?_ GE163.out) | exact HB.out)))); have n4_ := Aside0.mk (bB_ (g := gb140) (o := .cells #[.string a0_0, .string a0_1, .slice A0_2 l0_2.length c0_2, .string a0_3] 66 (0, 0)) (by (with_reducible repeat (first | refine bN_ ?_ _ | refine bD_ ?_ | refine bA_ ?_ _)); refine blk_far ?_ NB140_163.out _; (with_reducible repeat (first | refine bN_ ?_ _ | refine bD_ ?_ | refine bA_ ?_ _)); refine blk_far ?_ NB140_163.out _; (with_reducible repeat (first | refine bN_ ?_ _ | refine bD_ ?_ | refine bA_ ?_ _)); refine blk_far ?_ NB140_163.out _; (with_reducible repeat (first | refine bN_ ?_ _ | refine bD_ ?_ | refine bA_ ?_ _)); refine blk_far ?_ NB140_163.out _; (with_reducible repeat (first | refine bN_ ?_ _ | refine bD_ ?_ | refine bA_ ?_ _)); exact BK140.out) hb); have n5_ := Aside0.mk (bB_ (g := gb141) (o := .cells #[.string a1_0, .string a1_1, .slice A1_2 l1_2.length c1_2, .string a1_3] 66 (0, 0)) (by (with_reducible repeat (first | refine bN_ ?_ _ | refine bD_ ?_ | refine bA_ ?_ _)); refine blk_far ?_ NB141_163.out _; (with_reducible repeat (first | refine bN_ ?_ _ | refine bD_ ?_ | refine bA_ ?_ _)); refine blk_far ?_ NB141_163.out _; (with_reducible repeat (first | refine bN_ ?_ _ | refine bD_ ?_ | refine bA_ ?_ _)); refine blk_far ?_ NB141_163.out _; (with_reducible repeat (first | refine bN_ ?_ _ | refine bD_ ?_ | refine bA_ ?_ _)); refine blk_far ?_ NB141_163.out _; (with_reducible repeat (first | refine bN_ ?_ _ | refine bD_ ?_ | refine bA_ ?_ _)); exact BK141.out) hb); have n6_ := Aside0.mk (bB_ (g := gb163) (o := .cells #[.string t157, .string t158, .slice Ao45 t159.length co45, .string t162] 70 (0, 0)) (by (with_reducible repeat (first | refine bN_ ?_ _ | refine bD_ ?_ | refine bA_ ?_ _)); refine blk_put (cs := #[.string t157, .string t158, .slice Ao45 t159.length co45, .string (⟨#[]⟩ : ByteArray)]) ?_ 3 _ rfl; (with_reducible repeat (first | refine bN_ ?_ _ | refine bD_ ?_ | refine bA_ ?_ _)); refine blk_put (cs := #[.string t157, .string t158, .slice none 0 0, .string (⟨#[]⟩ : ByteArray)]) ?_ 2 _ rfl; (with_reducible repeat (first | refine bN_ ?_ _ | refine bD_ ?_ | refine bA_ ?_ _)); refine blk_put (cs := #[.string t157, .string (⟨#[]⟩ : ByteArray), .slice none 0 0, .string (⟨#[]⟩ : ByteArray)]) ?_ 1 _ rfl; (with_reducible repeat (first | refine bN_ ?_ _ | refine bD_ ?_ | refine bA_ ?_ _)); refine blk_put (cs := #[.string (⟨#[]⟩ : ByteArray), .string (⟨#[]⟩ : ByteArray), .slice none 0 0, .string (⟨#[]⟩ : ByteArray)]) ?_ 0 _ rfl; (with_reducible repeat (first | refine bN_ ?_ _ | refine bD_ ?_ | refine bA_ ?_ _)); exact BK163.out) hb); have n7_ := Aside0.mk (below_step (by repeat (first | (with_reducible first | exact HB.out | apply aB_ | apply pN_ | apply dB_ | refine sB_ ?_ GE140.out | refine sB_ ?_ GE141.out | refine sB_ ?_ GE163.out) | exact HB.out)) hb); clear HO148; clear HO154; clear HO161; clear BK140; clear BK141; clear BK163; clear HB; have HO148 := n0_; have HO154 := n1_; have HO161 := n2_; have HO168 := n3_; have BK140 := n4_; have BK141 := n5_; have BK163 := n6_; have HB := n7_; clear n0_ n1_ n2_ n3_ n4_ n5_ n6_ n7_; (try clear hb); (try clear hb2); (try clear hk); (try clear hi); (try clear ho0)) | ((with_reducible refine gate_dst (N := 8) rfl ?_); refine box_event ?hg (N := 8) ?hd (cs := #[.string (⟨#[]⟩ : ByteArray), .string (⟨#[]⟩ : ByteArray), .slice none 0 0, .string (⟨#[]⟩ : ByteArray)]) (t := 70) ?hr ?_; (case hd => rfl); (case hg => rfl); (case hr => first | (go_simp; done) | (go_simp; rfl)); intro gb170 hg w48 hbox hb; have n0_ := Aside0.mk (Kd.R_below (by (with_reducible repeat (first | apply rA_ | apply rN_ | apply rD_)); exact HO148.out) hb); have n1_ := Aside0.mk (Kd.R_below (by (with_reducible repeat (first | apply rA_ | apply rN_ | apply rD_)); exact HO154.out) hb); have n2_ := Aside0.mk (Kd.R_below (by (with_reducible repeat (first | apply rA_ | apply rN_ | apply rD_)); exact HO161.out) hb); have n3_ := Aside0.mk (Kd.R_below (by (with_reducible repeat (first | apply rA_ | apply rN_ | apply rD_)); exact HO168.out) hb); have n4_ := Aside0.mk (bB_ (g := gb140) (o := .cells #[.string a0_0, .string a0_1, .slice A0_2 l0_2.length c0_2, .string a0_3] 66 (0, 0)) (by (with_reducible repeat (first | refine bN_ ?_ _ | refine bD_ ?_ | refine bA_ ?_ _)); exact BK140.out) hb); have n5_ := Aside0.mk (bB_ (g := gb141) (o := .cells #[.string a1_0, .string a1_1, .slice A1_2 l1_2.length c1_2, .string a1_3] 66 (0, 0)) (by (with_reducible repeat (first | refine bN_ ?_ _ | refine bD_ ?_ | refine bA_ ?_ _)); exact BK141.out) hb); have n6_ := Aside0.mk (bB_ (g := gb163) (o := .cells #[.string t157, .string t158, .slice Ao45 t159.length co45, .string t162] 70 (0, 0)) (by (with_reducible repeat (first | refine bN_ ?_ _ | refine bD_ ?_ | refine bA_ ?_ _)); exact BK163.out) hb); have n7_ := Aside0.mk (below_step (by repeat (first | (with_reducible first | exact HB.out | apply aB_ | apply pN_ | apply dB_ | refine sB_ ?_ GE140.out | refine sB_ ?_ GE141.out | refine sB_ ?_ GE163.out) | exact HB.out)) hb); have n8_ := Aside0.mk (hbox); have n9_ := Aside0.mk ((by rw [hg]; exact (below_size (by repeat (first | (with_reducible first | exact HB.out | apply aB_ | apply pN_ | apply dB_ | refine sB_ ?_ GE140.out | refine sB_ ?_ GE141.out | refine sB_ ?_ GE163.out) | exact HB.out))) : w.heap.size ≤ gb170)); have n10_ := Aside0.mk ((by rw [hg]; exact (below_size (by repeat (first | (with_reducible first | exact HB.out | apply aB_ | apply pN_ | apply dB_ | refine sB_ ?_ GE140.out | refine sB_ ?_ GE141.out | refine sB_ ?_ GE163.out) | exact HB.out))) : w.heap.size ≤ gb170)); have n11_ := Aside0.mk ((by rw [hg]; exact Nat.ne_of_lt (blk_lt (g := gb140) (o := .cells #[.string a0_0, .string a0_1, .slice A0_2 l0_2.length c0_2, .string a0_3] 66 (0, 0)) (by (with_reducible repeat (first | refine bN_ ?_ _ | refine bD_ ?_ | refine bA_ ?_ _)); exact BK140.out)) : gb140 ≠ gb170)); have n12_ := Aside0.mk ((by rw [hg]; exact Nat.ne_of_gt (blk_lt (g := gb140) (o := .cells #[.string a0_0, .string a0_1, .slice A0_2 l0_2.length c0_2, .string a0_3] 66 (0, 0)) (by (with_reducible repeat (first | refine bN_ ?_ _ | refine bD_ ?_ | refine bA_ ?_ _)); exact BK140.out)) : gb170 ≠ gb140)); have n13_ := Aside0.mk ((by rw [hg]; exact Nat.ne_of_lt (blk_lt (g := gb141) (o := .cells #[.string a1_0, .string a1_1, .slice A1_2 l1_2.length c1_2, .string a1_3] 66 (0, 0)) (by (with_reducible repeat (first | refine bN_ ?_ _ | refine bD_ ?_ | refine bA_ ?_ _)); exact BK141.out)) : gb141 ≠ gb170)); have n14_ := Aside0.mk ((by rw [hg]; exact Nat.ne_of_gt (blk_lt (g := gb141) (o := .cells #[.string a1_0, .string a1_1, .slice A1_2 l1_2.length c1_2, .string a1_3] 66 (0, 0)) (by (with_reducible repeat (first | refine bN_ ?_ _ | refine bD_ ?_ | refine bA_ ?_ _)); exact BK141.out)) : gb170 ≠ gb141)); have n15_ := Aside0.mk ((by rw [hg]; exact Nat.ne_of_lt (blk_lt (g := gb163) (o := .cells #[.string t157, .string t158, .slice Ao45 t159.length co45, .string t162] 70 (0, 0)) (by (with_reducible repeat (first | refine bN_ ?_ _ | refine bD_ ?_ | refine bA_ ?_ _)); exact BK163.out)) : gb163 ≠ gb170)); have n16_ := Aside0.mk ((by rw [hg]; exact Nat.ne_of_gt (blk_lt (g := gb163) (o := .cells #[.string t157, .string t158, .slice Ao45 t159.length co45, .string t162] 70 (0, 0)) (by (with_reducible repeat (first | refine bN_ ?_ _ | refine bD_ ?_ | refine bA_ ?_ _)); exact BK163.out)) : gb170 ≠ gb163)); clear HO148; clear HO154; clear HO161; clear HO168; clear BK140; clear BK141; clear BK163; clear HB; have HO148 := n0_; have HO154 := n1_; have HO161 := n2_; have HO168 := n3_; have BK140 := n4_; have BK141 := n5_; have BK163 := n6_; have HB := n7_; have BK170 := n8_; have GW170 := n9_; have GE170 := n10_; have NB140_170 := n11_; have NB170_140 := n12_; have NB141_170 := n13_; have NB170_141 := n14_; have NB163_170 := n15_; have NB170_163 := n16_; clear n0_ n1_ n2_ n3_ n4_ n5_ n6_ n7_ n8_ n9_ n10_ n11_ n12_ n13_ n14_ n15_ n16_; clear hb hbox hg; have hnb49 := NB170_140.out; have hnc49 := NB140_170.out; have hnb50 := NB170_141.out; have hnc50 := NB141_170.out; have hnb51 := NB170_163.out; have hnc51 := NB163_170.out; have hcz52_0 : w48.cell? ⟨gb170, 0, none⟩ = some (.string (⟨#[]⟩ : ByteArray)) := (bc_ BK170.out 0).trans rfl; have hcz52_1 : w48.cell? ⟨gb170, 1, none⟩ = some (.string (⟨#[]⟩ : ByteArray)) := (bc_ BK170.out 1).trans rfl; have hcz52_2 : w48.cell? ⟨gb170, 2, none⟩ = some (.slice none 0 0) := (bc_ BK170.out 2).trans rfl; have hcz52_3 : w48.cell? ⟨gb170, 3, none⟩ = some (.string (⟨#[]⟩ : ByteArray)) := (bc_ BK170.out 3).trans rfl; have hfz52_0 := bF_ BK170.out 0; have hfz52_1 := bF_ BK170.out 1; have hfz52_2 := bF_ BK170.out 2; have hfz52_3 := bF_ BK170.out 3; obtain ⟨Ao53, co53, eo53⟩ := Kd.R_slice HO168.out; subst eo53; have hcz54_0 : w48.cell? ⟨gb163, 0, none⟩ = some (.string t157) := (bc_ BK163.out 0).trans rfl; have hcz54_1 : w48.cell? ⟨gb163, 1, none⟩ = some (.string t158) := (bc_ BK163.out 1).trans rfl; have hcz54_2 : w48.cell? ⟨gb163, 2, none⟩ = some (.slice Ao45 t159.length co45) := (bc_ BK163.out 2).trans rfl; have hcz54_3 : w48.cell? ⟨gb163, 3, none⟩ = some (.string t162) := (bc_ BK163.out 3).trans rfl; have hfz54_0 := bF_ BK163.out 0; have hfz54_1 := bF_ BK163.out 1; have hfz54_2 := bF_ BK163.out 2; have hfz54_3 := bF_ BK163.out 3) | ((with_reducible refine gate_callee (f := 51) rfl ?_); refine goesL_ (some 31) rfl rfl Try.func51 (by kernel_rfl) rfl #[.agg #[.string t157, .string t158, .slice Ao45 t159.length co45, .string t162], .agg #[.string t164, .string t165, .slice Ao53 t166.length co53, .string t169]] rfl (by (try simp only [List.map_toArray, List.map_cons, List.map_nil]); first | done | rfl | (simp only [List.length_drop, List.length_take]; rfl)) ?_; (with_reducible refine (impl_SameReq.calls k t157 t158 _ _ t159 t162 t164 t165 _ _ t166 t169 t171 _ ?side1 ?side2 ?side3 ?side4 A24.out).mono ?_); (case side1 => refine (Kd.R_reads' (e := 81) (base := w.heap.size) (ok := fun k_ => (((True ∧ some k_ ≠ (.slice Ao36 t146.length co36 : Value).ownBlock) ∧ some k_ ≠ (.slice Ao37 t152.length co37 : Value).ownBlock) ∧ some k_ ≠ (.slice Ao53 t166.length co53 : Value).ownBlock)) (n := t159.length) (c := co45) ?_).2.2; exact (by (with_reducible repeat (first | apply rA_ | apply rN_ | apply rD_)); exact (Kd.R_mono (rF_ (p := ⟨gb170, 3, none⟩) (rF_ (p := ⟨gb170, 2, none⟩) (rF_ (p := ⟨gb170, 1, none⟩) (rF_ (p := ⟨gb170, 0, none⟩) (Kd.R_types HO161.out BK170.out (by decide)) (fun _ hk => hk.2) (.string t164)) (fun _ hk => hk.2) (.string t165)) (fun _ hk => hk.2) (.slice Ao53 t166.length co53)) (fun _ hk => hk.2) (.string t169)) (fun _ h_ => h_.1)))); (case side2 => exact (Kd.R_reads' HO161.out).2.1); (case side3 => refine (Kd.R_reads' (e := 81) (base := w.heap.size) (ok := fun k_ => (((True ∧ some k_ ≠ (.slice Ao36 t146.length co36 : Value).ownBlock) ∧ some k_ ≠ (.slice Ao37 t152.length co37 : Value).ownBlock) ∧ some k_ ≠ (.slice Ao45 t159.length co45 : Value).ownBlock)) (n := t166.length) (c := co53) ?_).2.2; exact (by (with_reducible repeat (first | apply rA_ | apply rN_ | apply rD_)); exact (Kd.R_mono (rF_ (p := ⟨gb170, 3, none⟩) (rF_ (p := ⟨gb170, 2, none⟩) (rF_ (p := ⟨gb170, 1, none⟩) (rF_ (p := ⟨gb170, 0, none⟩) (Kd.R_types HO168.out BK170.out (by decide)) (fun _ hk => hk.2) (.string t164)) (fun _ hk => hk.2) (.string t165)) (fun _ hk => hk.2) (.slice Ao53 t166.length co53)) (fun _ hk => hk.2) (.string t169)) (fun _ h_ => h_.1)))); (case side4 => exact (Kd.R_reads' HO168.out).2.1); rintro e w55 ⟨rfl, hb⟩; refine ⟨_, rfl, ?_⟩; have n0_ := Aside0.mk (Kd.R_below (by (with_reducible repeat (first | apply rA_ | apply rN_ | apply rD_)); exact (Kd.R_mono (rF_ (p := ⟨gb170, 3, none⟩) (rF_ (p := ⟨gb170, 2, none⟩) (rF_ (p := ⟨gb170, 1, none⟩) (rF_ (p := ⟨gb170, 0, none⟩) (Kd.R_types HO148.out BK170.out (by decide)) (fun _ hk => hk.2) (.string t164)) (fun _ hk => hk.2) (.string t165)) (fun _ hk => hk.2) (.slice Ao53 t166.length co53)) (fun _ hk => hk.2) (.string t169)) (fun _ h_ => h_.1))) hb); have n1_ := Aside0.mk (Kd.R_below (by (with_reducible repeat (first | apply rA_ | apply rN_ | apply rD_)); exact (Kd.R_mono (rF_ (p := ⟨gb170, 3, none⟩) (rF_ (p := ⟨gb170, 2, none⟩) (rF_ (p := ⟨gb170, 1, none⟩) (rF_ (p := ⟨gb170, 0, none⟩) (Kd.R_types HO154.out BK170.out (by decide)) (fun _ hk => hk.2) (.string t164)) (fun _ hk => hk.2) (.string t165)) (fun _ hk => hk.2) (.slice Ao53 t166.length co53)) (fun _ hk => hk.2) (.string t169)) (fun _ h_ => h_.1))) hb); have n2_ := Aside0.mk (Kd.R_below (by (with_reducible repeat (first | apply rA_ | apply rN_ | apply rD_)); exact (Kd.R_mono (rF_ (p := ⟨gb170, 3, none⟩) (rF_ (p := ⟨gb170, 2, none⟩) (rF_ (p := ⟨gb170, 1, none⟩) (rF_ (p := ⟨gb170, 0, none⟩) (Kd.R_types HO161.out BK170.out (by decide)) (fun _ hk => hk.2) (.string t164)) (fun _ hk => hk.2) (.string t165)) (fun _ hk => hk.2) (.slice Ao53 t166.length co53)) (fun _ hk => hk.2) (.string t169)) (fun _ h_ => h_.1))) hb); have n3_ := Aside0.mk (Kd.R_below (by (with_reducible repeat (first | apply rA_ | apply rN_ | apply rD_)); exact (Kd.R_mono (rF_ (p := ⟨gb170, 3, none⟩) (rF_ (p := ⟨gb170, 2, none⟩) (rF_ (p := ⟨gb170, 1, none⟩) (rF_ (p := ⟨gb170, 0, none⟩) (Kd.R_types HO168.out BK170.out (by decide)) (fun _ hk => hk.2) (.string t164)) (fun _ hk => hk.2) (.string t165)) (fun _ hk => hk.2) (.slice Ao53 t166.length co53)) (fun _ hk => hk.2) (.string t169)) (fun _ h_ => h_.1))) hb); have n4_ := Aside0.mk (bB_ (g := gb140) (o := .cells #[.string a0_0, .string a0_1, .slice A0_2 l0_2.length c0_2, .string a0_3] 66 (0, 0)) (by (with_reducible repeat (first | refine bN_ ?_ _ | refine bD_ ?_ | refine bA_ ?_ _)); refine blk_far ?_ NB140_170.out _; (with_reducible repeat (first | refine bN_ ?_ _ | refine bD_ ?_ | refine bA_ ?_ _)); refine blk_far ?_ NB140_170.out _; (with_reducible repeat (first | refine bN_ ?_ _ | refine bD_ ?_ | refine bA_ ?_ _)); refine blk_far ?_ NB140_170.out _; (with_reducible repeat (first | refine bN_ ?_ _ | refine bD_ ?_ | refine bA_ ?_ _)); refine blk_far ?_ NB140_170.out _; (with_reducible repeat (first | refine bN_ ?_ _ | refine bD_ ?_ | refine bA_ ?_ _)); exact BK140.out) hb); have n5_ := Aside0.mk (bB_ (g := gb141) (o := .cells #[.string a1_0, .string a1_1, .slice A1_2 l1_2.length c1_2, .string a1_3] 66 (0, 0)) (by (with_reducible repeat (first | refine bN_ ?_ _ | refine bD_ ?_ | refine bA_ ?_ _)); refine blk_far ?_ NB141_170.out _; (with_reducible repeat (first | refine bN_ ?_ _ | refine bD_ ?_ | refine bA_ ?_ _)); refine blk_far ?_ NB141_170.out _; (with_reducible repeat (first | refine bN_ ?_ _ | refine bD_ ?_ | refine bA_ ?_ _)); refine blk_far ?_ NB141_170.out _; (with_reducible repeat (first | refine bN_ ?_ _ | refine bD_ ?_ | refine bA_ ?_ _)); refine blk_far ?_ NB141_170.out _; (with_reducible repeat (first | refine bN_ ?_ _ | refine bD_ ?_ | refine bA_ ?_ _)); exact BK141.out) hb); have n6_ := Aside0.mk (bB_ (g := gb163) (o := .cells #[.string t157, .string t158, .slice Ao45 t159.length co45, .string t162] 70 (0, 0)) (by (with_reducible repeat (first | refine bN_ ?_ _ | refine bD_ ?_ | refine bA_ ?_ _)); refine blk_far ?_ NB163_170.out _; (with_reducible repeat (first | refine bN_ ?_ _ | refine bD_ ?_ | refine bA_ ?_ _)); refine blk_far ?_ NB163_170.out _; (with_reducible repeat (first | refine bN_ ?_ _ | refine bD_ ?_ | refine bA_ ?_ _)); refine blk_far ?_ NB163_170.out _; (with_reducible repeat (first | refine bN_ ?_ _ | refine bD_ ?_ | refine bA_ ?_ _)); refine blk_far ?_ NB163_170.out _; (with_reducible repeat (first | refine bN_ ?_ _ | refine bD_ ?_ | refine bA_ ?_ _)); exact BK163.out) hb); have n7_ := Aside0.mk (bB_ (g := gb170) (o := .cells #[.string t164, .string t165, .slice Ao53 t166.length co53, .string t169] 70 (0, 0)) (by (with_reducible repeat (first | refine bN_ ?_ _ | refine bD_ ?_ | refine bA_ ?_ _)); refine blk_put (cs := #[.string t164, .string t165, .slice Ao53 t166.length co53, .string (⟨#[]⟩ : ByteArray)]) ?_ 3 _ rfl; (with_reducible repeat (first | refine bN_ ?_ _ | refine bD_ ?_ | refine bA_ ?_ _)); refine blk_put (cs := #[.string t164, .string t165, .slice none 0 0, .string (⟨#[]⟩ : ByteArray)]) ?_ 2 _ rfl; (with_reducible repeat (first | refine bN_ ?_ _ | refine bD_ ?_ | refine bA_ ?_ _)); refine blk_put (cs := #[.string t164, .string (⟨#[]⟩ : ByteArray), .slice none 0 0, .string (⟨#[]⟩ : ByteArray)]) ?_ 1 _ rfl; (with_reducible repeat (first | refine bN_ ?_ _ | refine bD_ ?_ | refine bA_ ?_ _)); refine blk_put (cs := #[.string (⟨#[]⟩ : ByteArray), .string (⟨#[]⟩ : ByteArray), .slice none 0 0, .string (⟨#[]⟩ : ByteArray)]) ?_ 0 _ rfl; (with_reducible repeat (first | refine bN_ ?_ _ | refine bD_ ?_ | refine bA_ ?_ _)); exact BK170.out) hb); have n8_ := Aside0.mk (below_step (by repeat (first | (with_reducible first | exact HB.out | apply aB_ | apply pN_ | apply dB_ | refine sB_ ?_ GE140.out | refine sB_ ?_ GE141.out | refine sB_ ?_ GE163.out | refine sB_ ?_ GE170.out) | exact HB.out)) hb); clear HO148; clear HO154; clear HO161; clear HO168; clear BK140; clear BK141; clear BK163; clear BK170; clear HB; have HO148 := n0_; have HO154 := n1_; have HO161 := n2_; have HO168 := n3_; have BK140 := n4_; have BK141 := n5_; have BK163 := n6_; have BK170 := n7_; have HB := n8_; clear n0_ n1_ n2_ n3_ n4_ n5_ n6_ n7_ n8_; (try clear hb); (try clear hb2); (try clear hk); (try clear hi)))
        go_ret
        exact ⟨by first | rfl | (simp [errW_none, errW_some] <;> rfl) | (simp [*, errW_none, errW_some] <;> rfl), by repeat (first | (with_reducible first | exact HB.out | apply aB_ | apply pN_ | apply dB_ | refine sB_ ?_ GE140.out | refine sB_ ?_ GE141.out | refine sB_ ?_ GE163.out | refine sB_ ?_ GE170.out) | exact HB.out)⟩
      · rw [if_neg c25] at H
        have c25b0 : (t171 != t156) = false := by simpa using c25
        (try (have c25b1 : decide (t171 = t156) = true := by simpa using c25))
        (try (have c25b2 : (t171 == t156) = true := by simpa using c25))
        clear c25
        replace H := Option.bind_eq_some_iff.mp H
        obtain ⟨⟨t172, t173, t174, t177⟩, A560, H⟩ := H
        replace H : ((laws_eqReq.f k t157 t158 t159 t162 t172 t173 t174 t177).bind fun t178 => (if t178 = true then ((laws_toReq.f k a1_0 a1_1 l1_2 a1_3).bind fun bt179 => ((laws_eqReq.f k t164 t165 t166 t169 bt179.1 bt179.2.1 bt179.2.2.1 bt179.2.2.2).bind fun t185 => (if t185 = true then (some true) else (some false)))) else (some false))) = some r := H
        have A56 := Aside0.mk A560
        clear A560
        replace H := Option.bind_eq_some_iff.mp H
        obtain ⟨t178, A570, H⟩ := H
        replace H : (if t178 = true then ((laws_toReq.f k a1_0 a1_1 l1_2 a1_3).bind fun bt179 => ((laws_eqReq.f k t164 t165 t166 t169 bt179.1 bt179.2.1 bt179.2.2.1 bt179.2.2.2).bind fun t185 => (if t185 = true then (some true) else (some false)))) else (some false)) = some r := H
        have A57 := Aside0.mk A570
        clear A570
        by_cases c58 : t178 = true
        · subst c58
          have H1 : ((laws_toReq.f k a1_0 a1_1 l1_2 a1_3).bind fun bt179 => ((laws_eqReq.f k t164 t165 t166 t169 bt179.1 bt179.2.1 bt179.2.2.1 bt179.2.2.2).bind fun t185 => (if t185 = true then (some true) else (some false)))) = some r := by rw [if_pos rfl] at H; exact H
          clear H
          have H := H1
          clear H1
          replace H := Option.bind_eq_some_iff.mp H
          obtain ⟨⟨t179, t180, t181, t184⟩, A590, H⟩ := H
          replace H : ((laws_eqReq.f k t164 t165 t166 t169 t179 t180 t181 t184).bind fun t185 => (if t185 = true then (some true) else (some false))) = some r := H
          have A59 := Aside0.mk A590
          clear A590
          replace H := Option.bind_eq_some_iff.mp H
          obtain ⟨t185, A600, H⟩ := H
          replace H : (if t185 = true then (some true) else (some false)) = some r := H
          have A60 := Aside0.mk A600
          clear A600
          by_cases c61 : t185 = true
          · subst c61
            have H1 : (some true) = some r := by rw [if_pos rfl] at H; exact H
            clear H
            have H := H1
            clear H1
            obtain rfl := Option.some.inj H
            go_enter Try.func11, Try.ntmps11
            try go_wp2_with (first | ((with_reducible refine gate_dst (N := 2) rfl ?_); refine box_event ?hg (N := 2) ?hd (cs := #[.string a0_0, .string a0_1, .slice A0_2 l0_2.length c0_2, .string a0_3]) (t := 66) ?hr ?_; (case hd => rfl); (case hg => rfl); (case hr => first | (go_simp; done) | (go_simp; rfl)); intro gb140 hg w62 hbox hb; have n0_ := Aside0.mk (below_step (by repeat (first | (with_reducible first | exact HB.out | apply aB_ | apply pN_ | apply dB_) | exact HB.out)) hb); have n1_ := Aside0.mk (hbox); have n2_ := Aside0.mk ((by rw [hg]; exact (below_size (by repeat (first | (with_reducible first | exact HB.out | apply aB_ | apply pN_ | apply dB_) | exact HB.out))) : w.heap.size ≤ gb140)); have n3_ := Aside0.mk ((by rw [hg]; exact (below_size (by repeat (first | (with_reducible first | exact HB.out | apply aB_ | apply pN_ | apply dB_) | exact HB.out))) : w.heap.size ≤ gb140)); clear HB; have HB := n0_; have BK140 := n1_; have GW140 := n2_; have GE140 := n3_; clear n0_ n1_ n2_ n3_; clear hb hbox hg) | ((with_reducible refine gate_dst (N := 3) rfl ?_); refine box_event ?hg (N := 3) ?hd (cs := #[.string a1_0, .string a1_1, .slice A1_2 l1_2.length c1_2, .string a1_3]) (t := 66) ?hr ?_; (case hd => rfl); (case hg => rfl); (case hr => first | (go_simp; done) | (go_simp; rfl)); intro gb141 hg w63 hbox hb; have n0_ := Aside0.mk (bB_ (g := gb140) (o := .cells #[.string a0_0, .string a0_1, .slice A0_2 l0_2.length c0_2, .string a0_3] 66 (0, 0)) (by (with_reducible repeat (first | refine bN_ ?_ _ | refine bD_ ?_ | refine bA_ ?_ _)); exact BK140.out) hb); have n1_ := Aside0.mk (below_step (by repeat (first | (with_reducible first | exact HB.out | apply aB_ | apply pN_ | apply dB_ | refine sB_ ?_ GE140.out) | exact HB.out)) hb); have n2_ := Aside0.mk (hbox); have n3_ := Aside0.mk ((by rw [hg]; exact (below_size (by repeat (first | (with_reducible first | exact HB.out | apply aB_ | apply pN_ | apply dB_ | refine sB_ ?_ GE140.out) | exact HB.out))) : w.heap.size ≤ gb141)); have n4_ := Aside0.mk ((by rw [hg]; exact (below_size (by repeat (first | (with_reducible first | exact HB.out | apply aB_ | apply pN_ | apply dB_ | refine sB_ ?_ GE140.out) | exact HB.out))) : w.heap.size ≤ gb141)); have n5_ := Aside0.mk ((by rw [hg]; exact Nat.ne_of_lt (blk_lt (g := gb140) (o := .cells #[.string a0_0, .string a0_1, .slice A0_2 l0_2.length c0_2, .string a0_3] 66 (0, 0)) (by (with_reducible repeat (first | refine bN_ ?_ _ | refine bD_ ?_ | refine bA_ ?_ _)); exact BK140.out)) : gb140 ≠ gb141)); have n6_ := Aside0.mk ((by rw [hg]; exact Nat.ne_of_gt (blk_lt (g := gb140) (o := .cells #[.string a0_0, .string a0_1, .slice A0_2 l0_2.length c0_2, .string a0_3] 66 (0, 0)) (by (with_reducible repeat (first | refine bN_ ?_ _ | refine bD_ ?_ | refine bA_ ?_ _)); exact BK140.out)) : gb141 ≠ gb140)); clear BK140; clear HB; have BK140 := n0_; have HB := n1_; have BK141 := n2_; have GW141 := n3_; have GE141 := n4_; have NB140_141 := n5_; have NB141_140 := n6_; clear n0_ n1_ n2_ n3_ n4_ n5_ n6_; clear hb hbox hg; have hnb64 := NB140_141.out; have hnc64 := NB141_140.out; have hcz65_0 : w63.cell? ⟨gb140, 0, none⟩ = some (.string a0_0) := (bc_ BK140.out 0).trans rfl; have hcz65_1 : w63.cell? ⟨gb140, 1, none⟩ = some (.string a0_1) := (bc_ BK140.out 1).trans rfl; have hcz65_2 : w63.cell? ⟨gb140, 2, none⟩ = some (.slice A0_2 l0_2.length c0_2) := (bc_ BK140.out 2).trans rfl; have hcz65_3 : w63.cell? ⟨gb140, 3, none⟩ = some (.string a0_3) := (bc_ BK140.out 3).trans rfl; have hfz65_0 := bF_ BK140.out 0; have hfz65_1 := bF_ BK140.out 1; have hfz65_2 := bF_ BK140.out 2; have hfz65_3 := bF_ BK140.out 3) | ((with_reducible refine gate_callee (f := 48) rfl ?_); refine goesL_ (some 12) rfl rfl Try.func48 (by kernel_rfl) rfl #[.agg #[.string a0_0, .string a0_1, .slice A0_2 l0_2.length c0_2, .string a0_3], .int .i64 1048576] rfl (by (try simp only [List.map_toArray, List.map_cons, List.map_nil]); first | done | rfl | (simp only [List.length_drop, List.length_take]; rfl)) ?_; (with_reducible refine (laws_szReq.calls k a0_0 a0_1 _ _ l0_2 a0_3 1048576 t142 _ ?side1 ?side2 A3.out).mono ?_); (case side1 => repeat (first | exact (Kd.C_below HR0_2.out HB.out) | (with_reducible refine Kd.C_alloc ?_ _) | (with_reducible refine Kd.C_drewN ?_ _) | (with_reducible refine Kd.C_drew ?_))); (case side2 => exact HC0_2.out); rintro e w66 ⟨rfl, hb⟩; refine ⟨_, rfl, ?_⟩; have n0_ := Aside0.mk (bB_ (g := gb140) (o := .cells #[.string a0_0, .string a0_1, .slice A0_2 l0_2.length c0_2, .string a0_3] 66 (0, 0)) (by (with_reducible repeat (first | refine bN_ ?_ _ | refine bD_ ?_ | refine bA_ ?_ _)); exact BK140.out) hb); have n1_ := Aside0.mk (bB_ (g := gb141) (o := .cells #[.string a1_0, .string a1_1, .slice A1_2 l1_2.length c1_2, .string a1_3] 66 (0, 0)) (by (with_reducible repeat (first | refine bN_ ?_ _ | refine bD_ ?_ | refine bA_ ?_ _)); exact BK141.out) hb); have n2_ := Aside0.mk (below_step (by repeat (first | (with_reducible first | exact HB.out | apply aB_ | apply pN_ | apply dB_ | refine sB_ ?_ GE140.out | refine sB_ ?_ GE141.out) | exact HB.out)) hb); clear BK140; clear BK141; clear HB; have BK140 := n0_; have BK141 := n1_; have HB := n2_; clear n0_ n1_ n2_; (try clear hb); (try clear hb2); (try clear hk); (try clear hi); have hcz67_0 : w66.cell? ⟨gb141, 0, none⟩ = some (.string a1_0) := (bc_ BK141.out 0).trans rfl; have hcz67_1 : w66.cell? ⟨gb141, 1, none⟩ = some (.string a1_1) := (bc_ BK141.out 1).trans rfl; have hcz67_2 : w66.cell? ⟨gb141, 2, none⟩ = some (.slice A1_2 l1_2.length c1_2) := (bc_ BK141.out 2).trans rfl; have hcz67_3 : w66.cell? ⟨gb141, 3, none⟩ = some (.string a1_3) := (bc_ BK141.out 3).trans rfl; have hfz67_0 := bF_ BK141.out 0; have hfz67_1 := bF_ BK141.out 1; have hfz67_2 := bF_ BK141.out 2; have hfz67_3 := bF_ BK141.out 3) | ((with_reducible refine gate_callee (f := 48) rfl ?_); refine goesL_ (some 17) rfl rfl Try.func48 (by kernel_rfl) rfl #[.agg #[.string a1_0, .string a1_1, .slice A1_2 l1_2.length c1_2, .string a1_3], .int .i64 t142] rfl (by (try simp only [List.map_toArray, List.map_cons, List.map_nil]); first | done | rfl | (simp only [List.length_drop, List.length_take]; rfl)) ?_; (with_reducible refine (laws_szReq.calls k a1_0 a1_1 _ _ l1_2 a1_3 t142 t143 _ ?side1 ?side2 A10.out).mono ?_); (case side1 => repeat (first | exact (Kd.C_below HR1_2.out HB.out) | (with_reducible refine Kd.C_alloc ?_ _) | (with_reducible refine Kd.C_drewN ?_ _) | (with_reducible refine Kd.C_drew ?_))); (case side2 => exact HC1_2.out); rintro e w68 ⟨rfl, hb⟩; refine ⟨_, rfl, ?_⟩; have n0_ := Aside0.mk (bB_ (g := gb140) (o := .cells #[.string a0_0, .string a0_1, .slice A0_2 l0_2.length c0_2, .string a0_3] 66 (0, 0)) (by (with_reducible repeat (first | refine bN_ ?_ _ | refine bD_ ?_ | refine bA_ ?_ _)); exact BK140.out) hb); have n1_ := Aside0.mk (bB_ (g := gb141) (o := .cells #[.string a1_0, .string a1_1, .slice A1_2 l1_2.length c1_2, .string a1_3] 66 (0, 0)) (by (with_reducible repeat (first | refine bN_ ?_ _ | refine bD_ ?_ | refine bA_ ?_ _)); exact BK141.out) hb); have n2_ := Aside0.mk (below_step (by repeat (first | (with_reducible first | exact HB.out | apply aB_ | apply pN_ | apply dB_ | refine sB_ ?_ GE140.out | refine sB_ ?_ GE141.out) | exact HB.out)) hb); clear BK140; clear BK141; clear HB; have BK140 := n0_; have BK141 := n1_; have HB := n2_; clear n0_ n1_ n2_; (try clear hb); (try clear hb2); (try clear hk); (try clear hi)))
            have n0_ := Aside0.mk (bD_ BK140.out)
            have n1_ := Aside0.mk (bD_ BK141.out)
            have n2_ := Aside0.mk (dB_ HB.out)
            clear BK140
            clear BK141
            clear HB
            have BK140 := n0_
            have BK141 := n1_
            have HB := n2_
            clear n0_ n1_ n2_
            refine start_ (n := 6) (S := fun w' => w'.cell? ⟨gb140, 0, none⟩ = some (.string a0_0) ∧ w'.cell? ⟨gb140, 1, none⟩ = some (.string a0_1) ∧ w'.cell? ⟨gb140, 2, none⟩ = some (.slice A0_2 l0_2.length c0_2) ∧ w'.cell? ⟨gb140, 3, none⟩ = some (.string a0_3) ∧ w'.cell? ⟨gb141, 0, none⟩ = some (.string a1_0) ∧ w'.cell? ⟨gb141, 1, none⟩ = some (.string a1_1) ∧ w'.cell? ⟨gb141, 2, none⟩ = some (.slice A1_2 l1_2.length c1_2) ∧ w'.cell? ⟨gb141, 3, none⟩ = some (.string a1_3)) (ds := []) #[false, false, false, false, false, false] (by kernel_rfl) rfl rfl ⟨(bc_ BK140.out 0).trans rfl, (bc_ BK140.out 1).trans rfl, (bc_ BK140.out 2).trans rfl, (bc_ BK140.out 3).trans rfl, (bc_ BK141.out 0).trans rfl, (bc_ BK141.out 1).trans rfl, (bc_ BK141.out 2).trans rfl, (bc_ BK141.out 3).trans rfl⟩ (fun hHeld => ?_)
            generalize w68.drew = w69 at BK140 BK141 HB hHeld ⊢
            refine take_ (i := 0) (N := some 20) (v := ?_) (a' := ?_) #[true, false, false, false, false, false] rfl rfl (by kernel_rfl) (fun _ _ _ h => h) (Or.inl ⟨by rfl, ?_⟩) hHeld ?_ ?_
            rotate_left
            · rintro w' ⟨s0, s1, s2, s3, s4, s5, s6, s7⟩
              go_simp
              with_reducible rfl
            rotate_left
            · simp only [Act.put, List.setIfInBounds_toArray, List.set_cons_zero, List.set_cons_succ, i64_w, i32_w]
              rfl
            refine take_ (i := 2) (N := some 22) (v := ?_) (a' := ?_) #[true, false, true, false, false, false] rfl rfl (by kernel_rfl) (fun _ _ _ h => h) (Or.inl ⟨by rfl, ?_⟩) hHeld ?_ ?_
            rotate_left
            · rintro w' ⟨s0, s1, s2, s3, s4, s5, s6, s7⟩
              go_simp
              with_reducible rfl
            rotate_left
            · simp only [Act.put, List.setIfInBounds_toArray, List.set_cons_zero, List.set_cons_succ, i64_w, i32_w]
              rfl
            refine one_ (i := 1) (N := some 21) #[true, true, true, false, false, false] rfl rfl (by kernel_rfl) (by decide) (fun K hK => ?_)
            refine goes_ Try.func50 (by kernel_rfl) rfl #[.agg #[.string a0_0, .string a0_1, .slice A0_2 l0_2.length c0_2, .string a0_3]] (by rfl) rfl rfl (by (try simp only [List.map_toArray, List.map_cons, List.map_nil]); first | done | rfl | (simp only [List.length_drop, List.length_take]; rfl)) ?_
            with_reducible refine (laws_toReq.calls k a0_0 a0_1 _ _ l0_2 a0_3 t144 t145 t146 t149 _ ?side1 ?side2 A19.out).mono ?_
            (case side1 => repeat (first | exact (Kd.C_below HR0_2.out HB.out) | (with_reducible refine Kd.C_alloc ?_ _) | (with_reducible refine Kd.C_drewN ?_ _) | (with_reducible refine Kd.C_drew ?_)))
            (case side2 => exact HC0_2.out)
            rintro e w70 ⟨v147, rfl, ho0, hb⟩
            refine ⟨_, rfl, ?_⟩
            have n0_ := Aside0.mk (Kd.R_lower ho0 (below_size (by repeat (first | (with_reducible first | exact HB.out | apply aB_ | apply pN_ | apply dB_ | refine sB_ ?_ GE140.out | refine sB_ ?_ GE141.out) | exact HB.out))))
            have n1_ := Aside0.mk (bB_ (g := gb140) (o := .cells #[.string a0_0, .string a0_1, .slice A0_2 l0_2.length c0_2, .string a0_3] 66 (0, 0)) (by (with_reducible repeat (first | refine bN_ ?_ _ | refine bD_ ?_ | refine bA_ ?_ _)); exact BK140.out) hb)
            have n2_ := Aside0.mk (bB_ (g := gb141) (o := .cells #[.string a1_0, .string a1_1, .slice A1_2 l1_2.length c1_2, .string a1_3] 66 (0, 0)) (by (with_reducible repeat (first | refine bN_ ?_ _ | refine bD_ ?_ | refine bA_ ?_ _)); exact BK141.out) hb)
            have n3_ := Aside0.mk (below_step (by repeat (first | (with_reducible first | exact HB.out | apply aB_ | apply pN_ | apply dB_ | refine sB_ ?_ GE140.out | refine sB_ ?_ GE141.out) | exact HB.out)) hb)
            clear BK140
            clear BK141
            clear HB
            have HO148 := n0_
            have BK140 := n1_
            have BK141 := n2_
            have HB := n3_
            clear n0_ n1_ n2_ n3_
            (try clear hb)
            (try clear hb2)
            (try clear hk)
            (try clear hi)
            (try clear ho0)
            refine hK.out _ _ ⟨(bc_ BK140.out 0).trans rfl, (bc_ BK140.out 1).trans rfl, (bc_ BK140.out 2).trans rfl, (bc_ BK140.out 3).trans rfl, (bc_ BK141.out 0).trans rfl, (bc_ BK141.out 1).trans rfl, (bc_ BK141.out 2).trans rfl, (bc_ BK141.out 3).trans rfl⟩ (fun hHeld => ?_)
            clear hK K
            refine norm_ (a' := ?_) ?_ ?_
            rotate_left
            · show Act.put _ (some 21) _ = _
              simp only [Act.put, List.setIfInBounds_toArray, List.set_cons_zero, List.set_cons_succ, i64_w, i32_w]
              rfl
            refine one_ (i := 3) (N := some 23) #[true, true, true, true, false, false] rfl rfl (by kernel_rfl) (by decide) (fun K hK => ?_)
            refine goes_ Try.func50 (by kernel_rfl) rfl #[.agg #[.string a1_0, .string a1_1, .slice A1_2 l1_2.length c1_2, .string a1_3]] (by rfl) rfl rfl (by (try simp only [List.map_toArray, List.map_cons, List.map_nil]); first | done | rfl | (simp only [List.length_drop, List.length_take]; rfl)) ?_
            with_reducible refine (laws_toReq.calls k a1_0 a1_1 _ _ l1_2 a1_3 t150 t151 t152 t155 _ ?side1 ?side2 A20.out).mono ?_
            (case side1 => repeat (first | exact (Kd.C_below HR1_2.out HB.out) | (with_reducible refine Kd.C_alloc ?_ _) | (with_reducible refine Kd.C_drewN ?_ _) | (with_reducible refine Kd.C_drew ?_)))
            (case side2 => exact HC1_2.out)
            rintro e w71 ⟨v153, rfl, ho0, hb⟩
            refine ⟨_, rfl, ?_⟩
            have n0_ := Aside0.mk (Kd.R_elder' (by (with_reducible repeat (first | apply rA_ | apply rN_ | apply rD_)); exact HO148.out) (Kd.R_base ho0) hb)
            have n1_ := Aside0.mk (Kd.R_lower (Kd.R_new' ho0 (Kd.R_lt (by (with_reducible repeat (first | apply rA_ | apply rN_ | apply rD_)); exact HO148.out))) (below_size (by repeat (first | (with_reducible first | exact HB.out | apply aB_ | apply pN_ | apply dB_ | refine sB_ ?_ GE140.out | refine sB_ ?_ GE141.out) | exact HB.out))))
            have n2_ := Aside0.mk (bB_ (g := gb140) (o := .cells #[.string a0_0, .string a0_1, .slice A0_2 l0_2.length c0_2, .string a0_3] 66 (0, 0)) (by (with_reducible repeat (first | refine bN_ ?_ _ | refine bD_ ?_ | refine bA_ ?_ _)); exact BK140.out) hb)
            have n3_ := Aside0.mk (bB_ (g := gb141) (o := .cells #[.string a1_0, .string a1_1, .slice A1_2 l1_2.length c1_2, .string a1_3] 66 (0, 0)) (by (with_reducible repeat (first | refine bN_ ?_ _ | refine bD_ ?_ | refine bA_ ?_ _)); exact BK141.out) hb)
            have n4_ := Aside0.mk (below_step (by repeat (first | (with_reducible first | exact HB.out | apply aB_ | apply pN_ | apply dB_ | refine sB_ ?_ GE140.out | refine sB_ ?_ GE141.out) | exact HB.out)) hb)
            clear HO148
            clear BK140
            clear BK141
            clear HB
            have HO148 := n0_
            have HO154 := n1_
            have BK140 := n2_
            have BK141 := n3_
            have HB := n4_
            clear n0_ n1_ n2_ n3_ n4_
            (try clear hb)
            (try clear hb2)
            (try clear hk)
            (try clear hi)
            (try clear ho0)
            obtain ⟨Ao72, co72, eo72⟩ := Kd.R_slice HO148.out
            (first | subst eo72 | (injection eo72 with f1_ f2_ f3_; have f4_ := f1_.symm; have f5_ := f3_.symm; clear f1_ f2_ f3_; subst f4_; subst f5_))
            obtain ⟨Ao73, co73, eo73⟩ := Kd.R_slice HO154.out
            (first | subst eo73 | (injection eo73 with f1_ f2_ f3_; have f4_ := f1_.symm; have f5_ := f3_.symm; clear f1_ f2_ f3_; subst f4_; subst f5_))
            refine hK.out _ _ ⟨(bc_ BK140.out 0).trans rfl, (bc_ BK140.out 1).trans rfl, (bc_ BK140.out 2).trans rfl, (bc_ BK140.out 3).trans rfl, (bc_ BK141.out 0).trans rfl, (bc_ BK141.out 1).trans rfl, (bc_ BK141.out 2).trans rfl, (bc_ BK141.out 3).trans rfl⟩ (fun hHeld => ?_)
            clear hK K
            refine norm_ (a' := ?_) ?_ ?_
            rotate_left
            · show Act.put _ (some 23) _ = _
              simp only [Act.put, List.setIfInBounds_toArray, List.set_cons_zero, List.set_cons_succ, i64_w, i32_w]
              rfl
            refine one_ (i := 4) (N := some 24) #[true, true, true, true, true, false] rfl rfl (by kernel_rfl) (by decide) (fun K hK => ?_)
            refine goes_ Try.func49 (by kernel_rfl) rfl #[.agg #[.string t144, .string t145, .slice Ao72 t146.length co72, .string t149], .agg #[.string t150, .string t151, .slice Ao73 t152.length co73, .string t155]] (by rfl) rfl rfl (by (try simp only [List.map_toArray, List.map_cons, List.map_nil]); first | done | rfl | (simp only [List.length_drop, List.length_take]; rfl)) ?_
            with_reducible refine (spec_SameReq.calls k t144 t145 _ _ t146 t149 t150 t151 _ _ t152 t155 t156 _ ?side1 ?side2 ?side3 ?side4 A21.out).mono ?_
            (case side1 => repeat (first | exact (Kd.R_reads' HO148.out).2.2 | (with_reducible refine Kd.C_alloc ?_ _) | (with_reducible refine Kd.C_drewN ?_ _) | (with_reducible refine Kd.C_drew ?_)))
            (case side2 => exact (Kd.R_reads' HO148.out).2.1)
            (case side3 => repeat (first | exact (Kd.R_reads' HO154.out).2.2 | (with_reducible refine Kd.C_alloc ?_ _) | (with_reducible refine Kd.C_drewN ?_ _) | (with_reducible refine Kd.C_drew ?_)))
            (case side4 => exact (Kd.R_reads' HO154.out).2.1)
            rintro e w74 ⟨rfl, hb⟩
            refine ⟨_, rfl, ?_⟩
            have n0_ := Aside0.mk (Kd.R_below (by (with_reducible repeat (first | apply rA_ | apply rN_ | apply rD_)); exact HO148.out) hb)
            have n1_ := Aside0.mk (Kd.R_below (by (with_reducible repeat (first | apply rA_ | apply rN_ | apply rD_)); exact HO154.out) hb)
            have n2_ := Aside0.mk (bB_ (g := gb140) (o := .cells #[.string a0_0, .string a0_1, .slice A0_2 l0_2.length c0_2, .string a0_3] 66 (0, 0)) (by (with_reducible repeat (first | refine bN_ ?_ _ | refine bD_ ?_ | refine bA_ ?_ _)); exact BK140.out) hb)
            have n3_ := Aside0.mk (bB_ (g := gb141) (o := .cells #[.string a1_0, .string a1_1, .slice A1_2 l1_2.length c1_2, .string a1_3] 66 (0, 0)) (by (with_reducible repeat (first | refine bN_ ?_ _ | refine bD_ ?_ | refine bA_ ?_ _)); exact BK141.out) hb)
            have n4_ := Aside0.mk (below_step (by repeat (first | (with_reducible first | exact HB.out | apply aB_ | apply pN_ | apply dB_ | refine sB_ ?_ GE140.out | refine sB_ ?_ GE141.out) | exact HB.out)) hb)
            clear HO148
            clear HO154
            clear BK140
            clear BK141
            clear HB
            have HO148 := n0_
            have HO154 := n1_
            have BK140 := n2_
            have BK141 := n3_
            have HB := n4_
            clear n0_ n1_ n2_ n3_ n4_
            (try clear hb)
            (try clear hb2)
            (try clear hk)
            (try clear hi)
            refine hK.out _ _ ⟨(bc_ BK140.out 0).trans rfl, (bc_ BK140.out 1).trans rfl, (bc_ BK140.out 2).trans rfl, (bc_ BK140.out 3).trans rfl, (bc_ BK141.out 0).trans rfl, (bc_ BK141.out 1).trans rfl, (bc_ BK141.out 2).trans rfl, (bc_ BK141.out 3).trans rfl⟩ (fun hHeld => ?_)
            clear hK K
            refine norm_ (a' := ?_) ?_ ?_
            rotate_left
            · show Act.put _ (some 24) _ = _
              simp only [Act.put, List.setIfInBounds_toArray, List.set_cons_zero, List.set_cons_succ, i64_w, i32_w]
              rfl
            refine pure_ (i := 5) (N := some 6) (v := ?_) (a' := ?_) #[true, true, true, true, true, true] rfl rfl (by kernel_rfl) (fun _ _ _ h => h) (Or.inl ⟨by rfl, ?_⟩) ?_ ?_
            rotate_left
            · intro w'
              go_simp
              with_reducible rfl
            rotate_left
            · simp only [Act.put, List.setIfInBounds_toArray, List.set_cons_zero, List.set_cons_succ, i64_w, i32_w]
              rfl
            refine done_ (by kernel_rfl) ?_
            have hcz75_0 : w74.cell? ⟨gb140, 0, none⟩ = some (.string a0_0) := (bc_ BK140.out 0).trans rfl
            have hcz75_1 : w74.cell? ⟨gb140, 1, none⟩ = some (.string a0_1) := (bc_ BK140.out 1).trans rfl
            have hcz75_2 : w74.cell? ⟨gb140, 2, none⟩ = some (.slice A0_2 l0_2.length c0_2) := (bc_ BK140.out 2).trans rfl
            have hcz75_3 : w74.cell? ⟨gb140, 3, none⟩ = some (.string a0_3) := (bc_ BK140.out 3).trans rfl
            have hfz75_0 := bF_ BK140.out 0
            have hfz75_1 := bF_ BK140.out 1
            have hfz75_2 := bF_ BK140.out 2
            have hfz75_3 := bF_ BK140.out 3
            try go_wp2_with (first | ((with_reducible refine gate_callee (f := 50) rfl ?_); refine goesL_ (some 26) rfl rfl Try.func50 (by kernel_rfl) rfl #[.agg #[.string a0_0, .string a0_1, .slice A0_2 l0_2.length c0_2, .string a0_3]] rfl (by (try simp only [List.map_toArray, List.map_cons, List.map_nil]); first | done | rfl | (simp only [List.length_drop, List.length_take]; rfl)) ?_; (with_reducible refine (laws_toReq.calls k a0_0 a0_1 _ _ l0_2 a0_3 t157 t158 t159 t162 _ ?side1 ?side2 A22.out).mono ?_); (case side1 => repeat (first | exact (Kd.C_below HR0_2.out HB.out) | (with_reducible refine Kd.C_alloc ?_ _) | (with_reducible refine Kd.C_drewN ?_ _) | (with_reducible refine Kd.C_drew ?_))); (case side2 => exact HC0_2.out); rintro e w76 ⟨v160, rfl, ho0, hb⟩; refine ⟨_, rfl, ?_⟩; have n0_ := Aside0.mk (Kd.R_elder' (by (with_reducible repeat (first | apply rA_ | apply rN_ | apply rD_)); exact HO148.out) (Kd.R_base ho0) hb); have n1_ := Aside0.mk (Kd.R_elder' (by (with_reducible repeat (first | apply rA_ | apply rN_ | apply rD_)); exact HO154.out) (Kd.R_base ho0) hb); have n2_ := Aside0.mk (Kd.R_lower (Kd.R_new' (Kd.R_new' ho0 (Kd.R_lt (by (with_reducible repeat (first | apply rA_ | apply rN_ | apply rD_)); exact HO148.out))) (Kd.R_lt (by (with_reducible repeat (first | apply rA_ | apply rN_ | apply rD_)); exact HO154.out))) (below_size (by repeat (first | (with_reducible first | exact HB.out | apply aB_ | apply pN_ | apply dB_ | refine sB_ ?_ GE140.out | refine sB_ ?_ GE141.out) | exact HB.out)))); have n3_ := Aside0.mk (bB_ (g := gb140) (o := .cells #[.string a0_0, .string a0_1, .slice A0_2 l0_2.length c0_2, .string a0_3] 66 (0, 0)) (by (with_reducible repeat (first | refine bN_ ?_ _ | refine bD_ ?_ | refine bA_ ?_ _)); exact BK140.out) hb); have n4_ := Aside0.mk (bB_ (g := gb141) (o := .cells #[.string a1_0, .string a1_1, .slice A1_2 l1_2.length c1_2, .string a1_3] 66 (0, 0)) (by (with_reducible repeat (first | refine bN_ ?_ _ | refine bD_ ?_ | refine bA_ ?_ _)); exact BK141.out) hb); have n5_ := Aside0.mk (below_step (by repeat (first | (with_reducible first | exact HB.out | apply aB_ | apply pN_ | apply dB_ | refine sB_ ?_ GE140.out | refine sB_ ?_ GE141.out) | exact HB.out)) hb); clear HO148; clear HO154; clear BK140; clear BK141; clear HB; have HO148 := n0_; have HO154 := n1_; have HO161 := n2_; have BK140 := n3_; have BK141 := n4_; have HB := n5_; clear n0_ n1_ n2_ n3_ n4_ n5_; (try clear hb); (try clear hb2); (try clear hk); (try clear hi); (try clear ho0)) | ((with_reducible refine gate_dst (N := 7) rfl ?_); refine box_event ?hg (N := 7) ?hd (cs := #[.string (⟨#[]⟩ : ByteArray), .string (⟨#[]⟩ : ByteArray), .slice none 0 0, .string (⟨#[]⟩ : ByteArray)]) (t := 70) ?hr ?_; (case hd => rfl); (case hg => rfl); (case hr => first | (go_simp; done) | (go_simp; rfl)); intro gb163 hg w77 hbox hb; have n0_ := Aside0.mk (Kd.R_below (by (with_reducible repeat (first | apply rA_ | apply rN_ | apply rD_)); exact HO148.out) hb); have n1_ := Aside0.mk (Kd.R_below (by (with_reducible repeat (first | apply rA_ | apply rN_ | apply rD_)); exact HO154.out) hb); have n2_ := Aside0.mk (Kd.R_below (by (with_reducible repeat (first | apply rA_ | apply rN_ | apply rD_)); exact HO161.out) hb); have n3_ := Aside0.mk (bB_ (g := gb140) (o := .cells #[.string a0_0, .string a0_1, .slice A0_2 l0_2.length c0_2, .string a0_3] 66 (0, 0)) (by (with_reducible repeat (first | refine bN_ ?_ _ | refine bD_ ?_ | refine bA_ ?_ _)); exact BK140.out) hb); have n4_ := Aside0.mk (bB_ (g := gb141) (o := .cells #[.string a1_0, .string a1_1, .slice A1_2 l1_2.length c1_2, .string a1_3] 66 (0, 0)) (by (with_reducible repeat (first | refine bN_ ?_ _ | refine bD_ ?_ | refine bA_ ?_ _)); exact BK141.out) hb); have n5_ := Aside0.mk (below_step (by repeat (first | (with_reducible first | exact HB.out | apply aB_ | apply pN_ | apply dB_ | refine sB_ ?_ GE140.out | refine sB_ ?_ GE141.out) | exact HB.out)) hb); have n6_ := Aside0.mk (hbox); have n7_ := Aside0.mk ((by rw [hg]; exact (below_size (by repeat (first | (with_reducible first | exact HB.out | apply aB_ | apply pN_ | apply dB_ | refine sB_ ?_ GE140.out | refine sB_ ?_ GE141.out) | exact HB.out))) : w.heap.size ≤ gb163)); have n8_ := Aside0.mk ((by rw [hg]; exact (below_size (by repeat (first | (with_reducible first | exact HB.out | apply aB_ | apply pN_ | apply dB_ | refine sB_ ?_ GE140.out | refine sB_ ?_ GE141.out) | exact HB.out))) : w.heap.size ≤ gb163)); have n9_ := Aside0.mk ((by rw [hg]; exact Nat.ne_of_lt (blk_lt (g := gb140) (o := .cells #[.string a0_0, .string a0_1, .slice A0_2 l0_2.length c0_2, .string a0_3] 66 (0, 0)) (by (with_reducible repeat (first | refine bN_ ?_ _ | refine bD_ ?_ | refine bA_ ?_ _)); exact BK140.out)) : gb140 ≠ gb163)); have n10_ := Aside0.mk ((by rw [hg]; exact Nat.ne_of_gt (blk_lt (g := gb140) (o := .cells #[.string a0_0, .string a0_1, .slice A0_2 l0_2.length c0_2, .string a0_3] 66 (0, 0)) (by (with_reducible repeat (first | refine bN_ ?_ _ | refine bD_ ?_ | refine bA_ ?_ _)); exact BK140.out)) : gb163 ≠ gb140)); have n11_ := Aside0.mk ((by rw [hg]; exact Nat.ne_of_lt (blk_lt (g := gb141) (o := .cells #[.string a1_0, .string a1_1, .slice A1_2 l1_2.length c1_2, .string a1_3] 66 (0, 0)) (by (with_reducible repeat (first | refine bN_ ?_ _ | refine bD_ ?_ | refine bA_ ?_ _)); exact BK141.out)) : gb141 ≠ gb163)); have n12_ := Aside0.mk ((by rw [hg]; exact Nat.ne_of_gt (blk_lt (g := gb141) (o := .cells #[.string a1_0, .string a1_1, .slice A1_2 l1_2.length c1_2, .string a1_3] 66 (0, 0)) (by (with_reducible repeat (first | refine bN_ ?_ _ | refine bD_ ?_ | refine bA_ ?_ _)); exact BK141.out)) : gb163 ≠ gb141)); clear HO148; clear HO154; clear HO161; clear BK140; clear BK141; clear HB; have HO148 := n0_; have HO154 := n1_; have HO161 := n2_; have BK140 := n3_; have BK141 := n4_; have HB := n5_; have BK163 := n6_; have GW163 := n7_; have GE163 := n8_; have NB140_163 := n9_; have NB163_140 := n10_; have NB141_163 := n11_; have NB163_141 := n12_; clear n0_ n1_ n2_ n3_ n4_ n5_ n6_ n7_ n8_ n9_ n10_ n11_ n12_; clear hb hbox hg; have hnb78 := NB163_140.out; have hnc78 := NB140_163.out; have hnb79 := NB163_141.out; have hnc79 := NB141_163.out; have hcz80_0 : w77.cell? ⟨gb163, 0, none⟩ = some (.string (⟨#[]⟩ : ByteArray)) := (bc_ BK163.out 0).trans rfl; have hcz80_1 : w77.cell? ⟨gb163, 1, none⟩ = some (.string (⟨#[]⟩ : ByteArray)) := (bc_ BK163.out 1).trans rfl; have hcz80_2 : w77.cell? ⟨gb163, 2, none⟩ = some (.slice none 0 0) := (bc_ BK163.out 2).trans rfl; have hcz80_3 : w77.cell? ⟨gb163, 3, none⟩ = some (.string (⟨#[]⟩ : ByteArray)) := (bc_ BK163.out 3).trans rfl; have hfz80_0 := bF_ BK163.out 0; have hfz80_1 := bF_ BK163.out 1; have hfz80_2 := bF_ BK163.out 2; have hfz80_3 := bF_ BK163.out 3; obtain ⟨Ao81, co81, eo81⟩ := Kd.R_slice HO161.out; subst eo81; have hcz82_0 : w77.cell? ⟨gb141, 0, none⟩ = some (.string a1_0) := (bc_ BK141.out 0).trans rfl; have hcz82_1 : w77.cell? ⟨gb141, 1, none⟩ = some (.string a1_1) := (bc_ BK141.out 1).trans rfl; have hcz82_2 : w77.cell? ⟨gb141, 2, none⟩ = some (.slice A1_2 l1_2.length c1_2) := (bc_ BK141.out 2).trans rfl; have hcz82_3 : w77.cell? ⟨gb141, 3, none⟩ = some (.string a1_3) := (bc_ BK141.out 3).trans rfl; have hfz82_0 := bF_ BK141.out 0; have hfz82_1 := bF_ BK141.out 1; have hfz82_2 := bF_ BK141.out 2; have hfz82_3 := bF_ BK141.out 3) | ((with_reducible refine gate_callee (f := 50) rfl ?_); refine goesL_ (some 28) rfl rfl Try.func50 (by kernel_rfl) rfl #[.agg #[.string a1_0, .string a1_1, .slice A1_2 l1_2.length c1_2, .string a1_3]] rfl (by (try simp only [List.map_toArray, List.map_cons, List.map_nil]); first | done | rfl | (simp only [List.length_drop, List.length_take]; rfl)) ?_; (with_reducible refine (laws_toReq.calls k a1_0 a1_1 _ _ l1_2 a1_3 t164 t165 t166 t169 _ ?side1 ?side2 A23.out).mono ?_); (case side1 => exact Kd.C_below HR1_2.out (by repeat (first | (with_reducible first | exact HB.out | apply aB_ | apply pN_ | apply dB_ | refine sB_ ?_ GE140.out | refine sB_ ?_ GE141.out | refine sB_ ?_ GE163.out) | exact HB.out))); (case side2 => exact HC1_2.out); rintro e w83 ⟨v167, rfl, ho0, hb⟩; refine ⟨_, rfl, ?_⟩; have n0_ := Aside0.mk (Kd.R_elder' (by (with_reducible repeat (first | apply rA_ | apply rN_ | apply rD_)); exact (Kd.R_mono (rF_ (p := ⟨gb163, 3, none⟩) (rF_ (p := ⟨gb163, 2, none⟩) (rF_ (p := ⟨gb163, 1, none⟩) (rF_ (p := ⟨gb163, 0, none⟩) (Kd.R_types HO148.out BK163.out (by decide)) (fun _ hk => hk.2) (.string t157)) (fun _ hk => hk.2) (.string t158)) (fun _ hk => hk.2) (.slice Ao81 t159.length co81)) (fun _ hk => hk.2) (.string t162)) (fun _ h_ => h_.1))) (Kd.R_base ho0) hb); have n1_ := Aside0.mk (Kd.R_elder' (by (with_reducible repeat (first | apply rA_ | apply rN_ | apply rD_)); exact (Kd.R_mono (rF_ (p := ⟨gb163, 3, none⟩) (rF_ (p := ⟨gb163, 2, none⟩) (rF_ (p := ⟨gb163, 1, none⟩) (rF_ (p := ⟨gb163, 0, none⟩) (Kd.R_types HO154.out BK163.out (by decide)) (fun _ hk => hk.2) (.string t157)) (fun _ hk => hk.2) (.string t158)) (fun _ hk => hk.2) (.slice Ao81 t159.length co81)) (fun _ hk => hk.2) (.string t162)) (fun _ h_ => h_.1))) (Kd.R_base ho0) hb); have n2_ := Aside0.mk (Kd.R_elder' (by (with_reducible repeat (first | apply rA_ | apply rN_ | apply rD_)); exact (Kd.R_mono (rF_ (p := ⟨gb163, 3, none⟩) (rF_ (p := ⟨gb163, 2, none⟩) (rF_ (p := ⟨gb163, 1, none⟩) (rF_ (p := ⟨gb163, 0, none⟩) (Kd.R_types HO161.out BK163.out (by decide)) (fun _ hk => hk.2) (.string t157)) (fun _ hk => hk.2) (.string t158)) (fun _ hk => hk.2) (.slice Ao81 t159.length co81)) (fun _ hk => hk.2) (.string t162)) (fun _ h_ => h_.1))) (Kd.R_base ho0) hb); have n3_ := Aside0.mk (Kd.R_lower (Kd.R_new' (Kd.R_new' (Kd.R_new' ho0 (Kd.R_lt (by (with_reducible repeat (first | apply rA_ | apply rN_ | apply rD_)); exact (Kd.R_mono (rF_ (p := ⟨gb163, 3, none⟩) (rF_ (p := ⟨gb163, 2, none⟩) (rF_ (p := ⟨gb163, 1, none⟩) (rF_ (p := ⟨gb163, 0, none⟩) (Kd.R_types HO148.out BK163.out (by decide)) (fun _ hk => hk.2) (.string t157)) (fun _ hk => hk.2) (.string t158)) (fun _ hk => hk.2) (.slice Ao81 t159.length co81)) (fun _ hk => hk.2) (.string t162)) (fun _ h_ => h_.1))))) (Kd.R_lt (by (with_reducible repeat (first | apply rA_ | apply rN_ | apply rD_)); exact (Kd.R_mono (rF_ (p := ⟨gb163, 3, none⟩) (rF_ (p := ⟨gb163, 2, none⟩) (rF_ (p := ⟨gb163, 1, none⟩) (rF_ (p := ⟨gb163, 0, none⟩) (Kd.R_types HO154.out BK163.out (by decide)) (fun _ hk => hk.2) (.string t157)) (fun _ hk => hk.2) (.string t158)) (fun _ hk => hk.2) (.slice Ao81 t159.length co81)) (fun _ hk => hk.2) (.string t162)) (fun _ h_ => h_.1))))) (Kd.R_lt (by (with_reducible repeat (first | apply rA_ | apply rN_ | apply rD_)); exact (Kd.R_mono (rF_ (p := ⟨gb163, 3, none⟩) (rF_ (p := ⟨gb163, 2, none⟩) (rF_ (p := ⟨gb163, 1, none⟩) (rF_ (p := ⟨gb163, 0, none⟩) (Kd.R_types HO161.out BK163.out (by decide)) (fun _ hk => hk.2) (.string t157)) (fun _ hk => hk.2) (.string t158)) (fun _ hk => hk.2) (.slice Ao81 t159.length co81)) (fun _ hk => hk.2) (.string t162)) (fun _ h_ => h_.1))))) (below_size (by repeat (first | (with_reducible first | exact HB.out | apply aB_ | apply pN_ | apply dB_ | refine sB_ ?_ GE140.out | refine sB_ ?_ GE141.out | refine sB_ ?_ GE163.out) | exact HB.out)))); have n4_ := Aside0.mk (bB_ (g := gb140) (o := .cells #[.string a0_0, .string a0_1, .slice A0_2 l0_2.length c0_2, .string a0_3] 66 (0, 0)) (by (with_reducible repeat (first | refine bN_ ?_ _ | refine bD_ ?_ | refine bA_ ?_ _)); refine blk_far ?_ NB140_163.out _; (with_reducible repeat (first | refine bN_ ?_ _ | refine bD_ ?_ | refine bA_ ?_ _)); refine blk_far ?_ NB140_163.out _; (with_reducible repeat (first | refine bN_ ?_ _ | refine bD_ ?_ | refine bA_ ?_ _)); refine blk_far ?_ NB140_163.out _; (with_reducible repeat (first | refine bN_ ?_ _ | refine bD_ ?_ | refine bA_ ?_ _)); refine blk_far ?_ NB140_163.out _; (with_reducible repeat (first | refine bN_ ?_ _ | refine bD_ ?_ | refine bA_ ?_ _)); exact BK140.out) hb); have n5_ := Aside0.mk (bB_ (g := gb141) (o := .cells #[.string a1_0, .string a1_1, .slice A1_2 l1_2.length c1_2, .string a1_3] 66 (0, 0)) (by (with_reducible repeat (first | refine bN_ ?_ _ | refine bD_ ?_ | refine bA_ ?_ _)); refine blk_far ?_ NB141_163.out _; (with_reducible repeat (first | refine bN_ ?_ _ | refine bD_ ?_ | refine bA_ ?_ _)); refine blk_far ?_ NB141_163.out _; (with_reducible repeat (first | refine bN_ ?_ _ | refine bD_ ?_ | refine bA_ ?_ _)); refine blk_far ?_ NB141_163.out _; (with_reducible repeat (first | refine bN_ ?_ _ | refine bD_ ?_ | refine bA_ ?_ _)); refine blk_far ?_ NB141_163.out _; (with_reducible repeat (first | refine bN_ ?_ _ | refine bD_ ?_ | refine bA_ ?_ _)); exact BK141.out) hb); have n6_ := Aside0.mk (bB_ (g := gb163) (o := .cells #[.string t157, .string t158, .slice Ao81 t159.length co81, .string t162] 70 (0, 0)) (by (with_reducible repeat (first | refine bN_ ?_ _ | refine bD_ ?_ | refine bA_ ?_ _)); refine blk_put (cs := #[.string t157, .string t158, .slice Ao81 t159.length co81, .string (⟨#[]⟩ : ByteArray)]) ?_ 3 _ rfl; (with_reducible repeat (first | refine bN_ ?_ _ | refine bD_ ?_ | refine bA_ ?_ _)); refine blk_put (cs := #[.string t157, .string t158, .slice none 0 0, .string (⟨#[]⟩ : ByteArray)]) ?_ 2 _ rfl; (with_reducible repeat (first | refine bN_ ?_ _ | refine bD_ ?_ | refine bA_ ?_ _)); refine blk_put (cs := #[.string t157, .string (⟨#[]⟩ : ByteArray), .slice none 0 0, .string (⟨#[]⟩ : ByteArray)]) ?_ 1 _ rfl; (with_reducible repeat (first | refine bN_ ?_ _ | refine bD_ ?_ | refine bA_ ?_ _)); refine blk_put (cs := #[.string (⟨#[]⟩ : ByteArray), .string (⟨#[]⟩ : ByteArray), .slice none 0 0, .string (⟨#[]⟩ : ByteArray)]) ?_ 0 _ rfl; (with_reducible repeat (first | refine bN_ ?_ _ | refine bD_ ?_ | refine bA_ ?_ _)); exact BK163.out) hb); have n7_ := Aside0.mk (below_step (by repeat (first | (with_reducible first | exact HB.out | apply aB_ | apply pN_ | apply dB_ | refine sB_ ?_ GE140.out | refine sB_ ?_ GE141.out | refine sB_ ?_ GE163.out) | exact HB.out)) hb); clear HO148; clear HO154; clear HO161; clear BK140; clear BK141; clear BK163; clear HB; have HO148 := n0_; have HO154 := n1_; have HO161 := n2_; have HO168 := n3_; have BK140 := n4_; have BK141 := n5_; have BK163 := n6_; have HB := n7_; clear n0_ n1_ n2_ n3_ n4_ n5_ n6_ n7_; (try clear hb); (try clear hb2); (try clear hk); (try clear hi); (try clear ho0)) | ((with_reducible refine gate_dst (N := 8) rfl ?_); refine box_event ?hg (N := 8) ?hd (cs := #[.string (⟨#[]⟩ : ByteArray), .string (⟨#[]⟩ : ByteArray), .slice none 0 0, .string (⟨#[]⟩ : ByteArray)]) (t := 70) ?hr ?_; (case hd => rfl); (case hg => rfl); (case hr => first | (go_simp; done) | (go_simp; rfl)); intro gb170 hg w84 hbox hb; have n0_ := Aside0.mk (Kd.R_below (by (with_reducible repeat (first | apply rA_ | apply rN_ | apply rD_)); exact HO148.out) hb); have n1_ := Aside0.mk (Kd.R_below (by (with_reducible repeat (first | apply rA_ | apply rN_ | apply rD_)); exact HO154.out) hb); have n2_ := Aside0.mk (Kd.R_below (by (with_reducible repeat (first | apply rA_ | apply rN_ | apply rD_)); exact HO161.out) hb); have n3_ := Aside0.mk (Kd.R_below (by (with_reducible repeat (first | apply rA_ | apply rN_ | apply rD_)); exact HO168.out) hb); have n4_ := Aside0.mk (bB_ (g := gb140) (o := .cells #[.string a0_0, .string a0_1, .slice A0_2 l0_2.length c0_2, .string a0_3] 66 (0, 0)) (by (with_reducible repeat (first | refine bN_ ?_ _ | refine bD_ ?_ | refine bA_ ?_ _)); exact BK140.out) hb); have n5_ := Aside0.mk (bB_ (g := gb141) (o := .cells #[.string a1_0, .string a1_1, .slice A1_2 l1_2.length c1_2, .string a1_3] 66 (0, 0)) (by (with_reducible repeat (first | refine bN_ ?_ _ | refine bD_ ?_ | refine bA_ ?_ _)); exact BK141.out) hb); have n6_ := Aside0.mk (bB_ (g := gb163) (o := .cells #[.string t157, .string t158, .slice Ao81 t159.length co81, .string t162] 70 (0, 0)) (by (with_reducible repeat (first | refine bN_ ?_ _ | refine bD_ ?_ | refine bA_ ?_ _)); exact BK163.out) hb); have n7_ := Aside0.mk (below_step (by repeat (first | (with_reducible first | exact HB.out | apply aB_ | apply pN_ | apply dB_ | refine sB_ ?_ GE140.out | refine sB_ ?_ GE141.out | refine sB_ ?_ GE163.out) | exact HB.out)) hb); have n8_ := Aside0.mk (hbox); have n9_ := Aside0.mk ((by rw [hg]; exact (below_size (by repeat (first | (with_reducible first | exact HB.out | apply aB_ | apply pN_ | apply dB_ | refine sB_ ?_ GE140.out | refine sB_ ?_ GE141.out | refine sB_ ?_ GE163.out) | exact HB.out))) : w.heap.size ≤ gb170)); have n10_ := Aside0.mk ((by rw [hg]; exact (below_size (by repeat (first | (with_reducible first | exact HB.out | apply aB_ | apply pN_ | apply dB_ | refine sB_ ?_ GE140.out | refine sB_ ?_ GE141.out | refine sB_ ?_ GE163.out) | exact HB.out))) : w.heap.size ≤ gb170)); have n11_ := Aside0.mk ((by rw [hg]; exact Nat.ne_of_lt (blk_lt (g := gb140) (o := .cells #[.string a0_0, .string a0_1, .slice A0_2 l0_2.length c0_2, .string a0_3] 66 (0, 0)) (by (with_reducible repeat (first | refine bN_ ?_ _ | refine bD_ ?_ | refine bA_ ?_ _)); exact BK140.out)) : gb140 ≠ gb170)); have n12_ := Aside0.mk ((by rw [hg]; exact Nat.ne_of_gt (blk_lt (g := gb140) (o := .cells #[.string a0_0, .string a0_1, .slice A0_2 l0_2.length c0_2, .string a0_3] 66 (0, 0)) (by (with_reducible repeat (first | refine bN_ ?_ _ | refine bD_ ?_ | refine bA_ ?_ _)); exact BK140.out)) : gb170 ≠ gb140)); have n13_ := Aside0.mk ((by rw [hg]; exact Nat.ne_of_lt (blk_lt (g := gb141) (o := .cells #[.string a1_0, .string a1_1, .slice A1_2 l1_2.length c1_2, .string a1_3] 66 (0, 0)) (by (with_reducible repeat (first | refine bN_ ?_ _ | refine bD_ ?_ | refine bA_ ?_ _)); exact BK141.out)) : gb141 ≠ gb170)); have n14_ := Aside0.mk ((by rw [hg]; exact Nat.ne_of_gt (blk_lt (g := gb141) (o := .cells #[.string a1_0, .string a1_1, .slice A1_2 l1_2.length c1_2, .string a1_3] 66 (0, 0)) (by (with_reducible repeat (first | refine bN_ ?_ _ | refine bD_ ?_ | refine bA_ ?_ _)); exact BK141.out)) : gb170 ≠ gb141)); have n15_ := Aside0.mk ((by rw [hg]; exact Nat.ne_of_lt (blk_lt (g := gb163) (o := .cells #[.string t157, .string t158, .slice Ao81 t159.length co81, .string t162] 70 (0, 0)) (by (with_reducible repeat (first | refine bN_ ?_ _ | refine bD_ ?_ | refine bA_ ?_ _)); exact BK163.out)) : gb163 ≠ gb170)); have n16_ := Aside0.mk ((by rw [hg]; exact Nat.ne_of_gt (blk_lt (g := gb163) (o := .cells #[.string t157, .string t158, .slice Ao81 t159.length co81, .string t162] 70 (0, 0)) (by (with_reducible repeat (first | refine bN_ ?_ _ | refine bD_ ?_ | refine bA_ ?_ _)); exact BK163.out)) : gb170 ≠ gb163)); clear HO148; clear HO154; clear HO161; clear HO168; clear BK140; clear BK141; clear BK163; clear HB; have HO148 := n0_; have HO154 := n1_; have HO161 := n2_; have HO168 := n3_; have BK140 := n4_; have BK141 := n5_; have BK163 := n6_; have HB := n7_; have BK170 := n8_; have GW170 := n9_; have GE170 := n10_; have NB140_170 := n11_; have NB170_140 := n12_; have NB141_170 := n13_; have NB170_141 := n14_; have NB163_170 := n15_; have NB170_163 := n16_; clear n0_ n1_ n2_ n3_ n4_ n5_ n6_ n7_ n8_ n9_ n10_ n11_ n12_ n13_ n14_ n15_ n16_; clear hb hbox hg; have hnb85 := NB170_140.out; have hnc85 := NB140_170.out; have hnb86 := NB170_141.out; have hnc86 := NB141_170.out; have hnb87 := NB170_163.out; have hnc87 := NB163_170.out; have hcz88_0 : w84.cell? ⟨gb170, 0, none⟩ = some (.string (⟨#[]⟩ : ByteArray)) := (bc_ BK170.out 0).trans rfl; have hcz88_1 : w84.cell? ⟨gb170, 1, none⟩ = some (.string (⟨#[]⟩ : ByteArray)) := (bc_ BK170.out 1).trans rfl; have hcz88_2 : w84.cell? ⟨gb170, 2, none⟩ = some (.slice none 0 0) := (bc_ BK170.out 2).trans rfl; have hcz88_3 : w84.cell? ⟨gb170, 3, none⟩ = some (.string (⟨#[]⟩ : ByteArray)) := (bc_ BK170.out 3).trans rfl; have hfz88_0 := bF_ BK170.out 0; have hfz88_1 := bF_ BK170.out 1; have hfz88_2 := bF_ BK170.out 2; have hfz88_3 := bF_ BK170.out 3; obtain ⟨Ao89, co89, eo89⟩ := Kd.R_slice HO168.out; subst eo89; have hcz90_0 : w84.cell? ⟨gb163, 0, none⟩ = some (.string t157) := (bc_ BK163.out 0).trans rfl; have hcz90_1 : w84.cell? ⟨gb163, 1, none⟩ = some (.string t158) := (bc_ BK163.out 1).trans rfl; have hcz90_2 : w84.cell? ⟨gb163, 2, none⟩ = some (.slice Ao81 t159.length co81) := (bc_ BK163.out 2).trans rfl; have hcz90_3 : w84.cell? ⟨gb163, 3, none⟩ = some (.string t162) := (bc_ BK163.out 3).trans rfl; have hfz90_0 := bF_ BK163.out 0; have hfz90_1 := bF_ BK163.out 1; have hfz90_2 := bF_ BK163.out 2; have hfz90_3 := bF_ BK163.out 3) | ((with_reducible refine gate_callee (f := 51) rfl ?_); refine goesL_ (some 31) rfl rfl Try.func51 (by kernel_rfl) rfl #[.agg #[.string t157, .string t158, .slice Ao81 t159.length co81, .string t162], .agg #[.string t164, .string t165, .slice Ao89 t166.length co89, .string t169]] rfl (by (try simp only [List.map_toArray, List.map_cons, List.map_nil]); first | done | rfl | (simp only [List.length_drop, List.length_take]; rfl)) ?_; (with_reducible refine (impl_SameReq.calls k t157 t158 _ _ t159 t162 t164 t165 _ _ t166 t169 t171 _ ?side1 ?side2 ?side3 ?side4 A24.out).mono ?_); (case side1 => refine (Kd.R_reads' (e := 81) (base := w.heap.size) (ok := fun k_ => (((True ∧ some k_ ≠ (.slice Ao72 t146.length co72 : Value).ownBlock) ∧ some k_ ≠ (.slice Ao73 t152.length co73 : Value).ownBlock) ∧ some k_ ≠ (.slice Ao89 t166.length co89 : Value).ownBlock)) (n := t159.length) (c := co81) ?_).2.2; exact (by (with_reducible repeat (first | apply rA_ | apply rN_ | apply rD_)); exact (Kd.R_mono (rF_ (p := ⟨gb170, 3, none⟩) (rF_ (p := ⟨gb170, 2, none⟩) (rF_ (p := ⟨gb170, 1, none⟩) (rF_ (p := ⟨gb170, 0, none⟩) (Kd.R_types HO161.out BK170.out (by decide)) (fun _ hk => hk.2) (.string t164)) (fun _ hk => hk.2) (.string t165)) (fun _ hk => hk.2) (.slice Ao89 t166.length co89)) (fun _ hk => hk.2) (.string t169)) (fun _ h_ => h_.1)))); (case side2 => exact (Kd.R_reads' HO161.out).2.1); (case side3 => refine (Kd.R_reads' (e := 81) (base := w.heap.size) (ok := fun k_ => (((True ∧ some k_ ≠ (.slice Ao72 t146.length co72 : Value).ownBlock) ∧ some k_ ≠ (.slice Ao73 t152.length co73 : Value).ownBlock) ∧ some k_ ≠ (.slice Ao81 t159.length co81 : Value).ownBlock)) (n := t166.length) (c := co89) ?_).2.2; exact (by (with_reducible repeat (first | apply rA_ | apply rN_ | apply rD_)); exact (Kd.R_mono (rF_ (p := ⟨gb170, 3, none⟩) (rF_ (p := ⟨gb170, 2, none⟩) (rF_ (p := ⟨gb170, 1, none⟩) (rF_ (p := ⟨gb170, 0, none⟩) (Kd.R_types HO168.out BK170.out (by decide)) (fun _ hk => hk.2) (.string t164)) (fun _ hk => hk.2) (.string t165)) (fun _ hk => hk.2) (.slice Ao89 t166.length co89)) (fun _ hk => hk.2) (.string t169)) (fun _ h_ => h_.1)))); (case side4 => exact (Kd.R_reads' HO168.out).2.1); rintro e w91 ⟨rfl, hb⟩; refine ⟨_, rfl, ?_⟩; have n0_ := Aside0.mk (Kd.R_below (by (with_reducible repeat (first | apply rA_ | apply rN_ | apply rD_)); exact (Kd.R_mono (rF_ (p := ⟨gb170, 3, none⟩) (rF_ (p := ⟨gb170, 2, none⟩) (rF_ (p := ⟨gb170, 1, none⟩) (rF_ (p := ⟨gb170, 0, none⟩) (Kd.R_types HO148.out BK170.out (by decide)) (fun _ hk => hk.2) (.string t164)) (fun _ hk => hk.2) (.string t165)) (fun _ hk => hk.2) (.slice Ao89 t166.length co89)) (fun _ hk => hk.2) (.string t169)) (fun _ h_ => h_.1))) hb); have n1_ := Aside0.mk (Kd.R_below (by (with_reducible repeat (first | apply rA_ | apply rN_ | apply rD_)); exact (Kd.R_mono (rF_ (p := ⟨gb170, 3, none⟩) (rF_ (p := ⟨gb170, 2, none⟩) (rF_ (p := ⟨gb170, 1, none⟩) (rF_ (p := ⟨gb170, 0, none⟩) (Kd.R_types HO154.out BK170.out (by decide)) (fun _ hk => hk.2) (.string t164)) (fun _ hk => hk.2) (.string t165)) (fun _ hk => hk.2) (.slice Ao89 t166.length co89)) (fun _ hk => hk.2) (.string t169)) (fun _ h_ => h_.1))) hb); have n2_ := Aside0.mk (Kd.R_below (by (with_reducible repeat (first | apply rA_ | apply rN_ | apply rD_)); exact (Kd.R_mono (rF_ (p := ⟨gb170, 3, none⟩) (rF_ (p := ⟨gb170, 2, none⟩) (rF_ (p := ⟨gb170, 1, none⟩) (rF_ (p := ⟨gb170, 0, none⟩) (Kd.R_types HO161.out BK170.out (by decide)) (fun _ hk => hk.2) (.string t164)) (fun _ hk => hk.2) (.string t165)) (fun _ hk => hk.2) (.slice Ao89 t166.length co89)) (fun _ hk => hk.2) (.string t169)) (fun _ h_ => h_.1))) hb); have n3_ := Aside0.mk (Kd.R_below (by (with_reducible repeat (first | apply rA_ | apply rN_ | apply rD_)); exact (Kd.R_mono (rF_ (p := ⟨gb170, 3, none⟩) (rF_ (p := ⟨gb170, 2, none⟩) (rF_ (p := ⟨gb170, 1, none⟩) (rF_ (p := ⟨gb170, 0, none⟩) (Kd.R_types HO168.out BK170.out (by decide)) (fun _ hk => hk.2) (.string t164)) (fun _ hk => hk.2) (.string t165)) (fun _ hk => hk.2) (.slice Ao89 t166.length co89)) (fun _ hk => hk.2) (.string t169)) (fun _ h_ => h_.1))) hb); have n4_ := Aside0.mk (bB_ (g := gb140) (o := .cells #[.string a0_0, .string a0_1, .slice A0_2 l0_2.length c0_2, .string a0_3] 66 (0, 0)) (by (with_reducible repeat (first | refine bN_ ?_ _ | refine bD_ ?_ | refine bA_ ?_ _)); refine blk_far ?_ NB140_170.out _; (with_reducible repeat (first | refine bN_ ?_ _ | refine bD_ ?_ | refine bA_ ?_ _)); refine blk_far ?_ NB140_170.out _; (with_reducible repeat (first | refine bN_ ?_ _ | refine bD_ ?_ | refine bA_ ?_ _)); refine blk_far ?_ NB140_170.out _; (with_reducible repeat (first | refine bN_ ?_ _ | refine bD_ ?_ | refine bA_ ?_ _)); refine blk_far ?_ NB140_170.out _; (with_reducible repeat (first | refine bN_ ?_ _ | refine bD_ ?_ | refine bA_ ?_ _)); exact BK140.out) hb); have n5_ := Aside0.mk (bB_ (g := gb141) (o := .cells #[.string a1_0, .string a1_1, .slice A1_2 l1_2.length c1_2, .string a1_3] 66 (0, 0)) (by (with_reducible repeat (first | refine bN_ ?_ _ | refine bD_ ?_ | refine bA_ ?_ _)); refine blk_far ?_ NB141_170.out _; (with_reducible repeat (first | refine bN_ ?_ _ | refine bD_ ?_ | refine bA_ ?_ _)); refine blk_far ?_ NB141_170.out _; (with_reducible repeat (first | refine bN_ ?_ _ | refine bD_ ?_ | refine bA_ ?_ _)); refine blk_far ?_ NB141_170.out _; (with_reducible repeat (first | refine bN_ ?_ _ | refine bD_ ?_ | refine bA_ ?_ _)); refine blk_far ?_ NB141_170.out _; (with_reducible repeat (first | refine bN_ ?_ _ | refine bD_ ?_ | refine bA_ ?_ _)); exact BK141.out) hb); have n6_ := Aside0.mk (bB_ (g := gb163) (o := .cells #[.string t157, .string t158, .slice Ao81 t159.length co81, .string t162] 70 (0, 0)) (by (with_reducible repeat (first | refine bN_ ?_ _ | refine bD_ ?_ | refine bA_ ?_ _)); refine blk_far ?_ NB163_170.out _; (with_reducible repeat (first | refine bN_ ?_ _ | refine bD_ ?_ | refine bA_ ?_ _)); refine blk_far ?_ NB163_170.out _; (with_reducible repeat (first | refine bN_ ?_ _ | refine bD_ ?_ | refine bA_ ?_ _)); refine blk_far ?_ NB163_170.out _; (with_reducible repeat (first | refine bN_ ?_ _ | refine bD_ ?_ | refine bA_ ?_ _)); refine blk_far ?_ NB163_170.out _; (with_reducible repeat (first | refine bN_ ?_ _ | refine bD_ ?_ | refine bA_ ?_ _)); exact BK163.out) hb); have n7_ := Aside0.mk (bB_ (g := gb170) (o := .cells #[.string t164, .string t165, .slice Ao89 t166.length co89, .string t169] 70 (0, 0)) (by (with_reducible repeat (first | refine bN_ ?_ _ | refine bD_ ?_ | refine bA_ ?_ _)); refine blk_put (cs := #[.string t164, .string t165, .slice Ao89 t166.length co89, .string (⟨#[]⟩ : ByteArray)]) ?_ 3 _ rfl; (with_reducible repeat (first | refine bN_ ?_ _ | refine bD_ ?_ | refine bA_ ?_ _)); refine blk_put (cs := #[.string t164, .string t165, .slice none 0 0, .string (⟨#[]⟩ : ByteArray)]) ?_ 2 _ rfl; (with_reducible repeat (first | refine bN_ ?_ _ | refine bD_ ?_ | refine bA_ ?_ _)); refine blk_put (cs := #[.string t164, .string (⟨#[]⟩ : ByteArray), .slice none 0 0, .string (⟨#[]⟩ : ByteArray)]) ?_ 1 _ rfl; (with_reducible repeat (first | refine bN_ ?_ _ | refine bD_ ?_ | refine bA_ ?_ _)); refine blk_put (cs := #[.string (⟨#[]⟩ : ByteArray), .string (⟨#[]⟩ : ByteArray), .slice none 0 0, .string (⟨#[]⟩ : ByteArray)]) ?_ 0 _ rfl; (with_reducible repeat (first | refine bN_ ?_ _ | refine bD_ ?_ | refine bA_ ?_ _)); exact BK170.out) hb); have n8_ := Aside0.mk (below_step (by repeat (first | (with_reducible first | exact HB.out | apply aB_ | apply pN_ | apply dB_ | refine sB_ ?_ GE140.out | refine sB_ ?_ GE141.out | refine sB_ ?_ GE163.out | refine sB_ ?_ GE170.out) | exact HB.out)) hb); clear HO148; clear HO154; clear HO161; clear HO168; clear BK140; clear BK141; clear BK163; clear BK170; clear HB; have HO148 := n0_; have HO154 := n1_; have HO161 := n2_; have HO168 := n3_; have BK140 := n4_; have BK141 := n5_; have BK163 := n6_; have BK170 := n7_; have HB := n8_; clear n0_ n1_ n2_ n3_ n4_ n5_ n6_ n7_ n8_; (try clear hb); (try clear hb2); (try clear hk); (try clear hi)))
            have n0_ := Aside0.mk (rD_ HO148.out)
            have n1_ := Aside0.mk (rD_ HO154.out)
            have n2_ := Aside0.mk (rD_ HO161.out)
            have n3_ := Aside0.mk (rD_ HO168.out)
            have n4_ := Aside0.mk (bD_ BK140.out)
            have n5_ := Aside0.mk (bD_ BK141.out)
            have n6_ := Aside0.mk (bD_ BK163.out)
            have n7_ := Aside0.mk (bD_ BK170.out)
            have n8_ := Aside0.mk (dB_ HB.out)
            clear HO148
            clear HO154
            clear HO161
            clear HO168
            clear BK140
            clear BK141
            clear BK163
            clear BK170
            clear HB
            have HO148 := n0_
            have HO154 := n1_
            have HO161 := n2_
            have HO168 := n3_
            have BK140 := n4_
            have BK141 := n5_
            have BK163 := n6_
            have BK170 := n7_
            have HB := n8_
            clear n0_ n1_ n2_ n3_ n4_ n5_ n6_ n7_ n8_
            refine start_ (n := 5) (S := fun w' => w'.cell? ⟨gb163, 0, none⟩ = some (.string t157) ∧ w'.cell? ⟨gb163, 1, none⟩ = some (.string t158) ∧ w'.cell? ⟨gb163, 2, none⟩ = some (.slice Ao81 t159.length co81) ∧ w'.cell? ⟨gb163, 3, none⟩ = some (.string t162) ∧ w'.cell? ⟨gb140, 0, none⟩ = some (.string a0_0) ∧ w'.cell? ⟨gb140, 1, none⟩ = some (.string a0_1) ∧ w'.cell? ⟨gb140, 2, none⟩ = some (.slice A0_2 l0_2.length c0_2) ∧ w'.cell? ⟨gb140, 3, none⟩ = some (.string a0_3)) (ds := []) #[false, false, false, false, false] (by kernel_rfl) rfl rfl ⟨(bc_ BK163.out 0).trans rfl, (bc_ BK163.out 1).trans rfl, (bc_ BK163.out 2).trans rfl, (bc_ BK163.out 3).trans rfl, (bc_ BK140.out 0).trans rfl, (bc_ BK140.out 1).trans rfl, (bc_ BK140.out 2).trans rfl, (bc_ BK140.out 3).trans rfl⟩ (fun hHeld => ?_)
            generalize w91.drew = w92 at HO148 HO154 HO161 HO168 BK140 BK141 BK163 BK170 HB hHeld ⊢
            refine take_ (i := 0) (N := some 35) (v := ?_) (a' := ?_) #[true, false, false, false, false] rfl rfl (by kernel_rfl) (fun _ _ _ h => h) (Or.inl ⟨by rfl, ?_⟩) hHeld ?_ ?_
            rotate_left
            · rintro w' ⟨s0, s1, s2, s3, s4, s5, s6, s7⟩
              go_simp
              with_reducible rfl
            rotate_left
            · simp only [Act.put, List.setIfInBounds_toArray, List.set_cons_zero, List.set_cons_succ, i64_w, i32_w]
              rfl
            refine take_ (i := 1) (N := some 36) (v := ?_) (a' := ?_) #[true, true, false, false, false] rfl rfl (by kernel_rfl) (fun _ _ _ h => h) (Or.inl ⟨by rfl, ?_⟩) hHeld ?_ ?_
            rotate_left
            · rintro w' ⟨s0, s1, s2, s3, s4, s5, s6, s7⟩
              go_simp
              with_reducible rfl
            rotate_left
            · simp only [Act.put, List.setIfInBounds_toArray, List.set_cons_zero, List.set_cons_succ, i64_w, i32_w]
              rfl
            refine one_ (i := 2) (N := some 37) #[true, true, true, false, false] rfl rfl (by kernel_rfl) (by decide) (fun K hK => ?_)
            refine goes_ Try.func50 (by kernel_rfl) rfl #[.agg #[.string a0_0, .string a0_1, .slice A0_2 l0_2.length c0_2, .string a0_3]] (by rfl) rfl rfl (by (try simp only [List.map_toArray, List.map_cons, List.map_nil]); first | done | rfl | (simp only [List.length_drop, List.length_take]; rfl)) ?_
            with_reducible refine (laws_toReq.calls k a0_0 a0_1 _ _ l0_2 a0_3 t172 t173 t174 t177 _ ?side1 ?side2 A56.out).mono ?_
            (case side1 => repeat (first | exact (Kd.C_below HR0_2.out HB.out) | (with_reducible refine Kd.C_alloc ?_ _) | (with_reducible refine Kd.C_drewN ?_ _) | (with_reducible refine Kd.C_drew ?_)))
            (case side2 => exact HC0_2.out)
            rintro e w93 ⟨v175, rfl, ho0, hb⟩
            refine ⟨_, rfl, ?_⟩
            have n0_ := Aside0.mk (Kd.R_elder' (by (with_reducible repeat (first | apply rA_ | apply rN_ | apply rD_)); exact HO148.out) (Kd.R_base ho0) hb)
            have n1_ := Aside0.mk (Kd.R_elder' (by (with_reducible repeat (first | apply rA_ | apply rN_ | apply rD_)); exact HO154.out) (Kd.R_base ho0) hb)
            have n2_ := Aside0.mk (Kd.R_elder' (by (with_reducible repeat (first | apply rA_ | apply rN_ | apply rD_)); exact HO161.out) (Kd.R_base ho0) hb)
            have n3_ := Aside0.mk (Kd.R_elder' (by (with_reducible repeat (first | apply rA_ | apply rN_ | apply rD_)); exact HO168.out) (Kd.R_base ho0) hb)
            have n4_ := Aside0.mk (Kd.R_lower (Kd.R_new' (Kd.R_new' (Kd.R_new' (Kd.R_new' ho0 (Kd.R_lt (by (with_reducible repeat (first | apply rA_ | apply rN_ | apply rD_)); exact HO148.out))) (Kd.R_lt (by (with_reducible repeat (first | apply rA_ | apply rN_ | apply rD_)); exact HO154.out))) (Kd.R_lt (by (with_reducible repeat (first | apply rA_ | apply rN_ | apply rD_)); exact HO161.out))) (Kd.R_lt (by (with_reducible repeat (first | apply rA_ | apply rN_ | apply rD_)); exact HO168.out))) (below_size (by repeat (first | (with_reducible first | exact HB.out | apply aB_ | apply pN_ | apply dB_ | refine sB_ ?_ GE140.out | refine sB_ ?_ GE141.out | refine sB_ ?_ GE163.out | refine sB_ ?_ GE170.out) | exact HB.out))))
            have n5_ := Aside0.mk (bB_ (g := gb140) (o := .cells #[.string a0_0, .string a0_1, .slice A0_2 l0_2.length c0_2, .string a0_3] 66 (0, 0)) (by (with_reducible repeat (first | refine bN_ ?_ _ | refine bD_ ?_ | refine bA_ ?_ _)); exact BK140.out) hb)
            have n6_ := Aside0.mk (bB_ (g := gb141) (o := .cells #[.string a1_0, .string a1_1, .slice A1_2 l1_2.length c1_2, .string a1_3] 66 (0, 0)) (by (with_reducible repeat (first | refine bN_ ?_ _ | refine bD_ ?_ | refine bA_ ?_ _)); exact BK141.out) hb)
            have n7_ := Aside0.mk (bB_ (g := gb163) (o := .cells #[.string t157, .string t158, .slice Ao81 t159.length co81, .string t162] 70 (0, 0)) (by (with_reducible repeat (first | refine bN_ ?_ _ | refine bD_ ?_ | refine bA_ ?_ _)); exact BK163.out) hb)
            have n8_ := Aside0.mk (bB_ (g := gb170) (o := .cells #[.string t164, .string t165, .slice Ao89 t166.length co89, .string t169] 70 (0, 0)) (by (with_reducible repeat (first | refine bN_ ?_ _ | refine bD_ ?_ | refine bA_ ?_ _)); exact BK170.out) hb)
            have n9_ := Aside0.mk (below_step (by repeat (first | (with_reducible first | exact HB.out | apply aB_ | apply pN_ | apply dB_ | refine sB_ ?_ GE140.out | refine sB_ ?_ GE141.out | refine sB_ ?_ GE163.out | refine sB_ ?_ GE170.out) | exact HB.out)) hb)
            clear HO148
            clear HO154
            clear HO161
            clear HO168
            clear BK140
            clear BK141
            clear BK163
            clear BK170
            clear HB
            have HO148 := n0_
            have HO154 := n1_
            have HO161 := n2_
            have HO168 := n3_
            have HO176 := n4_
            have BK140 := n5_
            have BK141 := n6_
            have BK163 := n7_
            have BK170 := n8_
            have HB := n9_
            clear n0_ n1_ n2_ n3_ n4_ n5_ n6_ n7_ n8_ n9_
            (try clear hb)
            (try clear hb2)
            (try clear hk)
            (try clear hi)
            (try clear ho0)
            obtain ⟨Ao94, co94, eo94⟩ := Kd.R_slice HO176.out
            (first | subst eo94 | (injection eo94 with f1_ f2_ f3_; have f4_ := f1_.symm; have f5_ := f3_.symm; clear f1_ f2_ f3_; subst f4_; subst f5_))
            refine hK.out _ _ ⟨(bc_ BK163.out 0).trans rfl, (bc_ BK163.out 1).trans rfl, (bc_ BK163.out 2).trans rfl, (bc_ BK163.out 3).trans rfl, (bc_ BK140.out 0).trans rfl, (bc_ BK140.out 1).trans rfl, (bc_ BK140.out 2).trans rfl, (bc_ BK140.out 3).trans rfl⟩ (fun hHeld => ?_)
            clear hK K
            refine norm_ (a' := ?_) ?_ ?_
            rotate_left
            · show Act.put _ (some 37) _ = _
              simp only [Act.put, List.setIfInBounds_toArray, List.set_cons_zero, List.set_cons_succ, i64_w, i32_w]
              rfl
            refine one_ (i := 3) (N := some 38) #[true, true, true, true, false] rfl rfl (by kernel_rfl) (by decide) (fun K hK => ?_)
            refine goes_ Try.func52 (by kernel_rfl) rfl #[.agg #[.string t157, .string t158, .slice Ao81 t159.length co81, .string t162], .agg #[.string t172, .string t173, .slice Ao94 t174.length co94, .string t177]] (by rfl) rfl rfl (by (try simp only [List.map_toArray, List.map_cons, List.map_nil]); first | done | rfl | (simp only [List.length_drop, List.length_take]; rfl)) ?_
            with_reducible refine (laws_eqReq.calls k t157 t158 _ _ t159 t162 t172 t173 _ _ t174 t177 true _ ?side1 ?side2 ?side3 ?side4 A57.out).mono ?_
            (case side1 => repeat (first | exact (Kd.R_reads' HO161.out).2.2 | (with_reducible refine Kd.C_alloc ?_ _) | (with_reducible refine Kd.C_drewN ?_ _) | (with_reducible refine Kd.C_drew ?_)))
            (case side2 => exact (Kd.R_reads' HO161.out).2.1)
            (case side3 => repeat (first | exact (Kd.R_reads' HO176.out).2.2 | (with_reducible refine Kd.C_alloc ?_ _) | (with_reducible refine Kd.C_drewN ?_ _) | (with_reducible refine Kd.C_drew ?_)))
            (case side4 => exact (Kd.R_reads' HO176.out).2.1)
            rintro e w95 ⟨rfl, hb⟩
            refine ⟨_, rfl, ?_⟩
            have n0_ := Aside0.mk (Kd.R_below (by (with_reducible repeat (first | apply rA_ | apply rN_ | apply rD_)); exact HO148.out) hb)
            have n1_ := Aside0.mk (Kd.R_below (by (with_reducible repeat (first | apply rA_ | apply rN_ | apply rD_)); exact HO154.out) hb)
            have n2_ := Aside0.mk (Kd.R_below (by (with_reducible repeat (first | apply rA_ | apply rN_ | apply rD_)); exact HO161.out) hb)
            have n3_ := Aside0.mk (Kd.R_below (by (with_reducible repeat (first | apply rA_ | apply rN_ | apply rD_)); exact HO168.out) hb)
            have n4_ := Aside0.mk (Kd.R_below (by (with_reducible repeat (first | apply rA_ | apply rN_ | apply rD_)); exact HO176.out) hb)
            have n5_ := Aside0.mk (bB_ (g := gb140) (o := .cells #[.string a0_0, .string a0_1, .slice A0_2 l0_2.length c0_2, .string a0_3] 66 (0, 0)) (by (with_reducible repeat (first | refine bN_ ?_ _ | refine bD_ ?_ | refine bA_ ?_ _)); exact BK140.out) hb)
            have n6_ := Aside0.mk (bB_ (g := gb141) (o := .cells #[.string a1_0, .string a1_1, .slice A1_2 l1_2.length c1_2, .string a1_3] 66 (0, 0)) (by (with_reducible repeat (first | refine bN_ ?_ _ | refine bD_ ?_ | refine bA_ ?_ _)); exact BK141.out) hb)
            have n7_ := Aside0.mk (bB_ (g := gb163) (o := .cells #[.string t157, .string t158, .slice Ao81 t159.length co81, .string t162] 70 (0, 0)) (by (with_reducible repeat (first | refine bN_ ?_ _ | refine bD_ ?_ | refine bA_ ?_ _)); exact BK163.out) hb)
            have n8_ := Aside0.mk (bB_ (g := gb170) (o := .cells #[.string t164, .string t165, .slice Ao89 t166.length co89, .string t169] 70 (0, 0)) (by (with_reducible repeat (first | refine bN_ ?_ _ | refine bD_ ?_ | refine bA_ ?_ _)); exact BK170.out) hb)
            have n9_ := Aside0.mk (below_step (by repeat (first | (with_reducible first | exact HB.out | apply aB_ | apply pN_ | apply dB_ | refine sB_ ?_ GE140.out | refine sB_ ?_ GE141.out | refine sB_ ?_ GE163.out | refine sB_ ?_ GE170.out) | exact HB.out)) hb)
            clear HO148
            clear HO154
            clear HO161
            clear HO168
            clear HO176
            clear BK140
            clear BK141
            clear BK163
            clear BK170
            clear HB
            have HO148 := n0_
            have HO154 := n1_
            have HO161 := n2_
            have HO168 := n3_
            have HO176 := n4_
            have BK140 := n5_
            have BK141 := n6_
            have BK163 := n7_
            have BK170 := n8_
            have HB := n9_
            clear n0_ n1_ n2_ n3_ n4_ n5_ n6_ n7_ n8_ n9_
            (try clear hb)
            (try clear hb2)
            (try clear hk)
            (try clear hi)
            refine hK.out _ _ ⟨(bc_ BK163.out 0).trans rfl, (bc_ BK163.out 1).trans rfl, (bc_ BK163.out 2).trans rfl, (bc_ BK163.out 3).trans rfl, (bc_ BK140.out 0).trans rfl, (bc_ BK140.out 1).trans rfl, (bc_ BK140.out 2).trans rfl, (bc_ BK140.out 3).trans rfl⟩ (fun hHeld => ?_)
            clear hK K
            refine norm_ (a' := ?_) ?_ ?_
            rotate_left
            · show Act.put _ (some 38) _ = _
              simp only [Act.put, List.setIfInBounds_toArray, List.set_cons_zero, List.set_cons_succ, i64_w, i32_w]
              rfl
            refine pure_ (i := 4) (N := some 39) (v := ?_) (a' := ?_) #[true, true, true, true, true] rfl rfl (by kernel_rfl) (fun _ _ _ h => h) (Or.inl ⟨by rfl, ?_⟩) ?_ ?_
            rotate_left
            · intro w'
              go_simp
              with_reducible rfl
            rotate_left
            · simp only [Act.put, List.setIfInBounds_toArray, List.set_cons_zero, List.set_cons_succ, i64_w, i32_w]
              rfl
            refine done_ (by kernel_rfl) ?_
            try go_wp2
            have n0_ := Aside0.mk (rD_ HO148.out)
            have n1_ := Aside0.mk (rD_ HO154.out)
            have n2_ := Aside0.mk (rD_ HO161.out)
            have n3_ := Aside0.mk (rD_ HO168.out)
            have n4_ := Aside0.mk (rD_ HO176.out)
            have n5_ := Aside0.mk (bD_ BK140.out)
            have n6_ := Aside0.mk (bD_ BK141.out)
            have n7_ := Aside0.mk (bD_ BK163.out)
            have n8_ := Aside0.mk (bD_ BK170.out)
            have n9_ := Aside0.mk (dB_ HB.out)
            clear HO148
            clear HO154
            clear HO161
            clear HO168
            clear HO176
            clear BK140
            clear BK141
            clear BK163
            clear BK170
            clear HB
            have HO148 := n0_
            have HO154 := n1_
            have HO161 := n2_
            have HO168 := n3_
            have HO176 := n4_
            have BK140 := n5_
            have BK141 := n6_
            have BK163 := n7_
            have BK170 := n8_
            have HB := n9_
            clear n0_ n1_ n2_ n3_ n4_ n5_ n6_ n7_ n8_ n9_
            refine start_ (n := 5) (S := fun w' => w'.cell? ⟨gb170, 0, none⟩ = some (.string t164) ∧ w'.cell? ⟨gb170, 1, none⟩ = some (.string t165) ∧ w'.cell? ⟨gb170, 2, none⟩ = some (.slice Ao89 t166.length co89) ∧ w'.cell? ⟨gb170, 3, none⟩ = some (.string t169) ∧ w'.cell? ⟨gb141, 0, none⟩ = some (.string a1_0) ∧ w'.cell? ⟨gb141, 1, none⟩ = some (.string a1_1) ∧ w'.cell? ⟨gb141, 2, none⟩ = some (.slice A1_2 l1_2.length c1_2) ∧ w'.cell? ⟨gb141, 3, none⟩ = some (.string a1_3)) (ds := []) #[false, false, false, false, false] (by kernel_rfl) rfl rfl ⟨(bc_ BK170.out 0).trans rfl, (bc_ BK170.out 1).trans rfl, (bc_ BK170.out 2).trans rfl, (bc_ BK170.out 3).trans rfl, (bc_ BK141.out 0).trans rfl, (bc_ BK141.out 1).trans rfl, (bc_ BK141.out 2).trans rfl, (bc_ BK141.out 3).trans rfl⟩ (fun hHeld => ?_)
            generalize w95.drew = w96 at HO148 HO154 HO161 HO168 HO176 BK140 BK141 BK163 BK170 HB hHeld ⊢
            refine take_ (i := 0) (N := some 40) (v := ?_) (a' := ?_) #[true, false, false, false, false] rfl rfl (by kernel_rfl) (fun _ _ _ h => h) (Or.inl ⟨by rfl, ?_⟩) hHeld ?_ ?_
            rotate_left
            · rintro w' ⟨s0, s1, s2, s3, s4, s5, s6, s7⟩
              go_simp
              with_reducible rfl
            rotate_left
            · simp only [Act.put, List.setIfInBounds_toArray, List.set_cons_zero, List.set_cons_succ, i64_w, i32_w]
              rfl
            refine take_ (i := 1) (N := some 41) (v := ?_) (a' := ?_) #[true, true, false, false, false] rfl rfl (by kernel_rfl) (fun _ _ _ h => h) (Or.inl ⟨by rfl, ?_⟩) hHeld ?_ ?_
            rotate_left
            · rintro w' ⟨s0, s1, s2, s3, s4, s5, s6, s7⟩
              go_simp
              with_reducible rfl
            rotate_left
            · simp only [Act.put, List.setIfInBounds_toArray, List.set_cons_zero, List.set_cons_succ, i64_w, i32_w]
              rfl
            refine one_ (i := 2) (N := some 42) #[true, true, true, false, false] rfl rfl (by kernel_rfl) (by decide) (fun K hK => ?_)
            refine goes_ Try.func50 (by kernel_rfl) rfl #[.agg #[.string a1_0, .string a1_1, .slice A1_2 l1_2.length c1_2, .string a1_3]] (by rfl) rfl rfl (by (try simp only [List.map_toArray, List.map_cons, List.map_nil]); first | done | rfl | (simp only [List.length_drop, List.length_take]; rfl)) ?_
            with_reducible refine (laws_toReq.calls k a1_0 a1_1 _ _ l1_2 a1_3 t179 t180 t181 t184 _ ?side1 ?side2 A59.out).mono ?_
            (case side1 => repeat (first | exact (Kd.C_below HR1_2.out HB.out) | (with_reducible refine Kd.C_alloc ?_ _) | (with_reducible refine Kd.C_drewN ?_ _) | (with_reducible refine Kd.C_drew ?_)))
            (case side2 => exact HC1_2.out)
            rintro e w97 ⟨v182, rfl, ho0, hb⟩
            refine ⟨_, rfl, ?_⟩
            have n0_ := Aside0.mk (Kd.R_elder' (by (with_reducible repeat (first | apply rA_ | apply rN_ | apply rD_)); exact HO148.out) (Kd.R_base ho0) hb)
            have n1_ := Aside0.mk (Kd.R_elder' (by (with_reducible repeat (first | apply rA_ | apply rN_ | apply rD_)); exact HO154.out) (Kd.R_base ho0) hb)
            have n2_ := Aside0.mk (Kd.R_elder' (by (with_reducible repeat (first | apply rA_ | apply rN_ | apply rD_)); exact HO161.out) (Kd.R_base ho0) hb)
            have n3_ := Aside0.mk (Kd.R_elder' (by (with_reducible repeat (first | apply rA_ | apply rN_ | apply rD_)); exact HO168.out) (Kd.R_base ho0) hb)
            have n4_ := Aside0.mk (Kd.R_elder' (by (with_reducible repeat (first | apply rA_ | apply rN_ | apply rD_)); exact HO176.out) (Kd.R_base ho0) hb)
            have n5_ := Aside0.mk (Kd.R_lower (Kd.R_new' (Kd.R_new' (Kd.R_new' (Kd.R_new' (Kd.R_new' ho0 (Kd.R_lt (by (with_reducible repeat (first | apply rA_ | apply rN_ | apply rD_)); exact HO148.out))) (Kd.R_lt (by (with_reducible repeat (first | apply rA_ | apply rN_ | apply rD_)); exact HO154.out))) (Kd.R_lt (by (with_reducible repeat (first | apply rA_ | apply rN_ | apply rD_)); exact HO161.out))) (Kd.R_lt (by (with_reducible repeat (first | apply rA_ | apply rN_ | apply rD_)); exact HO168.out))) (Kd.R_lt (by (with_reducible repeat (first | apply rA_ | apply rN_ | apply rD_)); exact HO176.out))) (below_size (by repeat (first | (with_reducible first | exact HB.out | apply aB_ | apply pN_ | apply dB_ | refine sB_ ?_ GE140.out | refine sB_ ?_ GE141.out | refine sB_ ?_ GE163.out | refine sB_ ?_ GE170.out) | exact HB.out))))
            have n6_ := Aside0.mk (bB_ (g := gb140) (o := .cells #[.string a0_0, .string a0_1, .slice A0_2 l0_2.length c0_2, .string a0_3] 66 (0, 0)) (by (with_reducible repeat (first | refine bN_ ?_ _ | refine bD_ ?_ | refine bA_ ?_ _)); exact BK140.out) hb)
            have n7_ := Aside0.mk (bB_ (g := gb141) (o := .cells #[.string a1_0, .string a1_1, .slice A1_2 l1_2.length c1_2, .string a1_3] 66 (0, 0)) (by (with_reducible repeat (first | refine bN_ ?_ _ | refine bD_ ?_ | refine bA_ ?_ _)); exact BK141.out) hb)
            have n8_ := Aside0.mk (bB_ (g := gb163) (o := .cells #[.string t157, .string t158, .slice Ao81 t159.length co81, .string t162] 70 (0, 0)) (by (with_reducible repeat (first | refine bN_ ?_ _ | refine bD_ ?_ | refine bA_ ?_ _)); exact BK163.out) hb)
            have n9_ := Aside0.mk (bB_ (g := gb170) (o := .cells #[.string t164, .string t165, .slice Ao89 t166.length co89, .string t169] 70 (0, 0)) (by (with_reducible repeat (first | refine bN_ ?_ _ | refine bD_ ?_ | refine bA_ ?_ _)); exact BK170.out) hb)
            have n10_ := Aside0.mk (below_step (by repeat (first | (with_reducible first | exact HB.out | apply aB_ | apply pN_ | apply dB_ | refine sB_ ?_ GE140.out | refine sB_ ?_ GE141.out | refine sB_ ?_ GE163.out | refine sB_ ?_ GE170.out) | exact HB.out)) hb)
            clear HO148
            clear HO154
            clear HO161
            clear HO168
            clear HO176
            clear BK140
            clear BK141
            clear BK163
            clear BK170
            clear HB
            have HO148 := n0_
            have HO154 := n1_
            have HO161 := n2_
            have HO168 := n3_
            have HO176 := n4_
            have HO183 := n5_
            have BK140 := n6_
            have BK141 := n7_
            have BK163 := n8_
            have BK170 := n9_
            have HB := n10_
            clear n0_ n1_ n2_ n3_ n4_ n5_ n6_ n7_ n8_ n9_ n10_
            (try clear hb)
            (try clear hb2)
            (try clear hk)
            (try clear hi)
            (try clear ho0)
            obtain ⟨Ao98, co98, eo98⟩ := Kd.R_slice HO183.out
            (first | subst eo98 | (injection eo98 with f1_ f2_ f3_; have f4_ := f1_.symm; have f5_ := f3_.symm; clear f1_ f2_ f3_; subst f4_; subst f5_))
            refine hK.out _ _ ⟨(bc_ BK170.out 0).trans rfl, (bc_ BK170.out 1).trans rfl, (bc_ BK170.out 2).trans rfl, (bc_ BK170.out 3).trans rfl, (bc_ BK141.out 0).trans rfl, (bc_ BK141.out 1).trans rfl, (bc_ BK141.out 2).trans rfl, (bc_ BK141.out 3).trans rfl⟩ (fun hHeld => ?_)
            clear hK K
            refine norm_ (a' := ?_) ?_ ?_
            rotate_left
            · show Act.put _ (some 42) _ = _
              simp only [Act.put, List.setIfInBounds_toArray, List.set_cons_zero, List.set_cons_succ, i64_w, i32_w]
              rfl
            refine one_ (i := 3) (N := some 43) #[true, true, true, true, false] rfl rfl (by kernel_rfl) (by decide) (fun K hK => ?_)
            refine goes_ Try.func52 (by kernel_rfl) rfl #[.agg #[.string t164, .string t165, .slice Ao89 t166.length co89, .string t169], .agg #[.string t179, .string t180, .slice Ao98 t181.length co98, .string t184]] (by rfl) rfl rfl (by (try simp only [List.map_toArray, List.map_cons, List.map_nil]); first | done | rfl | (simp only [List.length_drop, List.length_take]; rfl)) ?_
            with_reducible refine (laws_eqReq.calls k t164 t165 _ _ t166 t169 t179 t180 _ _ t181 t184 true _ ?side1 ?side2 ?side3 ?side4 A60.out).mono ?_
            (case side1 => repeat (first | exact (Kd.R_reads' HO168.out).2.2 | (with_reducible refine Kd.C_alloc ?_ _) | (with_reducible refine Kd.C_drewN ?_ _) | (with_reducible refine Kd.C_drew ?_)))
            (case side2 => exact (Kd.R_reads' HO168.out).2.1)
            (case side3 => repeat (first | exact (Kd.R_reads' HO183.out).2.2 | (with_reducible refine Kd.C_alloc ?_ _) | (with_reducible refine Kd.C_drewN ?_ _) | (with_reducible refine Kd.C_drew ?_)))
            (case side4 => exact (Kd.R_reads' HO183.out).2.1)
            rintro e w99 ⟨rfl, hb⟩
            refine ⟨_, rfl, ?_⟩
            have n0_ := Aside0.mk (Kd.R_below (by (with_reducible repeat (first | apply rA_ | apply rN_ | apply rD_)); exact HO148.out) hb)
            have n1_ := Aside0.mk (Kd.R_below (by (with_reducible repeat (first | apply rA_ | apply rN_ | apply rD_)); exact HO154.out) hb)
            have n2_ := Aside0.mk (Kd.R_below (by (with_reducible repeat (first | apply rA_ | apply rN_ | apply rD_)); exact HO161.out) hb)
            have n3_ := Aside0.mk (Kd.R_below (by (with_reducible repeat (first | apply rA_ | apply rN_ | apply rD_)); exact HO168.out) hb)
            have n4_ := Aside0.mk (Kd.R_below (by (with_reducible repeat (first | apply rA_ | apply rN_ | apply rD_)); exact HO176.out) hb)
            have n5_ := Aside0.mk (Kd.R_below (by (with_reducible repeat (first | apply rA_ | apply rN_ | apply rD_)); exact HO183.out) hb)
            have n6_ := Aside0.mk (bB_ (g := gb140) (o := .cells #[.string a0_0, .string a0_1, .slice A0_2 l0_2.length c0_2, .string a0_3] 66 (0, 0)) (by (with_reducible repeat (first | refine bN_ ?_ _ | refine bD_ ?_ | refine bA_ ?_ _)); exact BK140.out) hb)
            have n7_ := Aside0.mk (bB_ (g := gb141) (o := .cells #[.string a1_0, .string a1_1, .slice A1_2 l1_2.length c1_2, .string a1_3] 66 (0, 0)) (by (with_reducible repeat (first | refine bN_ ?_ _ | refine bD_ ?_ | refine bA_ ?_ _)); exact BK141.out) hb)
            have n8_ := Aside0.mk (bB_ (g := gb163) (o := .cells #[.string t157, .string t158, .slice Ao81 t159.length co81, .string t162] 70 (0, 0)) (by (with_reducible repeat (first | refine bN_ ?_ _ | refine bD_ ?_ | refine bA_ ?_ _)); exact BK163.out) hb)
            have n9_ := Aside0.mk (bB_ (g := gb170) (o := .cells #[.string t164, .string t165, .slice Ao89 t166.length co89, .string t169] 70 (0, 0)) (by (with_reducible repeat (first | refine bN_ ?_ _ | refine bD_ ?_ | refine bA_ ?_ _)); exact BK170.out) hb)
            have n10_ := Aside0.mk (below_step (by repeat (first | (with_reducible first | exact HB.out | apply aB_ | apply pN_ | apply dB_ | refine sB_ ?_ GE140.out | refine sB_ ?_ GE141.out | refine sB_ ?_ GE163.out | refine sB_ ?_ GE170.out) | exact HB.out)) hb)
            clear HO148
            clear HO154
            clear HO161
            clear HO168
            clear HO176
            clear HO183
            clear BK140
            clear BK141
            clear BK163
            clear BK170
            clear HB
            have HO148 := n0_
            have HO154 := n1_
            have HO161 := n2_
            have HO168 := n3_
            have HO176 := n4_
            have HO183 := n5_
            have BK140 := n6_
            have BK141 := n7_
            have BK163 := n8_
            have BK170 := n9_
            have HB := n10_
            clear n0_ n1_ n2_ n3_ n4_ n5_ n6_ n7_ n8_ n9_ n10_
            (try clear hb)
            (try clear hb2)
            (try clear hk)
            (try clear hi)
            refine hK.out _ _ ⟨(bc_ BK170.out 0).trans rfl, (bc_ BK170.out 1).trans rfl, (bc_ BK170.out 2).trans rfl, (bc_ BK170.out 3).trans rfl, (bc_ BK141.out 0).trans rfl, (bc_ BK141.out 1).trans rfl, (bc_ BK141.out 2).trans rfl, (bc_ BK141.out 3).trans rfl⟩ (fun hHeld => ?_)
            clear hK K
            refine norm_ (a' := ?_) ?_ ?_
            rotate_left
            · show Act.put _ (some 43) _ = _
              simp only [Act.put, List.setIfInBounds_toArray, List.set_cons_zero, List.set_cons_succ, i64_w, i32_w]
              rfl
            refine pure_ (i := 4) (N := some 44) (v := ?_) (a' := ?_) #[true, true, true, true, true] rfl rfl (by kernel_rfl) (fun _ _ _ h => h) (Or.inl ⟨by rfl, ?_⟩) ?_ ?_
            rotate_left
            · intro w'
              go_simp
              with_reducible rfl
            rotate_left
            · simp only [Act.put, List.setIfInBounds_toArray, List.set_cons_zero, List.set_cons_succ, i64_w, i32_w]
              rfl
            refine done_ (by kernel_rfl) ?_
            try go_wp2
            go_ret
            exact ⟨by first | rfl | (simp [errW_none, errW_some] <;> rfl) | (simp [*, errW_none, errW_some] <;> rfl), by repeat (first | (with_reducible first | exact HB.out | apply aB_ | apply pN_ | apply dB_ | refine sB_ ?_ GE140.out | refine sB_ ?_ GE141.out | refine sB_ ?_ GE163.out | refine sB_ ?_ GE170.out) | exact HB.out)⟩
          · replace c61 := Bool.eq_false_iff.mpr c61
            subst c61
            have H1 : (some false) = some r := by rw [if_neg (show ¬ (false = true) by decide)] at H; exact H
            clear H
            have H := H1
            clear H1
            obtain rfl := Option.some.inj H
            go_enter Try.func11, Try.ntmps11
            try go_wp2_with (first | ((with_reducible refine gate_dst (N := 2) rfl ?_); refine box_event ?hg (N := 2) ?hd (cs := #[.string a0_0, .string a0_1, .slice A0_2 l0_2.length c0_2, .string a0_3]) (t := 66) ?hr ?_; (case hd => rfl); (case hg => rfl); (case hr => first | (go_simp; done) | (go_simp; rfl)); intro gb140 hg w100 hbox hb; have n0_ := Aside0.mk (below_step (by repeat (first | (with_reducible first | exact HB.out | apply aB_ | apply pN_ | apply dB_) | exact HB.out)) hb); have n1_ := Aside0.mk (hbox); have n2_ := Aside0.mk ((by rw [hg]; exact (below_size (by repeat (first | (with_reducible first | exact HB.out | apply aB_ | apply pN_ | apply dB_) | exact HB.out))) : w.heap.size ≤ gb140)); have n3_ := Aside0.mk ((by rw [hg]; exact (below_size (by repeat (first | (with_reducible first | exact HB.out | apply aB_ | apply pN_ | apply dB_) | exact HB.out))) : w.heap.size ≤ gb140)); clear HB; have HB := n0_; have BK140 := n1_; have GW140 := n2_; have GE140 := n3_; clear n0_ n1_ n2_ n3_; clear hb hbox hg) | ((with_reducible refine gate_dst (N := 3) rfl ?_); refine box_event ?hg (N := 3) ?hd (cs := #[.string a1_0, .string a1_1, .slice A1_2 l1_2.length c1_2, .string a1_3]) (t := 66) ?hr ?_; (case hd => rfl); (case hg => rfl); (case hr => first | (go_simp; done) | (go_simp; rfl)); intro gb141 hg w101 hbox hb; have n0_ := Aside0.mk (bB_ (g := gb140) (o := .cells #[.string a0_0, .string a0_1, .slice A0_2 l0_2.length c0_2, .string a0_3] 66 (0, 0)) (by (with_reducible repeat (first | refine bN_ ?_ _ | refine bD_ ?_ | refine bA_ ?_ _)); exact BK140.out) hb); have n1_ := Aside0.mk (below_step (by repeat (first | (with_reducible first | exact HB.out | apply aB_ | apply pN_ | apply dB_ | refine sB_ ?_ GE140.out) | exact HB.out)) hb); have n2_ := Aside0.mk (hbox); have n3_ := Aside0.mk ((by rw [hg]; exact (below_size (by repeat (first | (with_reducible first | exact HB.out | apply aB_ | apply pN_ | apply dB_ | refine sB_ ?_ GE140.out) | exact HB.out))) : w.heap.size ≤ gb141)); have n4_ := Aside0.mk ((by rw [hg]; exact (below_size (by repeat (first | (with_reducible first | exact HB.out | apply aB_ | apply pN_ | apply dB_ | refine sB_ ?_ GE140.out) | exact HB.out))) : w.heap.size ≤ gb141)); have n5_ := Aside0.mk ((by rw [hg]; exact Nat.ne_of_lt (blk_lt (g := gb140) (o := .cells #[.string a0_0, .string a0_1, .slice A0_2 l0_2.length c0_2, .string a0_3] 66 (0, 0)) (by (with_reducible repeat (first | refine bN_ ?_ _ | refine bD_ ?_ | refine bA_ ?_ _)); exact BK140.out)) : gb140 ≠ gb141)); have n6_ := Aside0.mk ((by rw [hg]; exact Nat.ne_of_gt (blk_lt (g := gb140) (o := .cells #[.string a0_0, .string a0_1, .slice A0_2 l0_2.length c0_2, .string a0_3] 66 (0, 0)) (by (with_reducible repeat (first | refine bN_ ?_ _ | refine bD_ ?_ | refine bA_ ?_ _)); exact BK140.out)) : gb141 ≠ gb140)); clear BK140; clear HB; have BK140 := n0_; have HB := n1_; have BK141 := n2_; have GW141 := n3_; have GE141 := n4_; have NB140_141 := n5_; have NB141_140 := n6_; clear n0_ n1_ n2_ n3_ n4_ n5_ n6_; clear hb hbox hg; have hnb102 := NB140_141.out; have hnc102 := NB141_140.out; have hcz103_0 : w101.cell? ⟨gb140, 0, none⟩ = some (.string a0_0) := (bc_ BK140.out 0).trans rfl; have hcz103_1 : w101.cell? ⟨gb140, 1, none⟩ = some (.string a0_1) := (bc_ BK140.out 1).trans rfl; have hcz103_2 : w101.cell? ⟨gb140, 2, none⟩ = some (.slice A0_2 l0_2.length c0_2) := (bc_ BK140.out 2).trans rfl; have hcz103_3 : w101.cell? ⟨gb140, 3, none⟩ = some (.string a0_3) := (bc_ BK140.out 3).trans rfl; have hfz103_0 := bF_ BK140.out 0; have hfz103_1 := bF_ BK140.out 1; have hfz103_2 := bF_ BK140.out 2; have hfz103_3 := bF_ BK140.out 3) | ((with_reducible refine gate_callee (f := 48) rfl ?_); refine goesL_ (some 12) rfl rfl Try.func48 (by kernel_rfl) rfl #[.agg #[.string a0_0, .string a0_1, .slice A0_2 l0_2.length c0_2, .string a0_3], .int .i64 1048576] rfl (by (try simp only [List.map_toArray, List.map_cons, List.map_nil]); first | done | rfl | (simp only [List.length_drop, List.length_take]; rfl)) ?_; (with_reducible refine (laws_szReq.calls k a0_0 a0_1 _ _ l0_2 a0_3 1048576 t142 _ ?side1 ?side2 A3.out).mono ?_); (case side1 => repeat (first | exact (Kd.C_below HR0_2.out HB.out) | (with_reducible refine Kd.C_alloc ?_ _) | (with_reducible refine Kd.C_drewN ?_ _) | (with_reducible refine Kd.C_drew ?_))); (case side2 => exact HC0_2.out); rintro e w104 ⟨rfl, hb⟩; refine ⟨_, rfl, ?_⟩; have n0_ := Aside0.mk (bB_ (g := gb140) (o := .cells #[.string a0_0, .string a0_1, .slice A0_2 l0_2.length c0_2, .string a0_3] 66 (0, 0)) (by (with_reducible repeat (first | refine bN_ ?_ _ | refine bD_ ?_ | refine bA_ ?_ _)); exact BK140.out) hb); have n1_ := Aside0.mk (bB_ (g := gb141) (o := .cells #[.string a1_0, .string a1_1, .slice A1_2 l1_2.length c1_2, .string a1_3] 66 (0, 0)) (by (with_reducible repeat (first | refine bN_ ?_ _ | refine bD_ ?_ | refine bA_ ?_ _)); exact BK141.out) hb); have n2_ := Aside0.mk (below_step (by repeat (first | (with_reducible first | exact HB.out | apply aB_ | apply pN_ | apply dB_ | refine sB_ ?_ GE140.out | refine sB_ ?_ GE141.out) | exact HB.out)) hb); clear BK140; clear BK141; clear HB; have BK140 := n0_; have BK141 := n1_; have HB := n2_; clear n0_ n1_ n2_; (try clear hb); (try clear hb2); (try clear hk); (try clear hi); have hcz105_0 : w104.cell? ⟨gb141, 0, none⟩ = some (.string a1_0) := (bc_ BK141.out 0).trans rfl; have hcz105_1 : w104.cell? ⟨gb141, 1, none⟩ = some (.string a1_1) := (bc_ BK141.out 1).trans rfl; have hcz105_2 : w104.cell? ⟨gb141, 2, none⟩ = some (.slice A1_2 l1_2.length c1_2) := (bc_ BK141.out 2).trans rfl; have hcz105_3 : w104.cell? ⟨gb141, 3, none⟩ = some (.string a1_3) := (bc_ BK141.out 3).trans rfl; have hfz105_0 := bF_ BK141.out 0; have hfz105_1 := bF_ BK141.out 1; have hfz105_2 := bF_ BK141.out 2; have hfz105_3 := bF_ BK141.out 3) | ((with_reducible refine gate_callee (f := 48) rfl ?_); refine goesL_ (some 17) rfl rfl Try.func48 (by kernel_rfl) rfl #[.agg #[.string a1_0, .string a1_1, .slice A1_2 l1_2.length c1_2, .string a1_3], .int .i64 t142] rfl (by (try simp only [List.map_toArray, List.map_cons, List.map_nil]); first | done | rfl | (simp only [List.length_drop, List.length_take]; rfl)) ?_; (with_reducible refine (laws_szReq.calls k a1_0 a1_1 _ _ l1_2 a1_3 t142 t143 _ ?side1 ?side2 A10.out).mono ?_); (case side1 => repeat (first | exact (Kd.C_below HR1_2.out HB.out) | (with_reducible refine Kd.C_alloc ?_ _) | (with_reducible refine Kd.C_drewN ?_ _) | (with_reducible refine Kd.C_drew ?_))); (case side2 => exact HC1_2.out); rintro e w106 ⟨rfl, hb⟩; refine ⟨_, rfl, ?_⟩; have n0_ := Aside0.mk (bB_ (g := gb140) (o := .cells #[.string a0_0, .string a0_1, .slice A0_2 l0_2.length c0_2, .string a0_3] 66 (0, 0)) (by (with_reducible repeat (first | refine bN_ ?_ _ | refine bD_ ?_ | refine bA_ ?_ _)); exact BK140.out) hb); have n1_ := Aside0.mk (bB_ (g := gb141) (o := .cells #[.string a1_0, .string a1_1, .slice A1_2 l1_2.length c1_2, .string a1_3] 66 (0, 0)) (by (with_reducible repeat (first | refine bN_ ?_ _ | refine bD_ ?_ | refine bA_ ?_ _)); exact BK141.out) hb); have n2_ := Aside0.mk (below_step (by repeat (first | (with_reducible first | exact HB.out | apply aB_ | apply pN_ | apply dB_ | refine sB_ ?_ GE140.out | refine sB_ ?_ GE141.out) | exact HB.out)) hb); clear BK140; clear BK141; clear HB; have BK140 := n0_; have BK141 := n1_; have HB := n2_; clear n0_ n1_ n2_; (try clear hb); (try clear hb2); (try clear hk); (try clear hi)))
            have n0_ := Aside0.mk (bD_ BK140.out)
            have n1_ := Aside0.mk (bD_ BK141.out)
            have n2_ := Aside0.mk (dB_ HB.out)
            clear BK140
            clear BK141
            clear HB
            have BK140 := n0_
            have BK141 := n1_
            have HB := n2_
            clear n0_ n1_ n2_
            refine start_ (n := 6) (S := fun w' => w'.cell? ⟨gb140, 0, none⟩ = some (.string a0_0) ∧ w'.cell? ⟨gb140, 1, none⟩ = some (.string a0_1) ∧ w'.cell? ⟨gb140, 2, none⟩ = some (.slice A0_2 l0_2.length c0_2) ∧ w'.cell? ⟨gb140, 3, none⟩ = some (.string a0_3) ∧ w'.cell? ⟨gb141, 0, none⟩ = some (.string a1_0) ∧ w'.cell? ⟨gb141, 1, none⟩ = some (.string a1_1) ∧ w'.cell? ⟨gb141, 2, none⟩ = some (.slice A1_2 l1_2.length c1_2) ∧ w'.cell? ⟨gb141, 3, none⟩ = some (.string a1_3)) (ds := []) #[false, false, false, false, false, false] (by kernel_rfl) rfl rfl ⟨(bc_ BK140.out 0).trans rfl, (bc_ BK140.out 1).trans rfl, (bc_ BK140.out 2).trans rfl, (bc_ BK140.out 3).trans rfl, (bc_ BK141.out 0).trans rfl, (bc_ BK141.out 1).trans rfl, (bc_ BK141.out 2).trans rfl, (bc_ BK141.out 3).trans rfl⟩ (fun hHeld => ?_)
            generalize w106.drew = w107 at BK140 BK141 HB hHeld ⊢
            refine take_ (i := 0) (N := some 20) (v := ?_) (a' := ?_) #[true, false, false, false, false, false] rfl rfl (by kernel_rfl) (fun _ _ _ h => h) (Or.inl ⟨by rfl, ?_⟩) hHeld ?_ ?_
            rotate_left
            · rintro w' ⟨s0, s1, s2, s3, s4, s5, s6, s7⟩
              go_simp
              with_reducible rfl
            rotate_left
            · simp only [Act.put, List.setIfInBounds_toArray, List.set_cons_zero, List.set_cons_succ, i64_w, i32_w]
              rfl
            refine take_ (i := 2) (N := some 22) (v := ?_) (a' := ?_) #[true, false, true, false, false, false] rfl rfl (by kernel_rfl) (fun _ _ _ h => h) (Or.inl ⟨by rfl, ?_⟩) hHeld ?_ ?_
            rotate_left
            · rintro w' ⟨s0, s1, s2, s3, s4, s5, s6, s7⟩
              go_simp
              with_reducible rfl
            rotate_left
            · simp only [Act.put, List.setIfInBounds_toArray, List.set_cons_zero, List.set_cons_succ, i64_w, i32_w]
              rfl
            refine one_ (i := 1) (N := some 21) #[true, true, true, false, false, false] rfl rfl (by kernel_rfl) (by decide) (fun K hK => ?_)
            refine goes_ Try.func50 (by kernel_rfl) rfl #[.agg #[.string a0_0, .string a0_1, .slice A0_2 l0_2.length c0_2, .string a0_3]] (by rfl) rfl rfl (by (try simp only [List.map_toArray, List.map_cons, List.map_nil]); first | done | rfl | (simp only [List.length_drop, List.length_take]; rfl)) ?_
            with_reducible refine (laws_toReq.calls k a0_0 a0_1 _ _ l0_2 a0_3 t144 t145 t146 t149 _ ?side1 ?side2 A19.out).mono ?_
            (case side1 => repeat (first | exact (Kd.C_below HR0_2.out HB.out) | (with_reducible refine Kd.C_alloc ?_ _) | (with_reducible refine Kd.C_drewN ?_ _) | (with_reducible refine Kd.C_drew ?_)))
            (case side2 => exact HC0_2.out)
            rintro e w108 ⟨v147, rfl, ho0, hb⟩
            refine ⟨_, rfl, ?_⟩
            have n0_ := Aside0.mk (Kd.R_lower ho0 (below_size (by repeat (first | (with_reducible first | exact HB.out | apply aB_ | apply pN_ | apply dB_ | refine sB_ ?_ GE140.out | refine sB_ ?_ GE141.out) | exact HB.out))))
            have n1_ := Aside0.mk (bB_ (g := gb140) (o := .cells #[.string a0_0, .string a0_1, .slice A0_2 l0_2.length c0_2, .string a0_3] 66 (0, 0)) (by (with_reducible repeat (first | refine bN_ ?_ _ | refine bD_ ?_ | refine bA_ ?_ _)); exact BK140.out) hb)
            have n2_ := Aside0.mk (bB_ (g := gb141) (o := .cells #[.string a1_0, .string a1_1, .slice A1_2 l1_2.length c1_2, .string a1_3] 66 (0, 0)) (by (with_reducible repeat (first | refine bN_ ?_ _ | refine bD_ ?_ | refine bA_ ?_ _)); exact BK141.out) hb)
            have n3_ := Aside0.mk (below_step (by repeat (first | (with_reducible first | exact HB.out | apply aB_ | apply pN_ | apply dB_ | refine sB_ ?_ GE140.out | refine sB_ ?_ GE141.out) | exact HB.out)) hb)
            clear BK140
            clear BK141
            clear HB
            have HO148 := n0_
            have BK140 := n1_
            have BK141 := n2_
            have HB := n3_
            clear n0_ n1_ n2_ n3_
            (try clear hb)
            (try clear hb2)
            (try clear hk)
            (try clear hi)
            (try clear ho0)
            refine hK.out _ _ ⟨(bc_ BK140.out 0).trans rfl, (bc_ BK140.out 1).trans rfl, (bc_ BK140.out 2).trans rfl, (bc_ BK140.out 3).trans rfl, (bc_ BK141.out 0).trans rfl, (bc_ BK141.out 1).trans rfl, (bc_ BK141.out 2).trans rfl, (bc_ BK141.out 3).trans rfl⟩ (fun hHeld => ?_)
            clear hK K
            refine norm_ (a' := ?_) ?_ ?_
            rotate_left
            · show Act.put _ (some 21) _ = _
              simp only [Act.put, List.setIfInBounds_toArray, List.set_cons_zero, List.set_cons_succ, i64_w, i32_w]
              rfl
            refine one_ (i := 3) (N := some 23) #[true, true, true, true, false, false] rfl rfl (by kernel_rfl) (by decide) (fun K hK => ?_)
            refine goes_ Try.func50 (by kernel_rfl) rfl #[.agg #[.string a1_0, .string a1_1, .slice A1_2 l1_2.length c1_2, .string a1_3]] (by rfl) rfl rfl (by (try simp only [List.map_toArray, List.map_cons, List.map_nil]); first | done | rfl | (simp only [List.length_drop, List.length_take]; rfl)) ?_
            with_reducible refine (laws_toReq.calls k a1_0 a1_1 _ _ l1_2 a1_3 t150 t151 t152 t155 _ ?side1 ?side2 A20.out).mono ?_
            (case side1 => repeat (first | exact (Kd.C_below HR1_2.out HB.out) | (with_reducible refine Kd.C_alloc ?_ _) | (with_reducible refine Kd.C_drewN ?_ _) | (with_reducible refine Kd.C_drew ?_)))
            (case side2 => exact HC1_2.out)
            rintro e w109 ⟨v153, rfl, ho0, hb⟩
            refine ⟨_, rfl, ?_⟩
            have n0_ := Aside0.mk (Kd.R_elder' (by (with_reducible repeat (first | apply rA_ | apply rN_ | apply rD_)); exact HO148.out) (Kd.R_base ho0) hb)
            have n1_ := Aside0.mk (Kd.R_lower (Kd.R_new' ho0 (Kd.R_lt (by (with_reducible repeat (first | apply rA_ | apply rN_ | apply rD_)); exact HO148.out))) (below_size (by repeat (first | (with_reducible first | exact HB.out | apply aB_ | apply pN_ | apply dB_ | refine sB_ ?_ GE140.out | refine sB_ ?_ GE141.out) | exact HB.out))))
            have n2_ := Aside0.mk (bB_ (g := gb140) (o := .cells #[.string a0_0, .string a0_1, .slice A0_2 l0_2.length c0_2, .string a0_3] 66 (0, 0)) (by (with_reducible repeat (first | refine bN_ ?_ _ | refine bD_ ?_ | refine bA_ ?_ _)); exact BK140.out) hb)
            have n3_ := Aside0.mk (bB_ (g := gb141) (o := .cells #[.string a1_0, .string a1_1, .slice A1_2 l1_2.length c1_2, .string a1_3] 66 (0, 0)) (by (with_reducible repeat (first | refine bN_ ?_ _ | refine bD_ ?_ | refine bA_ ?_ _)); exact BK141.out) hb)
            have n4_ := Aside0.mk (below_step (by repeat (first | (with_reducible first | exact HB.out | apply aB_ | apply pN_ | apply dB_ | refine sB_ ?_ GE140.out | refine sB_ ?_ GE141.out) | exact HB.out)) hb)
            clear HO148
            clear BK140
            clear BK141
            clear HB
            have HO148 := n0_
            have HO154 := n1_
            have BK140 := n2_
            have BK141 := n3_
            have HB := n4_
            clear n0_ n1_ n2_ n3_ n4_
            (try clear hb)
            (try clear hb2)
            (try clear hk)
            (try clear hi)
            (try clear ho0)
            obtain ⟨Ao110, co110, eo110⟩ := Kd.R_slice HO148.out
            (first | subst eo110 | (injection eo110 with f1_ f2_ f3_; have f4_ := f1_.symm; have f5_ := f3_.symm; clear f1_ f2_ f3_; subst f4_; subst f5_))
            obtain ⟨Ao111, co111, eo111⟩ := Kd.R_slice HO154.out
            (first | subst eo111 | (injection eo111 with f1_ f2_ f3_; have f4_ := f1_.symm; have f5_ := f3_.symm; clear f1_ f2_ f3_; subst f4_; subst f5_))
            refine hK.out _ _ ⟨(bc_ BK140.out 0).trans rfl, (bc_ BK140.out 1).trans rfl, (bc_ BK140.out 2).trans rfl, (bc_ BK140.out 3).trans rfl, (bc_ BK141.out 0).trans rfl, (bc_ BK141.out 1).trans rfl, (bc_ BK141.out 2).trans rfl, (bc_ BK141.out 3).trans rfl⟩ (fun hHeld => ?_)
            clear hK K
            refine norm_ (a' := ?_) ?_ ?_
            rotate_left
            · show Act.put _ (some 23) _ = _
              simp only [Act.put, List.setIfInBounds_toArray, List.set_cons_zero, List.set_cons_succ, i64_w, i32_w]
              rfl
            refine one_ (i := 4) (N := some 24) #[true, true, true, true, true, false] rfl rfl (by kernel_rfl) (by decide) (fun K hK => ?_)
            refine goes_ Try.func49 (by kernel_rfl) rfl #[.agg #[.string t144, .string t145, .slice Ao110 t146.length co110, .string t149], .agg #[.string t150, .string t151, .slice Ao111 t152.length co111, .string t155]] (by rfl) rfl rfl (by (try simp only [List.map_toArray, List.map_cons, List.map_nil]); first | done | rfl | (simp only [List.length_drop, List.length_take]; rfl)) ?_
            with_reducible refine (spec_SameReq.calls k t144 t145 _ _ t146 t149 t150 t151 _ _ t152 t155 t156 _ ?side1 ?side2 ?side3 ?side4 A21.out).mono ?_
            (case side1 => repeat (first | exact (Kd.R_reads' HO148.out).2.2 | (with_reducible refine Kd.C_alloc ?_ _) | (with_reducible refine Kd.C_drewN ?_ _) | (with_reducible refine Kd.C_drew ?_)))
            (case side2 => exact (Kd.R_reads' HO148.out).2.1)
            (case side3 => repeat (first | exact (Kd.R_reads' HO154.out).2.2 | (with_reducible refine Kd.C_alloc ?_ _) | (with_reducible refine Kd.C_drewN ?_ _) | (with_reducible refine Kd.C_drew ?_)))
            (case side4 => exact (Kd.R_reads' HO154.out).2.1)
            rintro e w112 ⟨rfl, hb⟩
            refine ⟨_, rfl, ?_⟩
            have n0_ := Aside0.mk (Kd.R_below (by (with_reducible repeat (first | apply rA_ | apply rN_ | apply rD_)); exact HO148.out) hb)
            have n1_ := Aside0.mk (Kd.R_below (by (with_reducible repeat (first | apply rA_ | apply rN_ | apply rD_)); exact HO154.out) hb)
            have n2_ := Aside0.mk (bB_ (g := gb140) (o := .cells #[.string a0_0, .string a0_1, .slice A0_2 l0_2.length c0_2, .string a0_3] 66 (0, 0)) (by (with_reducible repeat (first | refine bN_ ?_ _ | refine bD_ ?_ | refine bA_ ?_ _)); exact BK140.out) hb)
            have n3_ := Aside0.mk (bB_ (g := gb141) (o := .cells #[.string a1_0, .string a1_1, .slice A1_2 l1_2.length c1_2, .string a1_3] 66 (0, 0)) (by (with_reducible repeat (first | refine bN_ ?_ _ | refine bD_ ?_ | refine bA_ ?_ _)); exact BK141.out) hb)
            have n4_ := Aside0.mk (below_step (by repeat (first | (with_reducible first | exact HB.out | apply aB_ | apply pN_ | apply dB_ | refine sB_ ?_ GE140.out | refine sB_ ?_ GE141.out) | exact HB.out)) hb)
            clear HO148
            clear HO154
            clear BK140
            clear BK141
            clear HB
            have HO148 := n0_
            have HO154 := n1_
            have BK140 := n2_
            have BK141 := n3_
            have HB := n4_
            clear n0_ n1_ n2_ n3_ n4_
            (try clear hb)
            (try clear hb2)
            (try clear hk)
            (try clear hi)
            refine hK.out _ _ ⟨(bc_ BK140.out 0).trans rfl, (bc_ BK140.out 1).trans rfl, (bc_ BK140.out 2).trans rfl, (bc_ BK140.out 3).trans rfl, (bc_ BK141.out 0).trans rfl, (bc_ BK141.out 1).trans rfl, (bc_ BK141.out 2).trans rfl, (bc_ BK141.out 3).trans rfl⟩ (fun hHeld => ?_)
            clear hK K
            refine norm_ (a' := ?_) ?_ ?_
            rotate_left
            · show Act.put _ (some 24) _ = _
              simp only [Act.put, List.setIfInBounds_toArray, List.set_cons_zero, List.set_cons_succ, i64_w, i32_w]
              rfl
            refine pure_ (i := 5) (N := some 6) (v := ?_) (a' := ?_) #[true, true, true, true, true, true] rfl rfl (by kernel_rfl) (fun _ _ _ h => h) (Or.inl ⟨by rfl, ?_⟩) ?_ ?_
            rotate_left
            · intro w'
              go_simp
              with_reducible rfl
            rotate_left
            · simp only [Act.put, List.setIfInBounds_toArray, List.set_cons_zero, List.set_cons_succ, i64_w, i32_w]
              rfl
            refine done_ (by kernel_rfl) ?_
            have hcz113_0 : w112.cell? ⟨gb140, 0, none⟩ = some (.string a0_0) := (bc_ BK140.out 0).trans rfl
            have hcz113_1 : w112.cell? ⟨gb140, 1, none⟩ = some (.string a0_1) := (bc_ BK140.out 1).trans rfl
            have hcz113_2 : w112.cell? ⟨gb140, 2, none⟩ = some (.slice A0_2 l0_2.length c0_2) := (bc_ BK140.out 2).trans rfl
            have hcz113_3 : w112.cell? ⟨gb140, 3, none⟩ = some (.string a0_3) := (bc_ BK140.out 3).trans rfl
            have hfz113_0 := bF_ BK140.out 0
            have hfz113_1 := bF_ BK140.out 1
            have hfz113_2 := bF_ BK140.out 2
            have hfz113_3 := bF_ BK140.out 3
            try go_wp2_with (first | ((with_reducible refine gate_callee (f := 50) rfl ?_); refine goesL_ (some 26) rfl rfl Try.func50 (by kernel_rfl) rfl #[.agg #[.string a0_0, .string a0_1, .slice A0_2 l0_2.length c0_2, .string a0_3]] rfl (by (try simp only [List.map_toArray, List.map_cons, List.map_nil]); first | done | rfl | (simp only [List.length_drop, List.length_take]; rfl)) ?_; (with_reducible refine (laws_toReq.calls k a0_0 a0_1 _ _ l0_2 a0_3 t157 t158 t159 t162 _ ?side1 ?side2 A22.out).mono ?_); (case side1 => repeat (first | exact (Kd.C_below HR0_2.out HB.out) | (with_reducible refine Kd.C_alloc ?_ _) | (with_reducible refine Kd.C_drewN ?_ _) | (with_reducible refine Kd.C_drew ?_))); (case side2 => exact HC0_2.out); rintro e w114 ⟨v160, rfl, ho0, hb⟩; refine ⟨_, rfl, ?_⟩; have n0_ := Aside0.mk (Kd.R_elder' (by (with_reducible repeat (first | apply rA_ | apply rN_ | apply rD_)); exact HO148.out) (Kd.R_base ho0) hb); have n1_ := Aside0.mk (Kd.R_elder' (by (with_reducible repeat (first | apply rA_ | apply rN_ | apply rD_)); exact HO154.out) (Kd.R_base ho0) hb); have n2_ := Aside0.mk (Kd.R_lower (Kd.R_new' (Kd.R_new' ho0 (Kd.R_lt (by (with_reducible repeat (first | apply rA_ | apply rN_ | apply rD_)); exact HO148.out))) (Kd.R_lt (by (with_reducible repeat (first | apply rA_ | apply rN_ | apply rD_)); exact HO154.out))) (below_size (by repeat (first | (with_reducible first | exact HB.out | apply aB_ | apply pN_ | apply dB_ | refine sB_ ?_ GE140.out | refine sB_ ?_ GE141.out) | exact HB.out)))); have n3_ := Aside0.mk (bB_ (g := gb140) (o := .cells #[.string a0_0, .string a0_1, .slice A0_2 l0_2.length c0_2, .string a0_3] 66 (0, 0)) (by (with_reducible repeat (first | refine bN_ ?_ _ | refine bD_ ?_ | refine bA_ ?_ _)); exact BK140.out) hb); have n4_ := Aside0.mk (bB_ (g := gb141) (o := .cells #[.string a1_0, .string a1_1, .slice A1_2 l1_2.length c1_2, .string a1_3] 66 (0, 0)) (by (with_reducible repeat (first | refine bN_ ?_ _ | refine bD_ ?_ | refine bA_ ?_ _)); exact BK141.out) hb); have n5_ := Aside0.mk (below_step (by repeat (first | (with_reducible first | exact HB.out | apply aB_ | apply pN_ | apply dB_ | refine sB_ ?_ GE140.out | refine sB_ ?_ GE141.out) | exact HB.out)) hb); clear HO148; clear HO154; clear BK140; clear BK141; clear HB; have HO148 := n0_; have HO154 := n1_; have HO161 := n2_; have BK140 := n3_; have BK141 := n4_; have HB := n5_; clear n0_ n1_ n2_ n3_ n4_ n5_; (try clear hb); (try clear hb2); (try clear hk); (try clear hi); (try clear ho0)) | ((with_reducible refine gate_dst (N := 7) rfl ?_); refine box_event ?hg (N := 7) ?hd (cs := #[.string (⟨#[]⟩ : ByteArray), .string (⟨#[]⟩ : ByteArray), .slice none 0 0, .string (⟨#[]⟩ : ByteArray)]) (t := 70) ?hr ?_; (case hd => rfl); (case hg => rfl); (case hr => first | (go_simp; done) | (go_simp; rfl)); intro gb163 hg w115 hbox hb; have n0_ := Aside0.mk (Kd.R_below (by (with_reducible repeat (first | apply rA_ | apply rN_ | apply rD_)); exact HO148.out) hb); have n1_ := Aside0.mk (Kd.R_below (by (with_reducible repeat (first | apply rA_ | apply rN_ | apply rD_)); exact HO154.out) hb); have n2_ := Aside0.mk (Kd.R_below (by (with_reducible repeat (first | apply rA_ | apply rN_ | apply rD_)); exact HO161.out) hb); have n3_ := Aside0.mk (bB_ (g := gb140) (o := .cells #[.string a0_0, .string a0_1, .slice A0_2 l0_2.length c0_2, .string a0_3] 66 (0, 0)) (by (with_reducible repeat (first | refine bN_ ?_ _ | refine bD_ ?_ | refine bA_ ?_ _)); exact BK140.out) hb); have n4_ := Aside0.mk (bB_ (g := gb141) (o := .cells #[.string a1_0, .string a1_1, .slice A1_2 l1_2.length c1_2, .string a1_3] 66 (0, 0)) (by (with_reducible repeat (first | refine bN_ ?_ _ | refine bD_ ?_ | refine bA_ ?_ _)); exact BK141.out) hb); have n5_ := Aside0.mk (below_step (by repeat (first | (with_reducible first | exact HB.out | apply aB_ | apply pN_ | apply dB_ | refine sB_ ?_ GE140.out | refine sB_ ?_ GE141.out) | exact HB.out)) hb); have n6_ := Aside0.mk (hbox); have n7_ := Aside0.mk ((by rw [hg]; exact (below_size (by repeat (first | (with_reducible first | exact HB.out | apply aB_ | apply pN_ | apply dB_ | refine sB_ ?_ GE140.out | refine sB_ ?_ GE141.out) | exact HB.out))) : w.heap.size ≤ gb163)); have n8_ := Aside0.mk ((by rw [hg]; exact (below_size (by repeat (first | (with_reducible first | exact HB.out | apply aB_ | apply pN_ | apply dB_ | refine sB_ ?_ GE140.out | refine sB_ ?_ GE141.out) | exact HB.out))) : w.heap.size ≤ gb163)); have n9_ := Aside0.mk ((by rw [hg]; exact Nat.ne_of_lt (blk_lt (g := gb140) (o := .cells #[.string a0_0, .string a0_1, .slice A0_2 l0_2.length c0_2, .string a0_3] 66 (0, 0)) (by (with_reducible repeat (first | refine bN_ ?_ _ | refine bD_ ?_ | refine bA_ ?_ _)); exact BK140.out)) : gb140 ≠ gb163)); have n10_ := Aside0.mk ((by rw [hg]; exact Nat.ne_of_gt (blk_lt (g := gb140) (o := .cells #[.string a0_0, .string a0_1, .slice A0_2 l0_2.length c0_2, .string a0_3] 66 (0, 0)) (by (with_reducible repeat (first | refine bN_ ?_ _ | refine bD_ ?_ | refine bA_ ?_ _)); exact BK140.out)) : gb163 ≠ gb140)); have n11_ := Aside0.mk ((by rw [hg]; exact Nat.ne_of_lt (blk_lt (g := gb141) (o := .cells #[.string a1_0, .string a1_1, .slice A1_2 l1_2.length c1_2, .string a1_3] 66 (0, 0)) (by (with_reducible repeat (first | refine bN_ ?_ _ | refine bD_ ?_ | refine bA_ ?_ _)); exact BK141.out)) : gb141 ≠ gb163)); have n12_ := Aside0.mk ((by rw [hg]; exact Nat.ne_of_gt (blk_lt (g := gb141) (o := .cells #[.string a1_0, .string a1_1, .slice A1_2 l1_2.length c1_2, .string a1_3] 66 (0, 0)) (by (with_reducible repeat (first | refine bN_ ?_ _ | refine bD_ ?_ | refine bA_ ?_ _)); exact BK141.out)) : gb163 ≠ gb141)); clear HO148; clear HO154; clear HO161; clear BK140; clear BK141; clear HB; have HO148 := n0_; have HO154 := n1_; have HO161 := n2_; have BK140 := n3_; have BK141 := n4_; have HB := n5_; have BK163 := n6_; have GW163 := n7_; have GE163 := n8_; have NB140_163 := n9_; have NB163_140 := n10_; have NB141_163 := n11_; have NB163_141 := n12_; clear n0_ n1_ n2_ n3_ n4_ n5_ n6_ n7_ n8_ n9_ n10_ n11_ n12_; clear hb hbox hg; have hnb116 := NB163_140.out; have hnc116 := NB140_163.out; have hnb117 := NB163_141.out; have hnc117 := NB141_163.out; have hcz118_0 : w115.cell? ⟨gb163, 0, none⟩ = some (.string (⟨#[]⟩ : ByteArray)) := (bc_ BK163.out 0).trans rfl; have hcz118_1 : w115.cell? ⟨gb163, 1, none⟩ = some (.string (⟨#[]⟩ : ByteArray)) := (bc_ BK163.out 1).trans rfl; have hcz118_2 : w115.cell? ⟨gb163, 2, none⟩ = some (.slice none 0 0) := (bc_ BK163.out 2).trans rfl; have hcz118_3 : w115.cell? ⟨gb163, 3, none⟩ = some (.string (⟨#[]⟩ : ByteArray)) := (bc_ BK163.out 3).trans rfl; have hfz118_0 := bF_ BK163.out 0; have hfz118_1 := bF_ BK163.out 1; have hfz118_2 := bF_ BK163.out 2; have hfz118_3 := bF_ BK163.out 3; obtain ⟨Ao119, co119, eo119⟩ := Kd.R_slice HO161.out; subst eo119; have hcz120_0 : w115.cell? ⟨gb141, 0, none⟩ = some (.string a1_0) := (bc_ BK141.out 0).trans rfl; have hcz120_1 : w115.cell? ⟨gb141, 1, none⟩ = some (.string a1_1) := (bc_ BK141.out 1).trans rfl; have hcz120_2 : w115.cell? ⟨gb141, 2, none⟩ = some (.slice A1_2 l1_2.length c1_2) := (bc_ BK141.out 2).trans rfl; have hcz120_3 : w115.cell? ⟨gb141, 3, none⟩ = some (.string a1_3) := (bc_ BK141.out 3).trans rfl; have hfz120_0 := bF_ BK141.out 0; have hfz120_1 := bF_ BK141.out 1; have hfz120_2 := bF_ BK141.out 2; have hfz120_3 := bF_ BK141.out 3) | ((with_reducible refine gate_callee (f := 50) rfl ?_); refine goesL_ (some 28) rfl rfl Try.func50 (by kernel_rfl) rfl #[.agg #[.string a1_0, .string a1_1, .slice A1_2 l1_2.length c1_2, .string a1_3]] rfl (by (try simp only [List.map_toArray, List.map_cons, List.map_nil]); first | done | rfl | (simp only [List.length_drop, List.length_take]; rfl)) ?_; (with_reducible refine (laws_toReq.calls k a1_0 a1_1 _ _ l1_2 a1_3 t164 t165 t166 t169 _ ?side1 ?side2 A23.out).mono ?_); (case side1 => exact Kd.C_below HR1_2.out (by repeat (first | (with_reducible first | exact HB.out | apply aB_ | apply pN_ | apply dB_ | refine sB_ ?_ GE140.out | refine sB_ ?_ GE141.out | refine sB_ ?_ GE163.out) | exact HB.out))); (case side2 => exact HC1_2.out); rintro e w121 ⟨v167, rfl, ho0, hb⟩; refine ⟨_, rfl, ?_⟩; have n0_ := Aside0.mk (Kd.R_elder' (by (with_reducible repeat (first | apply rA_ | apply rN_ | apply rD_)); exact (Kd.R_mono (rF_ (p := ⟨gb163, 3, none⟩) (rF_ (p := ⟨gb163, 2, none⟩) (rF_ (p := ⟨gb163, 1, none⟩) (rF_ (p := ⟨gb163, 0, none⟩) (Kd.R_types HO148.out BK163.out (by decide)) (fun _ hk => hk.2) (.string t157)) (fun _ hk => hk.2) (.string t158)) (fun _ hk => hk.2) (.slice Ao119 t159.length co119)) (fun _ hk => hk.2) (.string t162)) (fun _ h_ => h_.1))) (Kd.R_base ho0) hb); have n1_ := Aside0.mk (Kd.R_elder' (by (with_reducible repeat (first | apply rA_ | apply rN_ | apply rD_)); exact (Kd.R_mono (rF_ (p := ⟨gb163, 3, none⟩) (rF_ (p := ⟨gb163, 2, none⟩) (rF_ (p := ⟨gb163, 1, none⟩) (rF_ (p := ⟨gb163, 0, none⟩) (Kd.R_types HO154.out BK163.out (by decide)) (fun _ hk => hk.2) (.string t157)) (fun _ hk => hk.2) (.string t158)) (fun _ hk => hk.2) (.slice Ao119 t159.length co119)) (fun _ hk => hk.2) (.string t162)) (fun _ h_ => h_.1))) (Kd.R_base ho0) hb); have n2_ := Aside0.mk (Kd.R_elder' (by (with_reducible repeat (first | apply rA_ | apply rN_ | apply rD_)); exact (Kd.R_mono (rF_ (p := ⟨gb163, 3, none⟩) (rF_ (p := ⟨gb163, 2, none⟩) (rF_ (p := ⟨gb163, 1, none⟩) (rF_ (p := ⟨gb163, 0, none⟩) (Kd.R_types HO161.out BK163.out (by decide)) (fun _ hk => hk.2) (.string t157)) (fun _ hk => hk.2) (.string t158)) (fun _ hk => hk.2) (.slice Ao119 t159.length co119)) (fun _ hk => hk.2) (.string t162)) (fun _ h_ => h_.1))) (Kd.R_base ho0) hb); have n3_ := Aside0.mk (Kd.R_lower (Kd.R_new' (Kd.R_new' (Kd.R_new' ho0 (Kd.R_lt (by (with_reducible repeat (first | apply rA_ | apply rN_ | apply rD_)); exact (Kd.R_mono (rF_ (p := ⟨gb163, 3, none⟩) (rF_ (p := ⟨gb163, 2, none⟩) (rF_ (p := ⟨gb163, 1, none⟩) (rF_ (p := ⟨gb163, 0, none⟩) (Kd.R_types HO148.out BK163.out (by decide)) (fun _ hk => hk.2) (.string t157)) (fun _ hk => hk.2) (.string t158)) (fun _ hk => hk.2) (.slice Ao119 t159.length co119)) (fun _ hk => hk.2) (.string t162)) (fun _ h_ => h_.1))))) (Kd.R_lt (by (with_reducible repeat (first | apply rA_ | apply rN_ | apply rD_)); exact (Kd.R_mono (rF_ (p := ⟨gb163, 3, none⟩) (rF_ (p := ⟨gb163, 2, none⟩) (rF_ (p := ⟨gb163, 1, none⟩) (rF_ (p := ⟨gb163, 0, none⟩) (Kd.R_types HO154.out BK163.out (by decide)) (fun _ hk => hk.2) (.string t157)) (fun _ hk => hk.2) (.string t158)) (fun _ hk => hk.2) (.slice Ao119 t159.length co119)) (fun _ hk => hk.2) (.string t162)) (fun _ h_ => h_.1))))) (Kd.R_lt (by (with_reducible repeat (first | apply rA_ | apply rN_ | apply rD_)); exact (Kd.R_mono (rF_ (p := ⟨gb163, 3, none⟩) (rF_ (p := ⟨gb163, 2, none⟩) (rF_ (p := ⟨gb163, 1, none⟩) (rF_ (p := ⟨gb163, 0, none⟩) (Kd.R_types HO161.out BK163.out (by decide)) (fun _ hk => hk.2) (.string t157)) (fun _ hk => hk.2) (.string t158)) (fun _ hk => hk.2) (.slice Ao119 t159.length co119)) (fun _ hk => hk.2) (.string t162)) (fun _ h_ => h_.1))))) (below_size (by repeat (first | (with_reducible first | exact HB.out | apply aB_ | apply pN_ | apply dB_ | refine sB_ ?_ GE140.out | refine sB_ ?_ GE141.out | refine sB_ ?_ GE163.out) | exact HB.out)))); have n4_ := Aside0.mk (bB_ (g := gb140) (o := .cells #[.string a0_0, .string a0_1, .slice A0_2 l0_2.length c0_2, .string a0_3] 66 (0, 0)) (by (with_reducible repeat (first | refine bN_ ?_ _ | refine bD_ ?_ | refine bA_ ?_ _)); refine blk_far ?_ NB140_163.out _; (with_reducible repeat (first | refine bN_ ?_ _ | refine bD_ ?_ | refine bA_ ?_ _)); refine blk_far ?_ NB140_163.out _; (with_reducible repeat (first | refine bN_ ?_ _ | refine bD_ ?_ | refine bA_ ?_ _)); refine blk_far ?_ NB140_163.out _; (with_reducible repeat (first | refine bN_ ?_ _ | refine bD_ ?_ | refine bA_ ?_ _)); refine blk_far ?_ NB140_163.out _; (with_reducible repeat (first | refine bN_ ?_ _ | refine bD_ ?_ | refine bA_ ?_ _)); exact BK140.out) hb); have n5_ := Aside0.mk (bB_ (g := gb141) (o := .cells #[.string a1_0, .string a1_1, .slice A1_2 l1_2.length c1_2, .string a1_3] 66 (0, 0)) (by (with_reducible repeat (first | refine bN_ ?_ _ | refine bD_ ?_ | refine bA_ ?_ _)); refine blk_far ?_ NB141_163.out _; (with_reducible repeat (first | refine bN_ ?_ _ | refine bD_ ?_ | refine bA_ ?_ _)); refine blk_far ?_ NB141_163.out _; (with_reducible repeat (first | refine bN_ ?_ _ | refine bD_ ?_ | refine bA_ ?_ _)); refine blk_far ?_ NB141_163.out _; (with_reducible repeat (first | refine bN_ ?_ _ | refine bD_ ?_ | refine bA_ ?_ _)); refine blk_far ?_ NB141_163.out _; (with_reducible repeat (first | refine bN_ ?_ _ | refine bD_ ?_ | refine bA_ ?_ _)); exact BK141.out) hb); have n6_ := Aside0.mk (bB_ (g := gb163) (o := .cells #[.string t157, .string t158, .slice Ao119 t159.length co119, .string t162] 70 (0, 0)) (by (with_reducible repeat (first | refine bN_ ?_ _ | refine bD_ ?_ | refine bA_ ?_ _)); refine blk_put (cs := #[.string t157, .string t158, .slice Ao119 t159.length co119, .string (⟨#[]⟩ : ByteArray)]) ?_ 3 _ rfl; (with_reducible repeat (first | refine bN_ ?_ _ | refine bD_ ?_ | refine bA_ ?_ _)); refine blk_put (cs := #[.string t157, .string t158, .slice none 0 0, .string (⟨#[]⟩ : ByteArray)]) ?_ 2 _ rfl; (with_reducible repeat (first | refine bN_ ?_ _ | refine bD_ ?_ | refine bA_ ?_ _)); refine blk_put (cs := #[.string t157, .string (⟨#[]⟩ : ByteArray), .slice none 0 0, .string (⟨#[]⟩ : ByteArray)]) ?_ 1 _ rfl; (with_reducible repeat (first | refine bN_ ?_ _ | refine bD_ ?_ | refine bA_ ?_ _)); refine blk_put (cs := #[.string (⟨#[]⟩ : ByteArray), .string (⟨#[]⟩ : ByteArray), .slice none 0 0, .string (⟨#[]⟩ : ByteArray)]) ?_ 0 _ rfl; (with_reducible repeat (first | refine bN_ ?_ _ | refine bD_ ?_ | refine bA_ ?_ _)); exact BK163.out) hb); have n7_ := Aside0.mk (below_step (by repeat (first | (with_reducible first | exact HB.out | apply aB_ | apply pN_ | apply dB_ | refine sB_ ?_ GE140.out | refine sB_ ?_ GE141.out | refine sB_ ?_ GE163.out) | exact HB.out)) hb); clear HO148; clear HO154; clear HO161; clear BK140; clear BK141; clear BK163; clear HB; have HO148 := n0_; have HO154 := n1_; have HO161 := n2_; have HO168 := n3_; have BK140 := n4_; have BK141 := n5_; have BK163 := n6_; have HB := n7_; clear n0_ n1_ n2_ n3_ n4_ n5_ n6_ n7_; (try clear hb); (try clear hb2); (try clear hk); (try clear hi); (try clear ho0)) | ((with_reducible refine gate_dst (N := 8) rfl ?_); refine box_event ?hg (N := 8) ?hd (cs := #[.string (⟨#[]⟩ : ByteArray), .string (⟨#[]⟩ : ByteArray), .slice none 0 0, .string (⟨#[]⟩ : ByteArray)]) (t := 70) ?hr ?_; (case hd => rfl); (case hg => rfl); (case hr => first | (go_simp; done) | (go_simp; rfl)); intro gb170 hg w122 hbox hb; have n0_ := Aside0.mk (Kd.R_below (by (with_reducible repeat (first | apply rA_ | apply rN_ | apply rD_)); exact HO148.out) hb); have n1_ := Aside0.mk (Kd.R_below (by (with_reducible repeat (first | apply rA_ | apply rN_ | apply rD_)); exact HO154.out) hb); have n2_ := Aside0.mk (Kd.R_below (by (with_reducible repeat (first | apply rA_ | apply rN_ | apply rD_)); exact HO161.out) hb); have n3_ := Aside0.mk (Kd.R_below (by (with_reducible repeat (first | apply rA_ | apply rN_ | apply rD_)); exact HO168.out) hb); have n4_ := Aside0.mk (bB_ (g := gb140) (o := .cells #[.string a0_0, .string a0_1, .slice A0_2 l0_2.length c0_2, .string a0_3] 66 (0, 0)) (by (with_reducible repeat (first | refine bN_ ?_ _ | refine bD_ ?_ | refine bA_ ?_ _)); exact BK140.out) hb); have n5_ := Aside0.mk (bB_ (g := gb141) (o := .cells #[.string a1_0, .string a1_1, .slice A1_2 l1_2.length c1_2, .string a1_3] 66 (0, 0)) (by (with_reducible repeat (first | refine bN_ ?_ _ | refine bD_ ?_ | refine bA_ ?_ _)); exact BK141.out) hb); have n6_ := Aside0.mk (bB_ (g := gb163) (o := .cells #[.string t157, .string t158, .slice Ao119 t159.length co119, .string t162] 70 (0, 0)) (by (with_reducible repeat (first | refine bN_ ?_ _ | refine bD_ ?_ | refine bA_ ?_ _)); exact BK163.out) hb); have n7_ := Aside0.mk (below_step (by repeat (first | (with_reducible first | exact HB.out | apply aB_ | apply pN_ | apply dB_ | refine sB_ ?_ GE140.out | refine sB_ ?_ GE141.out | refine sB_ ?_ GE163.out) | exact HB.out)) hb); have n8_ := Aside0.mk (hbox); have n9_ := Aside0.mk ((by rw [hg]; exact (below_size (by repeat (first | (with_reducible first | exact HB.out | apply aB_ | apply pN_ | apply dB_ | refine sB_ ?_ GE140.out | refine sB_ ?_ GE141.out | refine sB_ ?_ GE163.out) | exact HB.out))) : w.heap.size ≤ gb170)); have n10_ := Aside0.mk ((by rw [hg]; exact (below_size (by repeat (first | (with_reducible first | exact HB.out | apply aB_ | apply pN_ | apply dB_ | refine sB_ ?_ GE140.out | refine sB_ ?_ GE141.out | refine sB_ ?_ GE163.out) | exact HB.out))) : w.heap.size ≤ gb170)); have n11_ := Aside0.mk ((by rw [hg]; exact Nat.ne_of_lt (blk_lt (g := gb140) (o := .cells #[.string a0_0, .string a0_1, .slice A0_2 l0_2.length c0_2, .string a0_3] 66 (0, 0)) (by (with_reducible repeat (first | refine bN_ ?_ _ | refine bD_ ?_ | refine bA_ ?_ _)); exact BK140.out)) : gb140 ≠ gb170)); have n12_ := Aside0.mk ((by rw [hg]; exact Nat.ne_of_gt (blk_lt (g := gb140) (o := .cells #[.string a0_0, .string a0_1, .slice A0_2 l0_2.length c0_2, .string a0_3] 66 (0, 0)) (by (with_reducible repeat (first | refine bN_ ?_ _ | refine bD_ ?_ | refine bA_ ?_ _)); exact BK140.out)) : gb170 ≠ gb140)); have n13_ := Aside0.mk ((by rw [hg]; exact Nat.ne_of_lt (blk_lt (g := gb141) (o := .cells #[.string a1_0, .string a1_1, .slice A1_2 l1_2.length c1_2, .string a1_3] 66 (0, 0)) (by (with_reducible repeat (first | refine bN_ ?_ _ | refine bD_ ?_ | refine bA_ ?_ _)); exact BK141.out)) : gb141 ≠ gb170)); have n14_ := Aside0.mk ((by rw [hg]; exact Nat.ne_of_gt (blk_lt (g := gb141) (o := .cells #[.string a1_0, .string a1_1, .slice A1_2 l1_2.length c1_2, .string a1_3] 66 (0, 0)) (by (with_reducible repeat (first | refine bN_ ?_ _ | refine bD_ ?_ | refine bA_ ?_ _)); exact BK141.out)) : gb170 ≠ gb141)); have n15_ := Aside0.mk ((by rw [hg]; exact Nat.ne_of_lt (blk_lt (g := gb163) (o := .cells #[.string t157, .string t158, .slice Ao119 t159.length co119, .string t162] 70 (0, 0)) (by (with_reducible repeat (first | refine bN_ ?_ _ | refine bD_ ?_ | refine bA_ ?_ _)); exact BK163.out)) : gb163 ≠ gb170)); have n16_ := Aside0.mk ((by rw [hg]; exact Nat.ne_of_gt (blk_lt (g := gb163) (o := .cells #[.string t157, .string t158, .slice Ao119 t159.length co119, .string t162] 70 (0, 0)) (by (with_reducible repeat (first | refine bN_ ?_ _ | refine bD_ ?_ | refine bA_ ?_ _)); exact BK163.out)) : gb170 ≠ gb163)); clear HO148; clear HO154; clear HO161; clear HO168; clear BK140; clear BK141; clear BK163; clear HB; have HO148 := n0_; have HO154 := n1_; have HO161 := n2_; have HO168 := n3_; have BK140 := n4_; have BK141 := n5_; have BK163 := n6_; have HB := n7_; have BK170 := n8_; have GW170 := n9_; have GE170 := n10_; have NB140_170 := n11_; have NB170_140 := n12_; have NB141_170 := n13_; have NB170_141 := n14_; have NB163_170 := n15_; have NB170_163 := n16_; clear n0_ n1_ n2_ n3_ n4_ n5_ n6_ n7_ n8_ n9_ n10_ n11_ n12_ n13_ n14_ n15_ n16_; clear hb hbox hg; have hnb123 := NB170_140.out; have hnc123 := NB140_170.out; have hnb124 := NB170_141.out; have hnc124 := NB141_170.out; have hnb125 := NB170_163.out; have hnc125 := NB163_170.out; have hcz126_0 : w122.cell? ⟨gb170, 0, none⟩ = some (.string (⟨#[]⟩ : ByteArray)) := (bc_ BK170.out 0).trans rfl; have hcz126_1 : w122.cell? ⟨gb170, 1, none⟩ = some (.string (⟨#[]⟩ : ByteArray)) := (bc_ BK170.out 1).trans rfl; have hcz126_2 : w122.cell? ⟨gb170, 2, none⟩ = some (.slice none 0 0) := (bc_ BK170.out 2).trans rfl; have hcz126_3 : w122.cell? ⟨gb170, 3, none⟩ = some (.string (⟨#[]⟩ : ByteArray)) := (bc_ BK170.out 3).trans rfl; have hfz126_0 := bF_ BK170.out 0; have hfz126_1 := bF_ BK170.out 1; have hfz126_2 := bF_ BK170.out 2; have hfz126_3 := bF_ BK170.out 3; obtain ⟨Ao127, co127, eo127⟩ := Kd.R_slice HO168.out; subst eo127; have hcz128_0 : w122.cell? ⟨gb163, 0, none⟩ = some (.string t157) := (bc_ BK163.out 0).trans rfl; have hcz128_1 : w122.cell? ⟨gb163, 1, none⟩ = some (.string t158) := (bc_ BK163.out 1).trans rfl; have hcz128_2 : w122.cell? ⟨gb163, 2, none⟩ = some (.slice Ao119 t159.length co119) := (bc_ BK163.out 2).trans rfl; have hcz128_3 : w122.cell? ⟨gb163, 3, none⟩ = some (.string t162) := (bc_ BK163.out 3).trans rfl; have hfz128_0 := bF_ BK163.out 0; have hfz128_1 := bF_ BK163.out 1; have hfz128_2 := bF_ BK163.out 2; have hfz128_3 := bF_ BK163.out 3) | ((with_reducible refine gate_callee (f := 51) rfl ?_); refine goesL_ (some 31) rfl rfl Try.func51 (by kernel_rfl) rfl #[.agg #[.string t157, .string t158, .slice Ao119 t159.length co119, .string t162], .agg #[.string t164, .string t165, .slice Ao127 t166.length co127, .string t169]] rfl (by (try simp only [List.map_toArray, List.map_cons, List.map_nil]); first | done | rfl | (simp only [List.length_drop, List.length_take]; rfl)) ?_; (with_reducible refine (impl_SameReq.calls k t157 t158 _ _ t159 t162 t164 t165 _ _ t166 t169 t171 _ ?side1 ?side2 ?side3 ?side4 A24.out).mono ?_); (case side1 => refine (Kd.R_reads' (e := 81) (base := w.heap.size) (ok := fun k_ => (((True ∧ some k_ ≠ (.slice Ao110 t146.length co110 : Value).ownBlock) ∧ some k_ ≠ (.slice Ao111 t152.length co111 : Value).ownBlock) ∧ some k_ ≠ (.slice Ao127 t166.length co127 : Value).ownBlock)) (n := t159.length) (c := co119) ?_).2.2; exact (by (with_reducible repeat (first | apply rA_ | apply rN_ | apply rD_)); exact (Kd.R_mono (rF_ (p := ⟨gb170, 3, none⟩) (rF_ (p := ⟨gb170, 2, none⟩) (rF_ (p := ⟨gb170, 1, none⟩) (rF_ (p := ⟨gb170, 0, none⟩) (Kd.R_types HO161.out BK170.out (by decide)) (fun _ hk => hk.2) (.string t164)) (fun _ hk => hk.2) (.string t165)) (fun _ hk => hk.2) (.slice Ao127 t166.length co127)) (fun _ hk => hk.2) (.string t169)) (fun _ h_ => h_.1)))); (case side2 => exact (Kd.R_reads' HO161.out).2.1); (case side3 => refine (Kd.R_reads' (e := 81) (base := w.heap.size) (ok := fun k_ => (((True ∧ some k_ ≠ (.slice Ao110 t146.length co110 : Value).ownBlock) ∧ some k_ ≠ (.slice Ao111 t152.length co111 : Value).ownBlock) ∧ some k_ ≠ (.slice Ao119 t159.length co119 : Value).ownBlock)) (n := t166.length) (c := co127) ?_).2.2; exact (by (with_reducible repeat (first | apply rA_ | apply rN_ | apply rD_)); exact (Kd.R_mono (rF_ (p := ⟨gb170, 3, none⟩) (rF_ (p := ⟨gb170, 2, none⟩) (rF_ (p := ⟨gb170, 1, none⟩) (rF_ (p := ⟨gb170, 0, none⟩) (Kd.R_types HO168.out BK170.out (by decide)) (fun _ hk => hk.2) (.string t164)) (fun _ hk => hk.2) (.string t165)) (fun _ hk => hk.2) (.slice Ao127 t166.length co127)) (fun _ hk => hk.2) (.string t169)) (fun _ h_ => h_.1)))); (case side4 => exact (Kd.R_reads' HO168.out).2.1); rintro e w129 ⟨rfl, hb⟩; refine ⟨_, rfl, ?_⟩; have n0_ := Aside0.mk (Kd.R_below (by (with_reducible repeat (first | apply rA_ | apply rN_ | apply rD_)); exact (Kd.R_mono (rF_ (p := ⟨gb170, 3, none⟩) (rF_ (p := ⟨gb170, 2, none⟩) (rF_ (p := ⟨gb170, 1, none⟩) (rF_ (p := ⟨gb170, 0, none⟩) (Kd.R_types HO148.out BK170.out (by decide)) (fun _ hk => hk.2) (.string t164)) (fun _ hk => hk.2) (.string t165)) (fun _ hk => hk.2) (.slice Ao127 t166.length co127)) (fun _ hk => hk.2) (.string t169)) (fun _ h_ => h_.1))) hb); have n1_ := Aside0.mk (Kd.R_below (by (with_reducible repeat (first | apply rA_ | apply rN_ | apply rD_)); exact (Kd.R_mono (rF_ (p := ⟨gb170, 3, none⟩) (rF_ (p := ⟨gb170, 2, none⟩) (rF_ (p := ⟨gb170, 1, none⟩) (rF_ (p := ⟨gb170, 0, none⟩) (Kd.R_types HO154.out BK170.out (by decide)) (fun _ hk => hk.2) (.string t164)) (fun _ hk => hk.2) (.string t165)) (fun _ hk => hk.2) (.slice Ao127 t166.length co127)) (fun _ hk => hk.2) (.string t169)) (fun _ h_ => h_.1))) hb); have n2_ := Aside0.mk (Kd.R_below (by (with_reducible repeat (first | apply rA_ | apply rN_ | apply rD_)); exact (Kd.R_mono (rF_ (p := ⟨gb170, 3, none⟩) (rF_ (p := ⟨gb170, 2, none⟩) (rF_ (p := ⟨gb170, 1, none⟩) (rF_ (p := ⟨gb170, 0, none⟩) (Kd.R_types HO161.out BK170.out (by decide)) (fun _ hk => hk.2) (.string t164)) (fun _ hk => hk.2) (.string t165)) (fun _ hk => hk.2) (.slice Ao127 t166.length co127)) (fun _ hk => hk.2) (.string t169)) (fun _ h_ => h_.1))) hb); have n3_ := Aside0.mk (Kd.R_below (by (with_reducible repeat (first | apply rA_ | apply rN_ | apply rD_)); exact (Kd.R_mono (rF_ (p := ⟨gb170, 3, none⟩) (rF_ (p := ⟨gb170, 2, none⟩) (rF_ (p := ⟨gb170, 1, none⟩) (rF_ (p := ⟨gb170, 0, none⟩) (Kd.R_types HO168.out BK170.out (by decide)) (fun _ hk => hk.2) (.string t164)) (fun _ hk => hk.2) (.string t165)) (fun _ hk => hk.2) (.slice Ao127 t166.length co127)) (fun _ hk => hk.2) (.string t169)) (fun _ h_ => h_.1))) hb); have n4_ := Aside0.mk (bB_ (g := gb140) (o := .cells #[.string a0_0, .string a0_1, .slice A0_2 l0_2.length c0_2, .string a0_3] 66 (0, 0)) (by (with_reducible repeat (first | refine bN_ ?_ _ | refine bD_ ?_ | refine bA_ ?_ _)); refine blk_far ?_ NB140_170.out _; (with_reducible repeat (first | refine bN_ ?_ _ | refine bD_ ?_ | refine bA_ ?_ _)); refine blk_far ?_ NB140_170.out _; (with_reducible repeat (first | refine bN_ ?_ _ | refine bD_ ?_ | refine bA_ ?_ _)); refine blk_far ?_ NB140_170.out _; (with_reducible repeat (first | refine bN_ ?_ _ | refine bD_ ?_ | refine bA_ ?_ _)); refine blk_far ?_ NB140_170.out _; (with_reducible repeat (first | refine bN_ ?_ _ | refine bD_ ?_ | refine bA_ ?_ _)); exact BK140.out) hb); have n5_ := Aside0.mk (bB_ (g := gb141) (o := .cells #[.string a1_0, .string a1_1, .slice A1_2 l1_2.length c1_2, .string a1_3] 66 (0, 0)) (by (with_reducible repeat (first | refine bN_ ?_ _ | refine bD_ ?_ | refine bA_ ?_ _)); refine blk_far ?_ NB141_170.out _; (with_reducible repeat (first | refine bN_ ?_ _ | refine bD_ ?_ | refine bA_ ?_ _)); refine blk_far ?_ NB141_170.out _; (with_reducible repeat (first | refine bN_ ?_ _ | refine bD_ ?_ | refine bA_ ?_ _)); refine blk_far ?_ NB141_170.out _; (with_reducible repeat (first | refine bN_ ?_ _ | refine bD_ ?_ | refine bA_ ?_ _)); refine blk_far ?_ NB141_170.out _; (with_reducible repeat (first | refine bN_ ?_ _ | refine bD_ ?_ | refine bA_ ?_ _)); exact BK141.out) hb); have n6_ := Aside0.mk (bB_ (g := gb163) (o := .cells #[.string t157, .string t158, .slice Ao119 t159.length co119, .string t162] 70 (0, 0)) (by (with_reducible repeat (first | refine bN_ ?_ _ | refine bD_ ?_ | refine bA_ ?_ _)); refine blk_far ?_ NB163_170.out _; (with_reducible repeat (first | refine bN_ ?_ _ | refine bD_ ?_ | refine bA_ ?_ _)); refine blk_far ?_ NB163_170.out _; (with_reducible repeat (first | refine bN_ ?_ _ | refine bD_ ?_ | refine bA_ ?_ _)); refine blk_far ?_ NB163_170.out _; (with_reducible repeat (first | refine bN_ ?_ _ | refine bD_ ?_ | refine bA_ ?_ _)); refine blk_far ?_ NB163_170.out _; (with_reducible repeat (first | refine bN_ ?_ _ | refine bD_ ?_ | refine bA_ ?_ _)); exact BK163.out) hb); have n7_ := Aside0.mk (bB_ (g := gb170) (o := .cells #[.string t164, .string t165, .slice Ao127 t166.length co127, .string t169] 70 (0, 0)) (by (with_reducible repeat (first | refine bN_ ?_ _ | refine bD_ ?_ | refine bA_ ?_ _)); refine blk_put (cs := #[.string t164, .string t165, .slice Ao127 t166.length co127, .string (⟨#[]⟩ : ByteArray)]) ?_ 3 _ rfl; (with_reducible repeat (first | refine bN_ ?_ _ | refine bD_ ?_ | refine bA_ ?_ _)); refine blk_put (cs := #[.string t164, .string t165, .slice none 0 0, .string (⟨#[]⟩ : ByteArray)]) ?_ 2 _ rfl; (with_reducible repeat (first | refine bN_ ?_ _ | refine bD_ ?_ | refine bA_ ?_ _)); refine blk_put (cs := #[.string t164, .string (⟨#[]⟩ : ByteArray), .slice none 0 0, .string (⟨#[]⟩ : ByteArray)]) ?_ 1 _ rfl; (with_reducible repeat (first | refine bN_ ?_ _ | refine bD_ ?_ | refine bA_ ?_ _)); refine blk_put (cs := #[.string (⟨#[]⟩ : ByteArray), .string (⟨#[]⟩ : ByteArray), .slice none 0 0, .string (⟨#[]⟩ : ByteArray)]) ?_ 0 _ rfl; (with_reducible repeat (first | refine bN_ ?_ _ | refine bD_ ?_ | refine bA_ ?_ _)); exact BK170.out) hb); have n8_ := Aside0.mk (below_step (by repeat (first | (with_reducible first | exact HB.out | apply aB_ | apply pN_ | apply dB_ | refine sB_ ?_ GE140.out | refine sB_ ?_ GE141.out | refine sB_ ?_ GE163.out | refine sB_ ?_ GE170.out) | exact HB.out)) hb); clear HO148; clear HO154; clear HO161; clear HO168; clear BK140; clear BK141; clear BK163; clear BK170; clear HB; have HO148 := n0_; have HO154 := n1_; have HO161 := n2_; have HO168 := n3_; have BK140 := n4_; have BK141 := n5_; have BK163 := n6_; have BK170 := n7_; have HB := n8_; clear n0_ n1_ n2_ n3_ n4_ n5_ n6_ n7_ n8_; (try clear hb); (try clear hb2); (try clear hk); (try clear hi)))
            have n0_ := Aside0.mk (rD_ HO148.out)
            have n1_ := Aside0.mk (rD_ HO154.out)
            have n2_ := Aside0.mk (rD_ HO161.out)
            have n3_ := Aside0.mk (rD_ HO168.out)
            have n4_ := Aside0.mk (bD_ BK140.out)
            have n5_ := Aside0.mk (bD_ BK141.out)
            have n6_ := Aside0.mk (bD_ BK163.out)
            have n7_ := Aside0.mk (bD_ BK170.out)
            have n8_ := Aside0.mk (dB_ HB.out)
            clear HO148
            clear HO154
            clear HO161
            clear HO168
            clear BK140
            clear BK141
            clear BK163
            clear BK170
            clear HB
            have HO148 := n0_
            have HO154 := n1_
            have HO161 := n2_
            have HO168 := n3_
            have BK140 := n4_
            have BK141 := n5_
            have BK163 := n6_
            have BK170 := n7_
            have HB := n8_
            clear n0_ n1_ n2_ n3_ n4_ n5_ n6_ n7_ n8_
            refine start_ (n := 5) (S := fun w' => w'.cell? ⟨gb163, 0, none⟩ = some (.string t157) ∧ w'.cell? ⟨gb163, 1, none⟩ = some (.string t158) ∧ w'.cell? ⟨gb163, 2, none⟩ = some (.slice Ao119 t159.length co119) ∧ w'.cell? ⟨gb163, 3, none⟩ = some (.string t162) ∧ w'.cell? ⟨gb140, 0, none⟩ = some (.string a0_0) ∧ w'.cell? ⟨gb140, 1, none⟩ = some (.string a0_1) ∧ w'.cell? ⟨gb140, 2, none⟩ = some (.slice A0_2 l0_2.length c0_2) ∧ w'.cell? ⟨gb140, 3, none⟩ = some (.string a0_3)) (ds := []) #[false, false, false, false, false] (by kernel_rfl) rfl rfl ⟨(bc_ BK163.out 0).trans rfl, (bc_ BK163.out 1).trans rfl, (bc_ BK163.out 2).trans rfl, (bc_ BK163.out 3).trans rfl, (bc_ BK140.out 0).trans rfl, (bc_ BK140.out 1).trans rfl, (bc_ BK140.out 2).trans rfl, (bc_ BK140.out 3).trans rfl⟩ (fun hHeld => ?_)
            generalize w129.drew = w130 at HO148 HO154 HO161 HO168 BK140 BK141 BK163 BK170 HB hHeld ⊢
            refine take_ (i := 0) (N := some 35) (v := ?_) (a' := ?_) #[true, false, false, false, false] rfl rfl (by kernel_rfl) (fun _ _ _ h => h) (Or.inl ⟨by rfl, ?_⟩) hHeld ?_ ?_
            rotate_left
            · rintro w' ⟨s0, s1, s2, s3, s4, s5, s6, s7⟩
              go_simp
              with_reducible rfl
            rotate_left
            · simp only [Act.put, List.setIfInBounds_toArray, List.set_cons_zero, List.set_cons_succ, i64_w, i32_w]
              rfl
            refine take_ (i := 1) (N := some 36) (v := ?_) (a' := ?_) #[true, true, false, false, false] rfl rfl (by kernel_rfl) (fun _ _ _ h => h) (Or.inl ⟨by rfl, ?_⟩) hHeld ?_ ?_
            rotate_left
            · rintro w' ⟨s0, s1, s2, s3, s4, s5, s6, s7⟩
              go_simp
              with_reducible rfl
            rotate_left
            · simp only [Act.put, List.setIfInBounds_toArray, List.set_cons_zero, List.set_cons_succ, i64_w, i32_w]
              rfl
            refine one_ (i := 2) (N := some 37) #[true, true, true, false, false] rfl rfl (by kernel_rfl) (by decide) (fun K hK => ?_)
            refine goes_ Try.func50 (by kernel_rfl) rfl #[.agg #[.string a0_0, .string a0_1, .slice A0_2 l0_2.length c0_2, .string a0_3]] (by rfl) rfl rfl (by (try simp only [List.map_toArray, List.map_cons, List.map_nil]); first | done | rfl | (simp only [List.length_drop, List.length_take]; rfl)) ?_
            with_reducible refine (laws_toReq.calls k a0_0 a0_1 _ _ l0_2 a0_3 t172 t173 t174 t177 _ ?side1 ?side2 A56.out).mono ?_
            (case side1 => repeat (first | exact (Kd.C_below HR0_2.out HB.out) | (with_reducible refine Kd.C_alloc ?_ _) | (with_reducible refine Kd.C_drewN ?_ _) | (with_reducible refine Kd.C_drew ?_)))
            (case side2 => exact HC0_2.out)
            rintro e w131 ⟨v175, rfl, ho0, hb⟩
            refine ⟨_, rfl, ?_⟩
            have n0_ := Aside0.mk (Kd.R_elder' (by (with_reducible repeat (first | apply rA_ | apply rN_ | apply rD_)); exact HO148.out) (Kd.R_base ho0) hb)
            have n1_ := Aside0.mk (Kd.R_elder' (by (with_reducible repeat (first | apply rA_ | apply rN_ | apply rD_)); exact HO154.out) (Kd.R_base ho0) hb)
            have n2_ := Aside0.mk (Kd.R_elder' (by (with_reducible repeat (first | apply rA_ | apply rN_ | apply rD_)); exact HO161.out) (Kd.R_base ho0) hb)
            have n3_ := Aside0.mk (Kd.R_elder' (by (with_reducible repeat (first | apply rA_ | apply rN_ | apply rD_)); exact HO168.out) (Kd.R_base ho0) hb)
            have n4_ := Aside0.mk (Kd.R_lower (Kd.R_new' (Kd.R_new' (Kd.R_new' (Kd.R_new' ho0 (Kd.R_lt (by (with_reducible repeat (first | apply rA_ | apply rN_ | apply rD_)); exact HO148.out))) (Kd.R_lt (by (with_reducible repeat (first | apply rA_ | apply rN_ | apply rD_)); exact HO154.out))) (Kd.R_lt (by (with_reducible repeat (first | apply rA_ | apply rN_ | apply rD_)); exact HO161.out))) (Kd.R_lt (by (with_reducible repeat (first | apply rA_ | apply rN_ | apply rD_)); exact HO168.out))) (below_size (by repeat (first | (with_reducible first | exact HB.out | apply aB_ | apply pN_ | apply dB_ | refine sB_ ?_ GE140.out | refine sB_ ?_ GE141.out | refine sB_ ?_ GE163.out | refine sB_ ?_ GE170.out) | exact HB.out))))
            have n5_ := Aside0.mk (bB_ (g := gb140) (o := .cells #[.string a0_0, .string a0_1, .slice A0_2 l0_2.length c0_2, .string a0_3] 66 (0, 0)) (by (with_reducible repeat (first | refine bN_ ?_ _ | refine bD_ ?_ | refine bA_ ?_ _)); exact BK140.out) hb)
            have n6_ := Aside0.mk (bB_ (g := gb141) (o := .cells #[.string a1_0, .string a1_1, .slice A1_2 l1_2.length c1_2, .string a1_3] 66 (0, 0)) (by (with_reducible repeat (first | refine bN_ ?_ _ | refine bD_ ?_ | refine bA_ ?_ _)); exact BK141.out) hb)
            have n7_ := Aside0.mk (bB_ (g := gb163) (o := .cells #[.string t157, .string t158, .slice Ao119 t159.length co119, .string t162] 70 (0, 0)) (by (with_reducible repeat (first | refine bN_ ?_ _ | refine bD_ ?_ | refine bA_ ?_ _)); exact BK163.out) hb)
            have n8_ := Aside0.mk (bB_ (g := gb170) (o := .cells #[.string t164, .string t165, .slice Ao127 t166.length co127, .string t169] 70 (0, 0)) (by (with_reducible repeat (first | refine bN_ ?_ _ | refine bD_ ?_ | refine bA_ ?_ _)); exact BK170.out) hb)
            have n9_ := Aside0.mk (below_step (by repeat (first | (with_reducible first | exact HB.out | apply aB_ | apply pN_ | apply dB_ | refine sB_ ?_ GE140.out | refine sB_ ?_ GE141.out | refine sB_ ?_ GE163.out | refine sB_ ?_ GE170.out) | exact HB.out)) hb)
            clear HO148
            clear HO154
            clear HO161
            clear HO168
            clear BK140
            clear BK141
            clear BK163
            clear BK170
            clear HB
            have HO148 := n0_
            have HO154 := n1_
            have HO161 := n2_
            have HO168 := n3_
            have HO176 := n4_
            have BK140 := n5_
            have BK141 := n6_
            have BK163 := n7_
            have BK170 := n8_
            have HB := n9_
            clear n0_ n1_ n2_ n3_ n4_ n5_ n6_ n7_ n8_ n9_
            (try clear hb)
            (try clear hb2)
            (try clear hk)
            (try clear hi)
            (try clear ho0)
            obtain ⟨Ao132, co132, eo132⟩ := Kd.R_slice HO176.out
            (first | subst eo132 | (injection eo132 with f1_ f2_ f3_; have f4_ := f1_.symm; have f5_ := f3_.symm; clear f1_ f2_ f3_; subst f4_; subst f5_))
            refine hK.out _ _ ⟨(bc_ BK163.out 0).trans rfl, (bc_ BK163.out 1).trans rfl, (bc_ BK163.out 2).trans rfl, (bc_ BK163.out 3).trans rfl, (bc_ BK140.out 0).trans rfl, (bc_ BK140.out 1).trans rfl, (bc_ BK140.out 2).trans rfl, (bc_ BK140.out 3).trans rfl⟩ (fun hHeld => ?_)
            clear hK K
            refine norm_ (a' := ?_) ?_ ?_
            rotate_left
            · show Act.put _ (some 37) _ = _
              simp only [Act.put, List.setIfInBounds_toArray, List.set_cons_zero, List.set_cons_succ, i64_w, i32_w]
              rfl
            refine one_ (i := 3) (N := some 38) #[true, true, true, true, false] rfl rfl (by kernel_rfl) (by decide) (fun K hK => ?_)
            refine goes_ Try.func52 (by kernel_rfl) rfl #[.agg #[.string t157, .string t158, .slice Ao119 t159.length co119, .string t162], .agg #[.string t172, .string t173, .slice Ao132 t174.length co132, .string t177]] (by rfl) rfl rfl (by (try simp only [List.map_toArray, List.map_cons, List.map_nil]); first | done | rfl | (simp only [List.length_drop, List.length_take]; rfl)) ?_
            with_reducible refine (laws_eqReq.calls k t157 t158 _ _ t159 t162 t172 t173 _ _ t174 t177 true _ ?side1 ?side2 ?side3 ?side4 A57.out).mono ?_
            (case side1 => repeat (first | exact (Kd.R_reads' HO161.out).2.2 | (with_reducible refine Kd.C_alloc ?_ _) | (with_reducible refine Kd.C_drewN ?_ _) | (with_reducible refine Kd.C_drew ?_)))
            (case side2 => exact (Kd.R_reads' HO161.out).2.1)
            (case side3 => repeat (first | exact (Kd.R_reads' HO176.out).2.2 | (with_reducible refine Kd.C_alloc ?_ _) | (with_reducible refine Kd.C_drewN ?_ _) | (with_reducible refine Kd.C_drew ?_)))
            (case side4 => exact (Kd.R_reads' HO176.out).2.1)
            rintro e w133 ⟨rfl, hb⟩
            refine ⟨_, rfl, ?_⟩
            have n0_ := Aside0.mk (Kd.R_below (by (with_reducible repeat (first | apply rA_ | apply rN_ | apply rD_)); exact HO148.out) hb)
            have n1_ := Aside0.mk (Kd.R_below (by (with_reducible repeat (first | apply rA_ | apply rN_ | apply rD_)); exact HO154.out) hb)
            have n2_ := Aside0.mk (Kd.R_below (by (with_reducible repeat (first | apply rA_ | apply rN_ | apply rD_)); exact HO161.out) hb)
            have n3_ := Aside0.mk (Kd.R_below (by (with_reducible repeat (first | apply rA_ | apply rN_ | apply rD_)); exact HO168.out) hb)
            have n4_ := Aside0.mk (Kd.R_below (by (with_reducible repeat (first | apply rA_ | apply rN_ | apply rD_)); exact HO176.out) hb)
            have n5_ := Aside0.mk (bB_ (g := gb140) (o := .cells #[.string a0_0, .string a0_1, .slice A0_2 l0_2.length c0_2, .string a0_3] 66 (0, 0)) (by (with_reducible repeat (first | refine bN_ ?_ _ | refine bD_ ?_ | refine bA_ ?_ _)); exact BK140.out) hb)
            have n6_ := Aside0.mk (bB_ (g := gb141) (o := .cells #[.string a1_0, .string a1_1, .slice A1_2 l1_2.length c1_2, .string a1_3] 66 (0, 0)) (by (with_reducible repeat (first | refine bN_ ?_ _ | refine bD_ ?_ | refine bA_ ?_ _)); exact BK141.out) hb)
            have n7_ := Aside0.mk (bB_ (g := gb163) (o := .cells #[.string t157, .string t158, .slice Ao119 t159.length co119, .string t162] 70 (0, 0)) (by (with_reducible repeat (first | refine bN_ ?_ _ | refine bD_ ?_ | refine bA_ ?_ _)); exact BK163.out) hb)
            have n8_ := Aside0.mk (bB_ (g := gb170) (o := .cells #[.string t164, .string t165, .slice Ao127 t166.length co127, .string t169] 70 (0, 0)) (by (with_reducible repeat (first | refine bN_ ?_ _ | refine bD_ ?_ | refine bA_ ?_ _)); exact BK170.out) hb)
            have n9_ := Aside0.mk (below_step (by repeat (first | (with_reducible first | exact HB.out | apply aB_ | apply pN_ | apply dB_ | refine sB_ ?_ GE140.out | refine sB_ ?_ GE141.out | refine sB_ ?_ GE163.out | refine sB_ ?_ GE170.out) | exact HB.out)) hb)
            clear HO148
            clear HO154
            clear HO161
            clear HO168
            clear HO176
            clear BK140
            clear BK141
            clear BK163
            clear BK170
            clear HB
            have HO148 := n0_
            have HO154 := n1_
            have HO161 := n2_
            have HO168 := n3_
            have HO176 := n4_
            have BK140 := n5_
            have BK141 := n6_
            have BK163 := n7_
            have BK170 := n8_
            have HB := n9_
            clear n0_ n1_ n2_ n3_ n4_ n5_ n6_ n7_ n8_ n9_
            (try clear hb)
            (try clear hb2)
            (try clear hk)
            (try clear hi)
            refine hK.out _ _ ⟨(bc_ BK163.out 0).trans rfl, (bc_ BK163.out 1).trans rfl, (bc_ BK163.out 2).trans rfl, (bc_ BK163.out 3).trans rfl, (bc_ BK140.out 0).trans rfl, (bc_ BK140.out 1).trans rfl, (bc_ BK140.out 2).trans rfl, (bc_ BK140.out 3).trans rfl⟩ (fun hHeld => ?_)
            clear hK K
            refine norm_ (a' := ?_) ?_ ?_
            rotate_left
            · show Act.put _ (some 38) _ = _
              simp only [Act.put, List.setIfInBounds_toArray, List.set_cons_zero, List.set_cons_succ, i64_w, i32_w]
              rfl
            refine pure_ (i := 4) (N := some 39) (v := ?_) (a' := ?_) #[true, true, true, true, true] rfl rfl (by kernel_rfl) (fun _ _ _ h => h) (Or.inl ⟨by rfl, ?_⟩) ?_ ?_
            rotate_left
            · intro w'
              go_simp
              with_reducible rfl
            rotate_left
            · simp only [Act.put, List.setIfInBounds_toArray, List.set_cons_zero, List.set_cons_succ, i64_w, i32_w]
              rfl
            refine done_ (by kernel_rfl) ?_
            try go_wp2
            have n0_ := Aside0.mk (rD_ HO148.out)
            have n1_ := Aside0.mk (rD_ HO154.out)
            have n2_ := Aside0.mk (rD_ HO161.out)
            have n3_ := Aside0.mk (rD_ HO168.out)
            have n4_ := Aside0.mk (rD_ HO176.out)
            have n5_ := Aside0.mk (bD_ BK140.out)
            have n6_ := Aside0.mk (bD_ BK141.out)
            have n7_ := Aside0.mk (bD_ BK163.out)
            have n8_ := Aside0.mk (bD_ BK170.out)
            have n9_ := Aside0.mk (dB_ HB.out)
            clear HO148
            clear HO154
            clear HO161
            clear HO168
            clear HO176
            clear BK140
            clear BK141
            clear BK163
            clear BK170
            clear HB
            have HO148 := n0_
            have HO154 := n1_
            have HO161 := n2_
            have HO168 := n3_
            have HO176 := n4_
            have BK140 := n5_
            have BK141 := n6_
            have BK163 := n7_
            have BK170 := n8_
            have HB := n9_
            clear n0_ n1_ n2_ n3_ n4_ n5_ n6_ n7_ n8_ n9_
            refine start_ (n := 5) (S := fun w' => w'.cell? ⟨gb170, 0, none⟩ = some (.string t164) ∧ w'.cell? ⟨gb170, 1, none⟩ = some (.string t165) ∧ w'.cell? ⟨gb170, 2, none⟩ = some (.slice Ao127 t166.length co127) ∧ w'.cell? ⟨gb170, 3, none⟩ = some (.string t169) ∧ w'.cell? ⟨gb141, 0, none⟩ = some (.string a1_0) ∧ w'.cell? ⟨gb141, 1, none⟩ = some (.string a1_1) ∧ w'.cell? ⟨gb141, 2, none⟩ = some (.slice A1_2 l1_2.length c1_2) ∧ w'.cell? ⟨gb141, 3, none⟩ = some (.string a1_3)) (ds := []) #[false, false, false, false, false] (by kernel_rfl) rfl rfl ⟨(bc_ BK170.out 0).trans rfl, (bc_ BK170.out 1).trans rfl, (bc_ BK170.out 2).trans rfl, (bc_ BK170.out 3).trans rfl, (bc_ BK141.out 0).trans rfl, (bc_ BK141.out 1).trans rfl, (bc_ BK141.out 2).trans rfl, (bc_ BK141.out 3).trans rfl⟩ (fun hHeld => ?_)
            generalize w133.drew = w134 at HO148 HO154 HO161 HO168 HO176 BK140 BK141 BK163 BK170 HB hHeld ⊢
            refine take_ (i := 0) (N := some 40) (v := ?_) (a' := ?_) #[true, false, false, false, false] rfl rfl (by kernel_rfl) (fun _ _ _ h => h) (Or.inl ⟨by rfl, ?_⟩) hHeld ?_ ?_
            rotate_left
            · rintro w' ⟨s0, s1, s2, s3, s4, s5, s6, s7⟩
              go_simp
              with_reducible rfl
            rotate_left
            · simp only [Act.put, List.setIfInBounds_toArray, List.set_cons_zero, List.set_cons_succ, i64_w, i32_w]
              rfl
            refine take_ (i := 1) (N := some 41) (v := ?_) (a' := ?_) #[true, true, false, false, false] rfl rfl (by kernel_rfl) (fun _ _ _ h => h) (Or.inl ⟨by rfl, ?_⟩) hHeld ?_ ?_
            rotate_left
            · rintro w' ⟨s0, s1, s2, s3, s4, s5, s6, s7⟩
              go_simp
              with_reducible rfl
            rotate_left
            · simp only [Act.put, List.setIfInBounds_toArray, List.set_cons_zero, List.set_cons_succ, i64_w, i32_w]
              rfl
            refine one_ (i := 2) (N := some 42) #[true, true, true, false, false] rfl rfl (by kernel_rfl) (by decide) (fun K hK => ?_)
            refine goes_ Try.func50 (by kernel_rfl) rfl #[.agg #[.string a1_0, .string a1_1, .slice A1_2 l1_2.length c1_2, .string a1_3]] (by rfl) rfl rfl (by (try simp only [List.map_toArray, List.map_cons, List.map_nil]); first | done | rfl | (simp only [List.length_drop, List.length_take]; rfl)) ?_
            with_reducible refine (laws_toReq.calls k a1_0 a1_1 _ _ l1_2 a1_3 t179 t180 t181 t184 _ ?side1 ?side2 A59.out).mono ?_
            (case side1 => repeat (first | exact (Kd.C_below HR1_2.out HB.out) | (with_reducible refine Kd.C_alloc ?_ _) | (with_reducible refine Kd.C_drewN ?_ _) | (with_reducible refine Kd.C_drew ?_)))
            (case side2 => exact HC1_2.out)
            rintro e w135 ⟨v182, rfl, ho0, hb⟩
            refine ⟨_, rfl, ?_⟩
            have n0_ := Aside0.mk (Kd.R_elder' (by (with_reducible repeat (first | apply rA_ | apply rN_ | apply rD_)); exact HO148.out) (Kd.R_base ho0) hb)
            have n1_ := Aside0.mk (Kd.R_elder' (by (with_reducible repeat (first | apply rA_ | apply rN_ | apply rD_)); exact HO154.out) (Kd.R_base ho0) hb)
            have n2_ := Aside0.mk (Kd.R_elder' (by (with_reducible repeat (first | apply rA_ | apply rN_ | apply rD_)); exact HO161.out) (Kd.R_base ho0) hb)
            have n3_ := Aside0.mk (Kd.R_elder' (by (with_reducible repeat (first | apply rA_ | apply rN_ | apply rD_)); exact HO168.out) (Kd.R_base ho0) hb)
            have n4_ := Aside0.mk (Kd.R_elder' (by (with_reducible repeat (first | apply rA_ | apply rN_ | apply rD_)); exact HO176.out) (Kd.R_base ho0) hb)
            have n5_ := Aside0.mk (Kd.R_lower (Kd.R_new' (Kd.R_new' (Kd.R_new' (Kd.R_new' (Kd.R_new' ho0 (Kd.R_lt (by (with_reducible repeat (first | apply rA_ | apply rN_ | apply rD_)); exact HO148.out))) (Kd.R_lt (by (with_reducible repeat (first | apply rA_ | apply rN_ | apply rD_)); exact HO154.out))) (Kd.R_lt (by (with_reducible repeat (first | apply rA_ | apply rN_ | apply rD_)); exact HO161.out))) (Kd.R_lt (by (with_reducible repeat (first | apply rA_ | apply rN_ | apply rD_)); exact HO168.out))) (Kd.R_lt (by (with_reducible repeat (first | apply rA_ | apply rN_ | apply rD_)); exact HO176.out))) (below_size (by repeat (first | (with_reducible first | exact HB.out | apply aB_ | apply pN_ | apply dB_ | refine sB_ ?_ GE140.out | refine sB_ ?_ GE141.out | refine sB_ ?_ GE163.out | refine sB_ ?_ GE170.out) | exact HB.out))))
            have n6_ := Aside0.mk (bB_ (g := gb140) (o := .cells #[.string a0_0, .string a0_1, .slice A0_2 l0_2.length c0_2, .string a0_3] 66 (0, 0)) (by (with_reducible repeat (first | refine bN_ ?_ _ | refine bD_ ?_ | refine bA_ ?_ _)); exact BK140.out) hb)
            have n7_ := Aside0.mk (bB_ (g := gb141) (o := .cells #[.string a1_0, .string a1_1, .slice A1_2 l1_2.length c1_2, .string a1_3] 66 (0, 0)) (by (with_reducible repeat (first | refine bN_ ?_ _ | refine bD_ ?_ | refine bA_ ?_ _)); exact BK141.out) hb)
            have n8_ := Aside0.mk (bB_ (g := gb163) (o := .cells #[.string t157, .string t158, .slice Ao119 t159.length co119, .string t162] 70 (0, 0)) (by (with_reducible repeat (first | refine bN_ ?_ _ | refine bD_ ?_ | refine bA_ ?_ _)); exact BK163.out) hb)
            have n9_ := Aside0.mk (bB_ (g := gb170) (o := .cells #[.string t164, .string t165, .slice Ao127 t166.length co127, .string t169] 70 (0, 0)) (by (with_reducible repeat (first | refine bN_ ?_ _ | refine bD_ ?_ | refine bA_ ?_ _)); exact BK170.out) hb)
            have n10_ := Aside0.mk (below_step (by repeat (first | (with_reducible first | exact HB.out | apply aB_ | apply pN_ | apply dB_ | refine sB_ ?_ GE140.out | refine sB_ ?_ GE141.out | refine sB_ ?_ GE163.out | refine sB_ ?_ GE170.out) | exact HB.out)) hb)
            clear HO148
            clear HO154
            clear HO161
            clear HO168
            clear HO176
            clear BK140
            clear BK141
            clear BK163
            clear BK170
            clear HB
            have HO148 := n0_
            have HO154 := n1_
            have HO161 := n2_
            have HO168 := n3_
            have HO176 := n4_
            have HO183 := n5_
            have BK140 := n6_
            have BK141 := n7_
            have BK163 := n8_
            have BK170 := n9_
            have HB := n10_
            clear n0_ n1_ n2_ n3_ n4_ n5_ n6_ n7_ n8_ n9_ n10_
            (try clear hb)
            (try clear hb2)
            (try clear hk)
            (try clear hi)
            (try clear ho0)
            obtain ⟨Ao136, co136, eo136⟩ := Kd.R_slice HO183.out
            (first | subst eo136 | (injection eo136 with f1_ f2_ f3_; have f4_ := f1_.symm; have f5_ := f3_.symm; clear f1_ f2_ f3_; subst f4_; subst f5_))
            refine hK.out _ _ ⟨(bc_ BK170.out 0).trans rfl, (bc_ BK170.out 1).trans rfl, (bc_ BK170.out 2).trans rfl, (bc_ BK170.out 3).trans rfl, (bc_ BK141.out 0).trans rfl, (bc_ BK141.out 1).trans rfl, (bc_ BK141.out 2).trans rfl, (bc_ BK141.out 3).trans rfl⟩ (fun hHeld => ?_)
            clear hK K
            refine norm_ (a' := ?_) ?_ ?_
            rotate_left
            · show Act.put _ (some 42) _ = _
              simp only [Act.put, List.setIfInBounds_toArray, List.set_cons_zero, List.set_cons_succ, i64_w, i32_w]
              rfl
            refine one_ (i := 3) (N := some 43) #[true, true, true, true, false] rfl rfl (by kernel_rfl) (by decide) (fun K hK => ?_)
            refine goes_ Try.func52 (by kernel_rfl) rfl #[.agg #[.string t164, .string t165, .slice Ao127 t166.length co127, .string t169], .agg #[.string t179, .string t180, .slice Ao136 t181.length co136, .string t184]] (by rfl) rfl rfl (by (try simp only [List.map_toArray, List.map_cons, List.map_nil]); first | done | rfl | (simp only [List.length_drop, List.length_take]; rfl)) ?_
            with_reducible refine (laws_eqReq.calls k t164 t165 _ _ t166 t169 t179 t180 _ _ t181 t184 false _ ?side1 ?side2 ?side3 ?side4 A60.out).mono ?_
            (case side1 => repeat (first | exact (Kd.R_reads' HO168.out).2.2 | (with_reducible refine Kd.C_alloc ?_ _) | (with_reducible refine Kd.C_drewN ?_ _) | (with_reducible refine Kd.C_drew ?_)))
            (case side2 => exact (Kd.R_reads' HO168.out).2.1)
            (case side3 => repeat (first | exact (Kd.R_reads' HO183.out).2.2 | (with_reducible refine Kd.C_alloc ?_ _) | (with_reducible refine Kd.C_drewN ?_ _) | (with_reducible refine Kd.C_drew ?_)))
            (case side4 => exact (Kd.R_reads' HO183.out).2.1)
            rintro e w137 ⟨rfl, hb⟩
            refine ⟨_, rfl, ?_⟩
            have n0_ := Aside0.mk (Kd.R_below (by (with_reducible repeat (first | apply rA_ | apply rN_ | apply rD_)); exact HO148.out) hb)
            have n1_ := Aside0.mk (Kd.R_below (by (with_reducible repeat (first | apply rA_ | apply rN_ | apply rD_)); exact HO154.out) hb)
            have n2_ := Aside0.mk (Kd.R_below (by (with_reducible repeat (first | apply rA_ | apply rN_ | apply rD_)); exact HO161.out) hb)
            have n3_ := Aside0.mk (Kd.R_below (by (with_reducible repeat (first | apply rA_ | apply rN_ | apply rD_)); exact HO168.out) hb)
            have n4_ := Aside0.mk (Kd.R_below (by (with_reducible repeat (first | apply rA_ | apply rN_ | apply rD_)); exact HO176.out) hb)
            have n5_ := Aside0.mk (Kd.R_below (by (with_reducible repeat (first | apply rA_ | apply rN_ | apply rD_)); exact HO183.out) hb)
            have n6_ := Aside0.mk (bB_ (g := gb140) (o := .cells #[.string a0_0, .string a0_1, .slice A0_2 l0_2.length c0_2, .string a0_3] 66 (0, 0)) (by (with_reducible repeat (first | refine bN_ ?_ _ | refine bD_ ?_ | refine bA_ ?_ _)); exact BK140.out) hb)
            have n7_ := Aside0.mk (bB_ (g := gb141) (o := .cells #[.string a1_0, .string a1_1, .slice A1_2 l1_2.length c1_2, .string a1_3] 66 (0, 0)) (by (with_reducible repeat (first | refine bN_ ?_ _ | refine bD_ ?_ | refine bA_ ?_ _)); exact BK141.out) hb)
            have n8_ := Aside0.mk (bB_ (g := gb163) (o := .cells #[.string t157, .string t158, .slice Ao119 t159.length co119, .string t162] 70 (0, 0)) (by (with_reducible repeat (first | refine bN_ ?_ _ | refine bD_ ?_ | refine bA_ ?_ _)); exact BK163.out) hb)
            have n9_ := Aside0.mk (bB_ (g := gb170) (o := .cells #[.string t164, .string t165, .slice Ao127 t166.length co127, .string t169] 70 (0, 0)) (by (with_reducible repeat (first | refine bN_ ?_ _ | refine bD_ ?_ | refine bA_ ?_ _)); exact BK170.out) hb)
            have n10_ := Aside0.mk (below_step (by repeat (first | (with_reducible first | exact HB.out | apply aB_ | apply pN_ | apply dB_ | refine sB_ ?_ GE140.out | refine sB_ ?_ GE141.out | refine sB_ ?_ GE163.out | refine sB_ ?_ GE170.out) | exact HB.out)) hb)
            clear HO148
            clear HO154
            clear HO161
            clear HO168
            clear HO176
            clear HO183
            clear BK140
            clear BK141
            clear BK163
            clear BK170
            clear HB
            have HO148 := n0_
            have HO154 := n1_
            have HO161 := n2_
            have HO168 := n3_
            have HO176 := n4_
            have HO183 := n5_
            have BK140 := n6_
            have BK141 := n7_
            have BK163 := n8_
            have BK170 := n9_
            have HB := n10_
            clear n0_ n1_ n2_ n3_ n4_ n5_ n6_ n7_ n8_ n9_ n10_
            (try clear hb)
            (try clear hb2)
            (try clear hk)
            (try clear hi)
            refine hK.out _ _ ⟨(bc_ BK170.out 0).trans rfl, (bc_ BK170.out 1).trans rfl, (bc_ BK170.out 2).trans rfl, (bc_ BK170.out 3).trans rfl, (bc_ BK141.out 0).trans rfl, (bc_ BK141.out 1).trans rfl, (bc_ BK141.out 2).trans rfl, (bc_ BK141.out 3).trans rfl⟩ (fun hHeld => ?_)
            clear hK K
            refine norm_ (a' := ?_) ?_ ?_
            rotate_left
            · show Act.put _ (some 43) _ = _
              simp only [Act.put, List.setIfInBounds_toArray, List.set_cons_zero, List.set_cons_succ, i64_w, i32_w]
              rfl
            refine pure_ (i := 4) (N := some 44) (v := ?_) (a' := ?_) #[true, true, true, true, true] rfl rfl (by kernel_rfl) (fun _ _ _ h => h) (Or.inl ⟨by rfl, ?_⟩) ?_ ?_
            rotate_left
            · intro w'
              go_simp
              with_reducible rfl
            rotate_left
            · simp only [Act.put, List.setIfInBounds_toArray, List.set_cons_zero, List.set_cons_succ, i64_w, i32_w]
              rfl
            refine done_ (by kernel_rfl) ?_
            try go_wp2
            go_ret
            exact ⟨by first | rfl | (simp [errW_none, errW_some] <;> rfl) | (simp [*, errW_none, errW_some] <;> rfl), by repeat (first | (with_reducible first | exact HB.out | apply aB_ | apply pN_ | apply dB_ | refine sB_ ?_ GE140.out | refine sB_ ?_ GE141.out | refine sB_ ?_ GE163.out | refine sB_ ?_ GE170.out) | exact HB.out)⟩
        · replace c58 := Bool.eq_false_iff.mpr c58
          subst c58
          have H1 : (some false) = some r := by rw [if_neg (show ¬ (false = true) by decide)] at H; exact H
          clear H
          have H := H1
          clear H1
          obtain rfl := Option.some.inj H
          go_enter Try.func11, Try.ntmps11
          try go_wp2_with (first | ((with_reducible refine gate_dst (N := 2) rfl ?_); refine box_event ?hg (N := 2) ?hd (cs := #[.string a0_0, .string a0_1, .slice A0_2 l0_2.length c0_2, .string a0_3]) (t := 66) ?hr ?_; (case hd => rfl); (case hg => rfl); (case hr => first | (go_simp; done) | (go_simp; rfl)); intro gb140 hg w138 hbox hb; have n0_ := Aside0.mk (below_step (by repeat (first | (with_reducible first | exact HB.out | apply aB_ | apply pN_ | apply dB_) | exact HB.out)) hb); have n1_ := Aside0.mk (hbox); have n2_ := Aside0.mk ((by rw [hg]; exact (below_size (by repeat (first | (with_reducible first | exact HB.out | apply aB_ | apply pN_ | apply dB_) | exact HB.out))) : w.heap.size ≤ gb140)); have n3_ := Aside0.mk ((by rw [hg]; exact (below_size (by repeat (first | (with_reducible first | exact HB.out | apply aB_ | apply pN_ | apply dB_) | exact HB.out))) : w.heap.size ≤ gb140)); clear HB; have HB := n0_; have BK140 := n1_; have GW140 := n2_; have GE140 := n3_; clear n0_ n1_ n2_ n3_; clear hb hbox hg) | ((with_reducible refine gate_dst (N := 3) rfl ?_); refine box_event ?hg (N := 3) ?hd (cs := #[.string a1_0, .string a1_1, .slice A1_2 l1_2.length c1_2, .string a1_3]) (t := 66) ?hr ?_; (case hd => rfl); (case hg => rfl); (case hr => first | (go_simp; done) | (go_simp; rfl)); intro gb141 hg w139 hbox hb; have n0_ := Aside0.mk (bB_ (g := gb140) (o := .cells #[.string a0_0, .string a0_1, .slice A0_2 l0_2.length c0_2, .string a0_3] 66 (0, 0)) (by (with_reducible repeat (first | refine bN_ ?_ _ | refine bD_ ?_ | refine bA_ ?_ _)); exact BK140.out) hb); have n1_ := Aside0.mk (below_step (by repeat (first | (with_reducible first | exact HB.out | apply aB_ | apply pN_ | apply dB_ | refine sB_ ?_ GE140.out) | exact HB.out)) hb); have n2_ := Aside0.mk (hbox); have n3_ := Aside0.mk ((by rw [hg]; exact (below_size (by repeat (first | (with_reducible first | exact HB.out | apply aB_ | apply pN_ | apply dB_ | refine sB_ ?_ GE140.out) | exact HB.out))) : w.heap.size ≤ gb141)); have n4_ := Aside0.mk ((by rw [hg]; exact (below_size (by repeat (first | (with_reducible first | exact HB.out | apply aB_ | apply pN_ | apply dB_ | refine sB_ ?_ GE140.out) | exact HB.out))) : w.heap.size ≤ gb141)); have n5_ := Aside0.mk ((by rw [hg]; exact Nat.ne_of_lt (blk_lt (g := gb140) (o := .cells #[.string a0_0, .string a0_1, .slice A0_2 l0_2.length c0_2, .string a0_3] 66 (0, 0)) (by (with_reducible repeat (first | refine bN_ ?_ _ | refine bD_ ?_ | refine bA_ ?_ _)); exact BK140.out)) : gb140 ≠ gb141)); have n6_ := Aside0.mk ((by rw [hg]; exact Nat.ne_of_gt (blk_lt (g := gb140) (o := .cells #[.string a0_0, .string a0_1, .slice A0_2 l0_2.length c0_2, .string a0_3] 66 (0, 0)) (by (with_reducible repeat (first | refine bN_ ?_ _ | refine bD_ ?_ | refine bA_ ?_ _)); exact BK140.out)) : gb141 ≠ gb140)); clear BK140; clear HB; have BK140 := n0_; have HB := n1_; have BK141 := n2_; have GW141 := n3_; have GE141 := n4_; have NB140_141 := n5_; have NB141_140 := n6_; clear n0_ n1_ n2_ n3_ n4_ n5_ n6_; clear hb hbox hg; have hnb140 := NB140_141.out; have hnc140 := NB141_140.out; have hcz141_0 : w139.cell? ⟨gb140, 0, none⟩ = some (.string a0_0) := (bc_ BK140.out 0).trans rfl; have hcz141_1 : w139.cell? ⟨gb140, 1, none⟩ = some (.string a0_1) := (bc_ BK140.out 1).trans rfl; have hcz141_2 : w139.cell? ⟨gb140, 2, none⟩ = some (.slice A0_2 l0_2.length c0_2) := (bc_ BK140.out 2).trans rfl; have hcz141_3 : w139.cell? ⟨gb140, 3, none⟩ = some (.string a0_3) := (bc_ BK140.out 3).trans rfl; have hfz141_0 := bF_ BK140.out 0; have hfz141_1 := bF_ BK140.out 1; have hfz141_2 := bF_ BK140.out 2; have hfz141_3 := bF_ BK140.out 3) | ((with_reducible refine gate_callee (f := 48) rfl ?_); refine goesL_ (some 12) rfl rfl Try.func48 (by kernel_rfl) rfl #[.agg #[.string a0_0, .string a0_1, .slice A0_2 l0_2.length c0_2, .string a0_3], .int .i64 1048576] rfl (by (try simp only [List.map_toArray, List.map_cons, List.map_nil]); first | done | rfl | (simp only [List.length_drop, List.length_take]; rfl)) ?_; (with_reducible refine (laws_szReq.calls k a0_0 a0_1 _ _ l0_2 a0_3 1048576 t142 _ ?side1 ?side2 A3.out).mono ?_); (case side1 => repeat (first | exact (Kd.C_below HR0_2.out HB.out) | (with_reducible refine Kd.C_alloc ?_ _) | (with_reducible refine Kd.C_drewN ?_ _) | (with_reducible refine Kd.C_drew ?_))); (case side2 => exact HC0_2.out); rintro e w142 ⟨rfl, hb⟩; refine ⟨_, rfl, ?_⟩; have n0_ := Aside0.mk (bB_ (g := gb140) (o := .cells #[.string a0_0, .string a0_1, .slice A0_2 l0_2.length c0_2, .string a0_3] 66 (0, 0)) (by (with_reducible repeat (first | refine bN_ ?_ _ | refine bD_ ?_ | refine bA_ ?_ _)); exact BK140.out) hb); have n1_ := Aside0.mk (bB_ (g := gb141) (o := .cells #[.string a1_0, .string a1_1, .slice A1_2 l1_2.length c1_2, .string a1_3] 66 (0, 0)) (by (with_reducible repeat (first | refine bN_ ?_ _ | refine bD_ ?_ | refine bA_ ?_ _)); exact BK141.out) hb); have n2_ := Aside0.mk (below_step (by repeat (first | (with_reducible first | exact HB.out | apply aB_ | apply pN_ | apply dB_ | refine sB_ ?_ GE140.out | refine sB_ ?_ GE141.out) | exact HB.out)) hb); clear BK140; clear BK141; clear HB; have BK140 := n0_; have BK141 := n1_; have HB := n2_; clear n0_ n1_ n2_; (try clear hb); (try clear hb2); (try clear hk); (try clear hi); have hcz143_0 : w142.cell? ⟨gb141, 0, none⟩ = some (.string a1_0) := (bc_ BK141.out 0).trans rfl; have hcz143_1 : w142.cell? ⟨gb141, 1, none⟩ = some (.string a1_1) := (bc_ BK141.out 1).trans rfl; have hcz143_2 : w142.cell? ⟨gb141, 2, none⟩ = some (.slice A1_2 l1_2.length c1_2) := (bc_ BK141.out 2).trans rfl; have hcz143_3 : w142.cell? ⟨gb141, 3, none⟩ = some (.string a1_3) := (bc_ BK141.out 3).trans rfl; have hfz143_0 := bF_ BK141.out 0; have hfz143_1 := bF_ BK141.out 1; have hfz143_2 := bF_ BK141.out 2; have hfz143_3 := bF_ BK141.out 3) | ((with_reducible refine gate_callee (f := 48) rfl ?_); refine goesL_ (some 17) rfl rfl Try.func48 (by kernel_rfl) rfl #[.agg #[.string a1_0, .string a1_1, .slice A1_2 l1_2.length c1_2, .string a1_3], .int .i64 t142] rfl (by (try simp only [List.map_toArray, List.map_cons, List.map_nil]); first | done | rfl | (simp only [List.length_drop, List.length_take]; rfl)) ?_; (with_reducible refine (laws_szReq.calls k a1_0 a1_1 _ _ l1_2 a1_3 t142 t143 _ ?side1 ?side2 A10.out).mono ?_); (case side1 => repeat (first | exact (Kd.C_below HR1_2.out HB.out) | (with_reducible refine Kd.C_alloc ?_ _) | (with_reducible refine Kd.C_drewN ?_ _) | (with_reducible refine Kd.C_drew ?_))); (case side2 => exact HC1_2.out); rintro e w144 ⟨rfl, hb⟩; refine ⟨_, rfl, ?_⟩; have n0_ := Aside0.mk (bB_ (g := gb140) (o := .cells #[.string a0_0, .string a0_1, .slice A0_2 l0_2.length c0_2, .string a0_3] 66 (0, 0)) (by (with_reducible repeat (first | refine bN_ ?_ _ | refine bD_ ?_ | refine bA_ ?_ _)); exact BK140.out) hb); have n1_ := Aside0.mk (bB_ (g := gb141) (o := .cells #[.string a1_0, .string a1_1, .slice A1_2 l1_2.length c1_2, .string a1_3] 66 (0, 0)) (by (with_reducible repeat (first | refine bN_ ?_ _ | refine bD_ ?_ | refine bA_ ?_ _)); exact BK141.out) hb); have n2_ := Aside0.mk (below_step (by repeat (first | (with_reducible first | exact HB.out | apply aB_ | apply pN_ | apply dB_ | refine sB_ ?_ GE140.out | refine sB_ ?_ GE141.out) | exact HB.out)) hb); clear BK140; clear BK141; clear HB; have BK140 := n0_; have BK141 := n1_; have HB := n2_; clear n0_ n1_ n2_; (try clear hb); (try clear hb2); (try clear hk); (try clear hi)))
          have n0_ := Aside0.mk (bD_ BK140.out)
          have n1_ := Aside0.mk (bD_ BK141.out)
          have n2_ := Aside0.mk (dB_ HB.out)
          clear BK140
          clear BK141
          clear HB
          have BK140 := n0_
          have BK141 := n1_
          have HB := n2_
          clear n0_ n1_ n2_
          refine start_ (n := 6) (S := fun w' => w'.cell? ⟨gb140, 0, none⟩ = some (.string a0_0) ∧ w'.cell? ⟨gb140, 1, none⟩ = some (.string a0_1) ∧ w'.cell? ⟨gb140, 2, none⟩ = some (.slice A0_2 l0_2.length c0_2) ∧ w'.cell? ⟨gb140, 3, none⟩ = some (.string a0_3) ∧ w'.cell? ⟨gb141, 0, none⟩ = some (.string a1_0) ∧ w'.cell? ⟨gb141, 1, none⟩ = some (.string a1_1) ∧ w'.cell? ⟨gb141, 2, none⟩ = some (.slice A1_2 l1_2.length c1_2) ∧ w'.cell? ⟨gb141, 3, none⟩ = some (.string a1_3)) (ds := []) #[false, false, false, false, false, false] (by kernel_rfl) rfl rfl ⟨(bc_ BK140.out 0).trans rfl, (bc_ BK140.out 1).trans rfl, (bc_ BK140.out 2).trans rfl, (bc_ BK140.out 3).trans rfl, (bc_ BK141.out 0).trans rfl, (bc_ BK141.out 1).trans rfl, (bc_ BK141.out 2).trans rfl, (bc_ BK141.out 3).trans rfl⟩ (fun hHeld => ?_)
          generalize w144.drew = w145 at BK140 BK141 HB hHeld ⊢
          refine take_ (i := 0) (N := some 20) (v := ?_) (a' := ?_) #[true, false, false, false, false, false] rfl rfl (by kernel_rfl) (fun _ _ _ h => h) (Or.inl ⟨by rfl, ?_⟩) hHeld ?_ ?_
          rotate_left
          · rintro w' ⟨s0, s1, s2, s3, s4, s5, s6, s7⟩
            go_simp
            with_reducible rfl
          rotate_left
          · simp only [Act.put, List.setIfInBounds_toArray, List.set_cons_zero, List.set_cons_succ, i64_w, i32_w]
            rfl
          refine take_ (i := 2) (N := some 22) (v := ?_) (a' := ?_) #[true, false, true, false, false, false] rfl rfl (by kernel_rfl) (fun _ _ _ h => h) (Or.inl ⟨by rfl, ?_⟩) hHeld ?_ ?_
          rotate_left
          · rintro w' ⟨s0, s1, s2, s3, s4, s5, s6, s7⟩
            go_simp
            with_reducible rfl
          rotate_left
          · simp only [Act.put, List.setIfInBounds_toArray, List.set_cons_zero, List.set_cons_succ, i64_w, i32_w]
            rfl
          refine one_ (i := 1) (N := some 21) #[true, true, true, false, false, false] rfl rfl (by kernel_rfl) (by decide) (fun K hK => ?_)
          refine goes_ Try.func50 (by kernel_rfl) rfl #[.agg #[.string a0_0, .string a0_1, .slice A0_2 l0_2.length c0_2, .string a0_3]] (by rfl) rfl rfl (by (try simp only [List.map_toArray, List.map_cons, List.map_nil]); first | done | rfl | (simp only [List.length_drop, List.length_take]; rfl)) ?_
          with_reducible refine (laws_toReq.calls k a0_0 a0_1 _ _ l0_2 a0_3 t144 t145 t146 t149 _ ?side1 ?side2 A19.out).mono ?_
          (case side1 => repeat (first | exact (Kd.C_below HR0_2.out HB.out) | (with_reducible refine Kd.C_alloc ?_ _) | (with_reducible refine Kd.C_drewN ?_ _) | (with_reducible refine Kd.C_drew ?_)))
          (case side2 => exact HC0_2.out)
          rintro e w146 ⟨v147, rfl, ho0, hb⟩
          refine ⟨_, rfl, ?_⟩
          have n0_ := Aside0.mk (Kd.R_lower ho0 (below_size (by repeat (first | (with_reducible first | exact HB.out | apply aB_ | apply pN_ | apply dB_ | refine sB_ ?_ GE140.out | refine sB_ ?_ GE141.out) | exact HB.out))))
          have n1_ := Aside0.mk (bB_ (g := gb140) (o := .cells #[.string a0_0, .string a0_1, .slice A0_2 l0_2.length c0_2, .string a0_3] 66 (0, 0)) (by (with_reducible repeat (first | refine bN_ ?_ _ | refine bD_ ?_ | refine bA_ ?_ _)); exact BK140.out) hb)
          have n2_ := Aside0.mk (bB_ (g := gb141) (o := .cells #[.string a1_0, .string a1_1, .slice A1_2 l1_2.length c1_2, .string a1_3] 66 (0, 0)) (by (with_reducible repeat (first | refine bN_ ?_ _ | refine bD_ ?_ | refine bA_ ?_ _)); exact BK141.out) hb)
          have n3_ := Aside0.mk (below_step (by repeat (first | (with_reducible first | exact HB.out | apply aB_ | apply pN_ | apply dB_ | refine sB_ ?_ GE140.out | refine sB_ ?_ GE141.out) | exact HB.out)) hb)
          clear BK140
          clear BK141
          clear HB
          have HO148 := n0_
          have BK140 := n1_
          have BK141 := n2_
          have HB := n3_
          clear n0_ n1_ n2_ n3_
          (try clear hb)
          (try clear hb2)
          (try clear hk)
          (try clear hi)
          (try clear ho0)
          refine hK.out _ _ ⟨(bc_ BK140.out 0).trans rfl, (bc_ BK140.out 1).trans rfl, (bc_ BK140.out 2).trans rfl, (bc_ BK140.out 3).trans rfl, (bc_ BK141.out 0).trans rfl, (bc_ BK141.out 1).trans rfl, (bc_ BK141.out 2).trans rfl, (bc_ BK141.out 3).trans rfl⟩ (fun hHeld => ?_)
          clear hK K
          refine norm_ (a' := ?_) ?_ ?_
          rotate_left
          · show Act.put _ (some 21) _ = _
            simp only [Act.put, List.setIfInBounds_toArray, List.set_cons_zero, List.set_cons_succ, i64_w, i32_w]
            rfl
          refine one_ (i := 3) (N := some 23) #[true, true, true, true, false, false] rfl rfl (by kernel_rfl) (by decide) (fun K hK => ?_)
          refine goes_ Try.func50 (by kernel_rfl) rfl #[.agg #[.string a1_0, .string a1_1, .slice A1_2 l1_2.length c1_2, .string a1_3]] (by rfl) rfl rfl (by (try simp only [List.map_toArray, List.map_cons, List.map_nil]); first | done | rfl | (simp only [List.length_drop, List.length_take]; rfl)) ?_
          with_reducible refine (laws_toReq.calls k a1_0 a1_1 _ _ l1_2 a1_3 t150 t151 t152 t155 _ ?side1 ?side2 A20.out).mono ?_
          (case side1 => repeat (first | exact (Kd.C_below HR1_2.out HB.out) | (with_reducible refine Kd.C_alloc ?_ _) | (with_reducible refine Kd.C_drewN ?_ _) | (with_reducible refine Kd.C_drew ?_)))
          (case side2 => exact HC1_2.out)
          rintro e w147 ⟨v153, rfl, ho0, hb⟩
          refine ⟨_, rfl, ?_⟩
          have n0_ := Aside0.mk (Kd.R_elder' (by (with_reducible repeat (first | apply rA_ | apply rN_ | apply rD_)); exact HO148.out) (Kd.R_base ho0) hb)
          have n1_ := Aside0.mk (Kd.R_lower (Kd.R_new' ho0 (Kd.R_lt (by (with_reducible repeat (first | apply rA_ | apply rN_ | apply rD_)); exact HO148.out))) (below_size (by repeat (first | (with_reducible first | exact HB.out | apply aB_ | apply pN_ | apply dB_ | refine sB_ ?_ GE140.out | refine sB_ ?_ GE141.out) | exact HB.out))))
          have n2_ := Aside0.mk (bB_ (g := gb140) (o := .cells #[.string a0_0, .string a0_1, .slice A0_2 l0_2.length c0_2, .string a0_3] 66 (0, 0)) (by (with_reducible repeat (first | refine bN_ ?_ _ | refine bD_ ?_ | refine bA_ ?_ _)); exact BK140.out) hb)
          have n3_ := Aside0.mk (bB_ (g := gb141) (o := .cells #[.string a1_0, .string a1_1, .slice A1_2 l1_2.length c1_2, .string a1_3] 66 (0, 0)) (by (with_reducible repeat (first | refine bN_ ?_ _ | refine bD_ ?_ | refine bA_ ?_ _)); exact BK141.out) hb)
          have n4_ := Aside0.mk (below_step (by repeat (first | (with_reducible first | exact HB.out | apply aB_ | apply pN_ | apply dB_ | refine sB_ ?_ GE140.out | refine sB_ ?_ GE141.out) | exact HB.out)) hb)
          clear HO148
          clear BK140
          clear BK141
          clear HB
          have HO148 := n0_
          have HO154 := n1_
          have BK140 := n2_
          have BK141 := n3_
          have HB := n4_
          clear n0_ n1_ n2_ n3_ n4_
          (try clear hb)
          (try clear hb2)
          (try clear hk)
          (try clear hi)
          (try clear ho0)
          obtain ⟨Ao148, co148, eo148⟩ := Kd.R_slice HO148.out
          (first | subst eo148 | (injection eo148 with f1_ f2_ f3_; have f4_ := f1_.symm; have f5_ := f3_.symm; clear f1_ f2_ f3_; subst f4_; subst f5_))
          obtain ⟨Ao149, co149, eo149⟩ := Kd.R_slice HO154.out
          (first | subst eo149 | (injection eo149 with f1_ f2_ f3_; have f4_ := f1_.symm; have f5_ := f3_.symm; clear f1_ f2_ f3_; subst f4_; subst f5_))
          refine hK.out _ _ ⟨(bc_ BK140.out 0).trans rfl, (bc_ BK140.out 1).trans rfl, (bc_ BK140.out 2).trans rfl, (bc_ BK140.out 3).trans rfl, (bc_ BK141.out 0).trans rfl, (bc_ BK141.out 1).trans rfl, (bc_ BK141.out 2).trans rfl, (bc_ BK141.out 3).trans rfl⟩ (fun hHeld => ?_)
          clear hK K
          refine norm_ (a' := ?_) ?_ ?_
          rotate_left
          · show Act.put _ (some 23) _ = _
            simp only [Act.put, List.setIfInBounds_toArray, List.set_cons_zero, List.set_cons_succ, i64_w, i32_w]
            rfl
          refine one_ (i := 4) (N := some 24) #[true, true, true, true, true, false] rfl rfl (by kernel_rfl) (by decide) (fun K hK => ?_)
          refine goes_ Try.func49 (by kernel_rfl) rfl #[.agg #[.string t144, .string t145, .slice Ao148 t146.length co148, .string t149], .agg #[.string t150, .string t151, .slice Ao149 t152.length co149, .string t155]] (by rfl) rfl rfl (by (try simp only [List.map_toArray, List.map_cons, List.map_nil]); first | done | rfl | (simp only [List.length_drop, List.length_take]; rfl)) ?_
          with_reducible refine (spec_SameReq.calls k t144 t145 _ _ t146 t149 t150 t151 _ _ t152 t155 t156 _ ?side1 ?side2 ?side3 ?side4 A21.out).mono ?_
          (case side1 => repeat (first | exact (Kd.R_reads' HO148.out).2.2 | (with_reducible refine Kd.C_alloc ?_ _) | (with_reducible refine Kd.C_drewN ?_ _) | (with_reducible refine Kd.C_drew ?_)))
          (case side2 => exact (Kd.R_reads' HO148.out).2.1)
          (case side3 => repeat (first | exact (Kd.R_reads' HO154.out).2.2 | (with_reducible refine Kd.C_alloc ?_ _) | (with_reducible refine Kd.C_drewN ?_ _) | (with_reducible refine Kd.C_drew ?_)))
          (case side4 => exact (Kd.R_reads' HO154.out).2.1)
          rintro e w150 ⟨rfl, hb⟩
          refine ⟨_, rfl, ?_⟩
          have n0_ := Aside0.mk (Kd.R_below (by (with_reducible repeat (first | apply rA_ | apply rN_ | apply rD_)); exact HO148.out) hb)
          have n1_ := Aside0.mk (Kd.R_below (by (with_reducible repeat (first | apply rA_ | apply rN_ | apply rD_)); exact HO154.out) hb)
          have n2_ := Aside0.mk (bB_ (g := gb140) (o := .cells #[.string a0_0, .string a0_1, .slice A0_2 l0_2.length c0_2, .string a0_3] 66 (0, 0)) (by (with_reducible repeat (first | refine bN_ ?_ _ | refine bD_ ?_ | refine bA_ ?_ _)); exact BK140.out) hb)
          have n3_ := Aside0.mk (bB_ (g := gb141) (o := .cells #[.string a1_0, .string a1_1, .slice A1_2 l1_2.length c1_2, .string a1_3] 66 (0, 0)) (by (with_reducible repeat (first | refine bN_ ?_ _ | refine bD_ ?_ | refine bA_ ?_ _)); exact BK141.out) hb)
          have n4_ := Aside0.mk (below_step (by repeat (first | (with_reducible first | exact HB.out | apply aB_ | apply pN_ | apply dB_ | refine sB_ ?_ GE140.out | refine sB_ ?_ GE141.out) | exact HB.out)) hb)
          clear HO148
          clear HO154
          clear BK140
          clear BK141
          clear HB
          have HO148 := n0_
          have HO154 := n1_
          have BK140 := n2_
          have BK141 := n3_
          have HB := n4_
          clear n0_ n1_ n2_ n3_ n4_
          (try clear hb)
          (try clear hb2)
          (try clear hk)
          (try clear hi)
          refine hK.out _ _ ⟨(bc_ BK140.out 0).trans rfl, (bc_ BK140.out 1).trans rfl, (bc_ BK140.out 2).trans rfl, (bc_ BK140.out 3).trans rfl, (bc_ BK141.out 0).trans rfl, (bc_ BK141.out 1).trans rfl, (bc_ BK141.out 2).trans rfl, (bc_ BK141.out 3).trans rfl⟩ (fun hHeld => ?_)
          clear hK K
          refine norm_ (a' := ?_) ?_ ?_
          rotate_left
          · show Act.put _ (some 24) _ = _
            simp only [Act.put, List.setIfInBounds_toArray, List.set_cons_zero, List.set_cons_succ, i64_w, i32_w]
            rfl
          refine pure_ (i := 5) (N := some 6) (v := ?_) (a' := ?_) #[true, true, true, true, true, true] rfl rfl (by kernel_rfl) (fun _ _ _ h => h) (Or.inl ⟨by rfl, ?_⟩) ?_ ?_
          rotate_left
          · intro w'
            go_simp
            with_reducible rfl
          rotate_left
          · simp only [Act.put, List.setIfInBounds_toArray, List.set_cons_zero, List.set_cons_succ, i64_w, i32_w]
            rfl
          refine done_ (by kernel_rfl) ?_
          have hcz151_0 : w150.cell? ⟨gb140, 0, none⟩ = some (.string a0_0) := (bc_ BK140.out 0).trans rfl
          have hcz151_1 : w150.cell? ⟨gb140, 1, none⟩ = some (.string a0_1) := (bc_ BK140.out 1).trans rfl
          have hcz151_2 : w150.cell? ⟨gb140, 2, none⟩ = some (.slice A0_2 l0_2.length c0_2) := (bc_ BK140.out 2).trans rfl
          have hcz151_3 : w150.cell? ⟨gb140, 3, none⟩ = some (.string a0_3) := (bc_ BK140.out 3).trans rfl
          have hfz151_0 := bF_ BK140.out 0
          have hfz151_1 := bF_ BK140.out 1
          have hfz151_2 := bF_ BK140.out 2
          have hfz151_3 := bF_ BK140.out 3
          try go_wp2_with (first | ((with_reducible refine gate_callee (f := 50) rfl ?_); refine goesL_ (some 26) rfl rfl Try.func50 (by kernel_rfl) rfl #[.agg #[.string a0_0, .string a0_1, .slice A0_2 l0_2.length c0_2, .string a0_3]] rfl (by (try simp only [List.map_toArray, List.map_cons, List.map_nil]); first | done | rfl | (simp only [List.length_drop, List.length_take]; rfl)) ?_; (with_reducible refine (laws_toReq.calls k a0_0 a0_1 _ _ l0_2 a0_3 t157 t158 t159 t162 _ ?side1 ?side2 A22.out).mono ?_); (case side1 => repeat (first | exact (Kd.C_below HR0_2.out HB.out) | (with_reducible refine Kd.C_alloc ?_ _) | (with_reducible refine Kd.C_drewN ?_ _) | (with_reducible refine Kd.C_drew ?_))); (case side2 => exact HC0_2.out); rintro e w152 ⟨v160, rfl, ho0, hb⟩; refine ⟨_, rfl, ?_⟩; have n0_ := Aside0.mk (Kd.R_elder' (by (with_reducible repeat (first | apply rA_ | apply rN_ | apply rD_)); exact HO148.out) (Kd.R_base ho0) hb); have n1_ := Aside0.mk (Kd.R_elder' (by (with_reducible repeat (first | apply rA_ | apply rN_ | apply rD_)); exact HO154.out) (Kd.R_base ho0) hb); have n2_ := Aside0.mk (Kd.R_lower (Kd.R_new' (Kd.R_new' ho0 (Kd.R_lt (by (with_reducible repeat (first | apply rA_ | apply rN_ | apply rD_)); exact HO148.out))) (Kd.R_lt (by (with_reducible repeat (first | apply rA_ | apply rN_ | apply rD_)); exact HO154.out))) (below_size (by repeat (first | (with_reducible first | exact HB.out | apply aB_ | apply pN_ | apply dB_ | refine sB_ ?_ GE140.out | refine sB_ ?_ GE141.out) | exact HB.out)))); have n3_ := Aside0.mk (bB_ (g := gb140) (o := .cells #[.string a0_0, .string a0_1, .slice A0_2 l0_2.length c0_2, .string a0_3] 66 (0, 0)) (by (with_reducible repeat (first | refine bN_ ?_ _ | refine bD_ ?_ | refine bA_ ?_ _)); exact BK140.out) hb); have n4_ := Aside0.mk (bB_ (g := gb141) (o := .cells #[.string a1_0, .string a1_1, .slice A1_2 l1_2.length c1_2, .string a1_3] 66 (0, 0)) (by (with_reducible repeat (first | refine bN_ ?_ _ | refine bD_ ?_ | refine bA_ ?_ _)); exact BK141.out) hb); have n5_ := Aside0.mk (below_step (by repeat (first | (with_reducible first | exact HB.out | apply aB_ | apply pN_ | apply dB_ | refine sB_ ?_ GE140.out | refine sB_ ?_ GE141.out) | exact HB.out)) hb); clear HO148; clear HO154; clear BK140; clear BK141; clear HB; have HO148 := n0_; have HO154 := n1_; have HO161 := n2_; have BK140 := n3_; have BK141 := n4_; have HB := n5_; clear n0_ n1_ n2_ n3_ n4_ n5_; (try clear hb); (try clear hb2); (try clear hk); (try clear hi); (try clear ho0)) | ((with_reducible refine gate_dst (N := 7) rfl ?_); refine box_event ?hg (N := 7) ?hd (cs := #[.string (⟨#[]⟩ : ByteArray), .string (⟨#[]⟩ : ByteArray), .slice none 0 0, .string (⟨#[]⟩ : ByteArray)]) (t := 70) ?hr ?_; (case hd => rfl); (case hg => rfl); (case hr => first | (go_simp; done) | (go_simp; rfl)); intro gb163 hg w153 hbox hb; have n0_ := Aside0.mk (Kd.R_below (by (with_reducible repeat (first | apply rA_ | apply rN_ | apply rD_)); exact HO148.out) hb); have n1_ := Aside0.mk (Kd.R_below (by (with_reducible repeat (first | apply rA_ | apply rN_ | apply rD_)); exact HO154.out) hb); have n2_ := Aside0.mk (Kd.R_below (by (with_reducible repeat (first | apply rA_ | apply rN_ | apply rD_)); exact HO161.out) hb); have n3_ := Aside0.mk (bB_ (g := gb140) (o := .cells #[.string a0_0, .string a0_1, .slice A0_2 l0_2.length c0_2, .string a0_3] 66 (0, 0)) (by (with_reducible repeat (first | refine bN_ ?_ _ | refine bD_ ?_ | refine bA_ ?_ _)); exact BK140.out) hb); have n4_ := Aside0.mk (bB_ (g := gb141) (o := .cells #[.string a1_0, .string a1_1, .slice A1_2 l1_2.length c1_2, .string a1_3] 66 (0, 0)) (by (with_reducible repeat (first | refine bN_ ?_ _ | refine bD_ ?_ | refine bA_ ?_ _)); exact BK141.out) hb); have n5_ := Aside0.mk (below_step (by repeat (first | (with_reducible first | exact HB.out | apply aB_ | apply pN_ | apply dB_ | refine sB_ ?_ GE140.out | refine sB_ ?_ GE141.out) | exact HB.out)) hb); have n6_ := Aside0.mk (hbox); have n7_ := Aside0.mk ((by rw [hg]; exact (below_size (by repeat (first | (with_reducible first | exact HB.out | apply aB_ | apply pN_ | apply dB_ | refine sB_ ?_ GE140.out | refine sB_ ?_ GE141.out) | exact HB.out))) : w.heap.size ≤ gb163)); have n8_ := Aside0.mk ((by rw [hg]; exact (below_size (by repeat (first | (with_reducible first | exact HB.out | apply aB_ | apply pN_ | apply dB_ | refine sB_ ?_ GE140.out | refine sB_ ?_ GE141.out) | exact HB.out))) : w.heap.size ≤ gb163)); have n9_ := Aside0.mk ((by rw [hg]; exact Nat.ne_of_lt (blk_lt (g := gb140) (o := .cells #[.string a0_0, .string a0_1, .slice A0_2 l0_2.length c0_2, .string a0_3] 66 (0, 0)) (by (with_reducible repeat (first | refine bN_ ?_ _ | refine bD_ ?_ | refine bA_ ?_ _)); exact BK140.out)) : gb140 ≠ gb163)); have n10_ := Aside0.mk ((by rw [hg]; exact Nat.ne_of_gt (blk_lt (g := gb140) (o := .cells #[.string a0_0, .string a0_1, .slice A0_2 l0_2.length c0_2, .string a0_3] 66 (0, 0)) (by (with_reducible repeat (first | refine bN_ ?_ _ | refine bD_ ?_ | refine bA_ ?_ _)); exact BK140.out)) : gb163 ≠ gb140)); have n11_ := Aside0.mk ((by rw [hg]; exact Nat.ne_of_lt (blk_lt (g := gb141) (o := .cells #[.string a1_0, .string a1_1, .slice A1_2 l1_2.length c1_2, .string a1_3] 66 (0, 0)) (by (with_reducible repeat (first | refine bN_ ?_ _ | refine bD_ ?_ | refine bA_ ?_ _)); exact BK141.out)) : gb141 ≠ gb163)); have n12_ := Aside0.mk ((by rw [hg]; exact Nat.ne_of_gt (blk_lt (g := gb141) (o := .cells #[.string a1_0, .string a1_1, .slice A1_2 l1_2.length c1_2, .string a1_3] 66 (0, 0)) (by (with_reducible repeat (first | refine bN_ ?_ _ | refine bD_ ?_ | refine bA_ ?_ _)); exact BK141.out)) : gb163 ≠ gb141)); clear HO148; clear HO154; clear HO161; clear BK140; clear BK141; clear HB; have HO148 := n0_; have HO154 := n1_; have HO161 := n2_; have BK140 := n3_; have BK141 := n4_; have HB := n5_; have BK163 := n6_; have GW163 := n7_; have GE163 := n8_; have NB140_163 := n9_; have NB163_140 := n10_; have NB141_163 := n11_; have NB163_141 := n12_; clear n0_ n1_ n2_ n3_ n4_ n5_ n6_ n7_ n8_ n9_ n10_ n11_ n12_; clear hb hbox hg; have hnb154 := NB163_140.out; have hnc154 := NB140_163.out; have hnb155 := NB163_141.out; have hnc155 := NB141_163.out; have hcz156_0 : w153.cell? ⟨gb163, 0, none⟩ = some (.string (⟨#[]⟩ : ByteArray)) := (bc_ BK163.out 0).trans rfl; have hcz156_1 : w153.cell? ⟨gb163, 1, none⟩ = some (.string (⟨#[]⟩ : ByteArray)) := (bc_ BK163.out 1).trans rfl; have hcz156_2 : w153.cell? ⟨gb163, 2, none⟩ = some (.slice none 0 0) := (bc_ BK163.out 2).trans rfl; have hcz156_3 : w153.cell? ⟨gb163, 3, none⟩ = some (.string (⟨#[]⟩ : ByteArray)) := (bc_ BK163.out 3).trans rfl; have hfz156_0 := bF_ BK163.out 0; have hfz156_1 := bF_ BK163.out 1; have hfz156_2 := bF_ BK163.out 2; have hfz156_3 := bF_ BK163.out 3; obtain ⟨Ao157, co157, eo157⟩ := Kd.R_slice HO161.out; subst eo157; have hcz158_0 : w153.cell? ⟨gb141, 0, none⟩ = some (.string a1_0) := (bc_ BK141.out 0).trans rfl; have hcz158_1 : w153.cell? ⟨gb141, 1, none⟩ = some (.string a1_1) := (bc_ BK141.out 1).trans rfl; have hcz158_2 : w153.cell? ⟨gb141, 2, none⟩ = some (.slice A1_2 l1_2.length c1_2) := (bc_ BK141.out 2).trans rfl; have hcz158_3 : w153.cell? ⟨gb141, 3, none⟩ = some (.string a1_3) := (bc_ BK141.out 3).trans rfl; have hfz158_0 := bF_ BK141.out 0; have hfz158_1 := bF_ BK141.out 1; have hfz158_2 := bF_ BK141.out 2; have hfz158_3 := bF_ BK141.out 3) | ((with_reducible refine gate_callee (f := 50) rfl ?_); refine goesL_ (some 28) rfl rfl Try.func50 (by kernel_rfl) rfl #[.agg #[.string a1_0, .string a1_1, .slice A1_2 l1_2.length c1_2, .string a1_3]] rfl (by (try simp only [List.map_toArray, List.map_cons, List.map_nil]); first | done | rfl | (simp only [List.length_drop, List.length_take]; rfl)) ?_; (with_reducible refine (laws_toReq.calls k a1_0 a1_1 _ _ l1_2 a1_3 t164 t165 t166 t169 _ ?side1 ?side2 A23.out).mono ?_); (case side1 => exact Kd.C_below HR1_2.out (by repeat (first | (with_reducible first | exact HB.out | apply aB_ | apply pN_ | apply dB_ | refine sB_ ?_ GE140.out | refine sB_ ?_ GE141.out | refine sB_ ?_ GE163.out) | exact HB.out))); (case side2 => exact HC1_2.out); rintro e w159 ⟨v167, rfl, ho0, hb⟩; refine ⟨_, rfl, ?_⟩; have n0_ := Aside0.mk (Kd.R_elder' (by (with_reducible repeat (first | apply rA_ | apply rN_ | apply rD_)); exact (Kd.R_mono (rF_ (p := ⟨gb163, 3, none⟩) (rF_ (p := ⟨gb163, 2, none⟩) (rF_ (p := ⟨gb163, 1, none⟩) (rF_ (p := ⟨gb163, 0, none⟩) (Kd.R_types HO148.out BK163.out (by decide)) (fun _ hk => hk.2) (.string t157)) (fun _ hk => hk.2) (.string t158)) (fun _ hk => hk.2) (.slice Ao157 t159.length co157)) (fun _ hk => hk.2) (.string t162)) (fun _ h_ => h_.1))) (Kd.R_base ho0) hb); have n1_ := Aside0.mk (Kd.R_elder' (by (with_reducible repeat (first | apply rA_ | apply rN_ | apply rD_)); exact (Kd.R_mono (rF_ (p := ⟨gb163, 3, none⟩) (rF_ (p := ⟨gb163, 2, none⟩) (rF_ (p := ⟨gb163, 1, none⟩) (rF_ (p := ⟨gb163, 0, none⟩) (Kd.R_types HO154.out BK163.out (by decide)) (fun _ hk => hk.2) (.string t157)) (fun _ hk => hk.2) (.string t158)) (fun _ hk => hk.2) (.slice Ao157 t159.length co157)) (fun _ hk => hk.2) (.string t162)) (fun _ h_ => h_.1))) (Kd.R_base ho0) hb); have n2_ := Aside0.mk (Kd.R_elder' (by (with_reducible repeat (first | apply rA_ | apply rN_ | apply rD_)); exact (Kd.R_mono (rF_ (p := ⟨gb163, 3, none⟩) (rF_ (p := ⟨gb163, 2, none⟩) (rF_ (p := ⟨gb163, 1, none⟩) (rF_ (p := ⟨gb163, 0, none⟩) (Kd.R_types HO161.out BK163.out (by decide)) (fun _ hk => hk.2) (.string t157)) (fun _ hk => hk.2) (.string t158)) (fun _ hk => hk.2) (.slice Ao157 t159.length co157)) (fun _ hk => hk.2) (.string t162)) (fun _ h_ => h_.1))) (Kd.R_base ho0) hb); have n3_ := Aside0.mk (Kd.R_lower (Kd.R_new' (Kd.R_new' (Kd.R_new' ho0 (Kd.R_lt (by (with_reducible repeat (first | apply rA_ | apply rN_ | apply rD_)); exact (Kd.R_mono (rF_ (p := ⟨gb163, 3, none⟩) (rF_ (p := ⟨gb163, 2, none⟩) (rF_ (p := ⟨gb163, 1, none⟩) (rF_ (p := ⟨gb163, 0, none⟩) (Kd.R_types HO148.out BK163.out (by decide)) (fun _ hk => hk.2) (.string t157)) (fun _ hk => hk.2) (.string t158)) (fun _ hk => hk.2) (.slice Ao157 t159.length co157)) (fun _ hk => hk.2) (.string t162)) (fun _ h_ => h_.1))))) (Kd.R_lt (by (with_reducible repeat (first | apply rA_ | apply rN_ | apply rD_)); exact (Kd.R_mono (rF_ (p := ⟨gb163, 3, none⟩) (rF_ (p := ⟨gb163, 2, none⟩) (rF_ (p := ⟨gb163, 1, none⟩) (rF_ (p := ⟨gb163, 0, none⟩) (Kd.R_types HO154.out BK163.out (by decide)) (fun _ hk => hk.2) (.string t157)) (fun _ hk => hk.2) (.string t158)) (fun _ hk => hk.2) (.slice Ao157 t159.length co157)) (fun _ hk => hk.2) (.string t162)) (fun _ h_ => h_.1))))) (Kd.R_lt (by (with_reducible repeat (first | apply rA_ | apply rN_ | apply rD_)); exact (Kd.R_mono (rF_ (p := ⟨gb163, 3, none⟩) (rF_ (p := ⟨gb163, 2, none⟩) (rF_ (p := ⟨gb163, 1, none⟩) (rF_ (p := ⟨gb163, 0, none⟩) (Kd.R_types HO161.out BK163.out (by decide)) (fun _ hk => hk.2) (.string t157)) (fun _ hk => hk.2) (.string t158)) (fun _ hk => hk.2) (.slice Ao157 t159.length co157)) (fun _ hk => hk.2) (.string t162)) (fun _ h_ => h_.1))))) (below_size (by repeat (first | (with_reducible first | exact HB.out | apply aB_ | apply pN_ | apply dB_ | refine sB_ ?_ GE140.out | refine sB_ ?_ GE141.out | refine sB_ ?_ GE163.out) | exact HB.out)))); have n4_ := Aside0.mk (bB_ (g := gb140) (o := .cells #[.string a0_0, .string a0_1, .slice A0_2 l0_2.length c0_2, .string a0_3] 66 (0, 0)) (by (with_reducible repeat (first | refine bN_ ?_ _ | refine bD_ ?_ | refine bA_ ?_ _)); refine blk_far ?_ NB140_163.out _; (with_reducible repeat (first | refine bN_ ?_ _ | refine bD_ ?_ | refine bA_ ?_ _)); refine blk_far ?_ NB140_163.out _; (with_reducible repeat (first | refine bN_ ?_ _ | refine bD_ ?_ | refine bA_ ?_ _)); refine blk_far ?_ NB140_163.out _; (with_reducible repeat (first | refine bN_ ?_ _ | refine bD_ ?_ | refine bA_ ?_ _)); refine blk_far ?_ NB140_163.out _; (with_reducible repeat (first | refine bN_ ?_ _ | refine bD_ ?_ | refine bA_ ?_ _)); exact BK140.out) hb); have n5_ := Aside0.mk (bB_ (g := gb141) (o := .cells #[.string a1_0, .string a1_1, .slice A1_2 l1_2.length c1_2, .string a1_3] 66 (0, 0)) (by (with_reducible repeat (first | refine bN_ ?_ _ | refine bD_ ?_ | refine bA_ ?_ _)); refine blk_far ?_ NB141_163.out _; (with_reducible repeat (first | refine bN_ ?_ _ | refine bD_ ?_ | refine bA_ ?_ _)); refine blk_far ?_ NB141_163.out _; (with_reducible repeat (first | refine bN_ ?_ _ | refine bD_ ?_ | refine bA_ ?_ _)); refine blk_far ?_ NB141_163.out _; (with_reducible repeat (first | refine bN_ ?_ _ | refine bD_ ?_ | refine bA_ ?_ _)); refine blk_far ?_ NB141_163.out _; (with_reducible repeat (first | refine bN_ ?_ _ | refine bD_ ?_ | refine bA_ ?_ _)); exact BK141.out) hb); have n6_ := Aside0.mk (bB_ (g := gb163) (o := .cells #[.string t157, .string t158, .slice Ao157 t159.length co157, .string t162] 70 (0, 0)) (by (with_reducible repeat (first | refine bN_ ?_ _ | refine bD_ ?_ | refine bA_ ?_ _)); refine blk_put (cs := #[.string t157, .string t158, .slice Ao157 t159.length co157, .string (⟨#[]⟩ : ByteArray)]) ?_ 3 _ rfl; (with_reducible repeat (first | refine bN_ ?_ _ | refine bD_ ?_ | refine bA_ ?_ _)); refine blk_put (cs := #[.string t157, .string t158, .slice none 0 0, .string (⟨#[]⟩ : ByteArray)]) ?_ 2 _ rfl; (with_reducible repeat (first | refine bN_ ?_ _ | refine bD_ ?_ | refine bA_ ?_ _)); refine blk_put (cs := #[.string t157, .string (⟨#[]⟩ : ByteArray), .slice none 0 0, .string (⟨#[]⟩ : ByteArray)]) ?_ 1 _ rfl; (with_reducible repeat (first | refine bN_ ?_ _ | refine bD_ ?_ | refine bA_ ?_ _)); refine blk_put (cs := #[.string (⟨#[]⟩ : ByteArray), .string (⟨#[]⟩ : ByteArray), .slice none 0 0, .string (⟨#[]⟩ : ByteArray)]) ?_ 0 _ rfl; (with_reducible repeat (first | refine bN_ ?_ _ | refine bD_ ?_ | refine bA_ ?_ _)); exact BK163.out) hb); have n7_ := Aside0.mk (below_step (by repeat (first | (with_reducible first | exact HB.out | apply aB_ | apply pN_ | apply dB_ | refine sB_ ?_ GE140.out | refine sB_ ?_ GE141.out | refine sB_ ?_ GE163.out) | exact HB.out)) hb); clear HO148; clear HO154; clear HO161; clear BK140; clear BK141; clear BK163; clear HB; have HO148 := n0_; have HO154 := n1_; have HO161 := n2_; have HO168 := n3_; have BK140 := n4_; have BK141 := n5_; have BK163 := n6_; have HB := n7_; clear n0_ n1_ n2_ n3_ n4_ n5_ n6_ n7_; (try clear hb); (try clear hb2); (try clear hk); (try clear hi); (try clear ho0)) | ((with_reducible refine gate_dst (N := 8) rfl ?_); refine box_event ?hg (N := 8) ?hd (cs := #[.string (⟨#[]⟩ : ByteArray), .string (⟨#[]⟩ : ByteArray), .slice none 0 0, .string (⟨#[]⟩ : ByteArray)]) (t := 70) ?hr ?_; (case hd => rfl); (case hg => rfl); (case hr => first | (go_simp; done) | (go_simp; rfl)); intro gb170 hg w160 hbox hb; have n0_ := Aside0.mk (Kd.R_below (by (with_reducible repeat (first | apply rA_ | apply rN_ | apply rD_)); exact HO148.out) hb); have n1_ := Aside0.mk (Kd.R_below (by (with_reducible repeat (first | apply rA_ | apply rN_ | apply rD_)); exact HO154.out) hb); have n2_ := Aside0.mk (Kd.R_below (by (with_reducible repeat (first | apply rA_ | apply rN_ | apply rD_)); exact HO161.out) hb); have n3_ := Aside0.mk (Kd.R_below (by (with_reducible repeat (first | apply rA_ | apply rN_ | apply rD_)); exact HO168.out) hb); have n4_ := Aside0.mk (bB_ (g := gb140) (o := .cells #[.string a0_0, .string a0_1, .slice A0_2 l0_2.length c0_2, .string a0_3] 66 (0, 0)) (by (with_reducible repeat (first | refine bN_ ?_ _ | refine bD_ ?_ | refine bA_ ?_ _)); exact BK140.out) hb); have n5_ := Aside0.mk (bB_ (g := gb141) (o := .cells #[.string a1_0, .string a1_1, .slice A1_2 l1_2.length c1_2, .string a1_3] 66 (0, 0)) (by (with_reducible repeat (first | refine bN_ ?_ _ | refine bD_ ?_ | refine bA_ ?_ _)); exact BK141.out) hb); have n6_ := Aside0.mk (bB_ (g := gb163) (o := .cells #[.string t157, .string t158, .slice Ao157 t159.length co157, .string t162] 70 (0, 0)) (by (with_reducible repeat (first | refine bN_ ?_ _ | refine bD_ ?_ | refine bA_ ?_ _)); exact BK163.out) hb); have n7_ := Aside0.mk (below_step (by repeat (first | (with_reducible first | exact HB.out | apply aB_ | apply pN_ | apply dB_ | refine sB_ ?_ GE140.out | refine sB_ ?_ GE141.out | refine sB_ ?_ GE163.out) | exact HB.out)) hb); have n8_ := Aside0.mk (hbox); have n9_ := Aside0.mk ((by rw [hg]; exact (below_size (by repeat (first | (with_reducible first | exact HB.out | apply aB_ | apply pN_ | apply dB_ | refine sB_ ?_ GE140.out | refine sB_ ?_ GE141.out | refine sB_ ?_ GE163.out) | exact HB.out))) : w.heap.size ≤ gb170)); have n10_ := Aside0.mk ((by rw [hg]; exact (below_size (by repeat (first | (with_reducible first | exact HB.out | apply aB_ | apply pN_ | apply dB_ | refine sB_ ?_ GE140.out | refine sB_ ?_ GE141.out | refine sB_ ?_ GE163.out) | exact HB.out))) : w.heap.size ≤ gb170)); have n11_ := Aside0.mk ((by rw [hg]; exact Nat.ne_of_lt (blk_lt (g := gb140) (o := .cells #[.string a0_0, .string a0_1, .slice A0_2 l0_2.length c0_2, .string a0_3] 66 (0, 0)) (by (with_reducible repeat (first | refine bN_ ?_ _ | refine bD_ ?_ | refine bA_ ?_ _)); exact BK140.out)) : gb140 ≠ gb170)); have n12_ := Aside0.mk ((by rw [hg]; exact Nat.ne_of_gt (blk_lt (g := gb140) (o := .cells #[.string a0_0, .string a0_1, .slice A0_2 l0_2.length c0_2, .string a0_3] 66 (0, 0)) (by (with_reducible repeat (first | refine bN_ ?_ _ | refine bD_ ?_ | refine bA_ ?_ _)); exact BK140.out)) : gb170 ≠ gb140)); have n13_ := Aside0.mk ((by rw [hg]; exact Nat.ne_of_lt (blk_lt (g := gb141) (o := .cells #[.string a1_0, .string a1_1, .slice A1_2 l1_2.length c1_2, .string a1_3] 66 (0, 0)) (by (with_reducible repeat (first | refine bN_ ?_ _ | refine bD_ ?_ | refine bA_ ?_ _)); exact BK141.out)) : gb141 ≠ gb170)); have n14_ := Aside0.mk ((by rw [hg]; exact Nat.ne_of_gt (blk_lt (g := gb141) (o := .cells #[.string a1_0, .string a1_1, .slice A1_2 l1_2.length c1_2, .string a1_3] 66 (0, 0)) (by (with_reducible repeat (first | refine bN_ ?_ _ | refine bD_ ?_ | refine bA_ ?_ _)); exact BK141.out)) : gb170 ≠ gb141)); have n15_ := Aside0.mk ((by rw [hg]; exact Nat.ne_of_lt (blk_lt (g := gb163) (o := .cells #[.string t157, .string t158, .slice Ao157 t159.length co157, .string t162] 70 (0, 0)) (by (with_reducible repeat (first | refine bN_ ?_ _ | refine bD_ ?_ | refine bA_ ?_ _)); exact BK163.out)) : gb163 ≠ gb170)); have n16_ := Aside0.mk ((by rw [hg]; exact Nat.ne_of_gt (blk_lt (g := gb163) (o := .cells #[.string t157, .string t158, .slice Ao157 t159.length co157, .string t162] 70 (0, 0)) (by (with_reducible repeat (first | refine bN_ ?_ _ | refine bD_ ?_ | refine bA_ ?_ _)); exact BK163.out)) : gb170 ≠ gb163)); clear HO148; clear HO154; clear HO161; clear HO168; clear BK140; clear BK141; clear BK163; clear HB; have HO148 := n0_; have HO154 := n1_; have HO161 := n2_; have HO168 := n3_; have BK140 := n4_; have BK141 := n5_; have BK163 := n6_; have HB := n7_; have BK170 := n8_; have GW170 := n9_; have GE170 := n10_; have NB140_170 := n11_; have NB170_140 := n12_; have NB141_170 := n13_; have NB170_141 := n14_; have NB163_170 := n15_; have NB170_163 := n16_; clear n0_ n1_ n2_ n3_ n4_ n5_ n6_ n7_ n8_ n9_ n10_ n11_ n12_ n13_ n14_ n15_ n16_; clear hb hbox hg; have hnb161 := NB170_140.out; have hnc161 := NB140_170.out; have hnb162 := NB170_141.out; have hnc162 := NB141_170.out; have hnb163 := NB170_163.out; have hnc163 := NB163_170.out; have hcz164_0 : w160.cell? ⟨gb170, 0, none⟩ = some (.string (⟨#[]⟩ : ByteArray)) := (bc_ BK170.out 0).trans rfl; have hcz164_1 : w160.cell? ⟨gb170, 1, none⟩ = some (.string (⟨#[]⟩ : ByteArray)) := (bc_ BK170.out 1).trans rfl; have hcz164_2 : w160.cell? ⟨gb170, 2, none⟩ = some (.slice none 0 0) := (bc_ BK170.out 2).trans rfl; have hcz164_3 : w160.cell? ⟨gb170, 3, none⟩ = some (.string (⟨#[]⟩ : ByteArray)) := (bc_ BK170.out 3).trans rfl; have hfz164_0 := bF_ BK170.out 0; have hfz164_1 := bF_ BK170.out 1; have hfz164_2 := bF_ BK170.out 2; have hfz164_3 := bF_ BK170.out 3; obtain ⟨Ao165, co165, eo165⟩ := Kd.R_slice HO168.out; subst eo165; have hcz166_0 : w160.cell? ⟨gb163, 0, none⟩ = some (.string t157) := (bc_ BK163.out 0).trans rfl; have hcz166_1 : w160.cell? ⟨gb163, 1, none⟩ = some (.string t158) := (bc_ BK163.out 1).trans rfl; have hcz166_2 : w160.cell? ⟨gb163, 2, none⟩ = some (.slice Ao157 t159.length co157) := (bc_ BK163.out 2).trans rfl; have hcz166_3 : w160.cell? ⟨gb163, 3, none⟩ = some (.string t162) := (bc_ BK163.out 3).trans rfl; have hfz166_0 := bF_ BK163.out 0; have hfz166_1 := bF_ BK163.out 1; have hfz166_2 := bF_ BK163.out 2; have hfz166_3 := bF_ BK163.out 3) | ((with_reducible refine gate_callee (f := 51) rfl ?_); refine goesL_ (some 31) rfl rfl Try.func51 (by kernel_rfl) rfl #[.agg #[.string t157, .string t158, .slice Ao157 t159.length co157, .string t162], .agg #[.string t164, .string t165, .slice Ao165 t166.length co165, .string t169]] rfl (by (try simp only [List.map_toArray, List.map_cons, List.map_nil]); first | done | rfl | (simp only [List.length_drop, List.length_take]; rfl)) ?_; (with_reducible refine (impl_SameReq.calls k t157 t158 _ _ t159 t162 t164 t165 _ _ t166 t169 t171 _ ?side1 ?side2 ?side3 ?side4 A24.out).mono ?_); (case side1 => refine (Kd.R_reads' (e := 81) (base := w.heap.size) (ok := fun k_ => (((True ∧ some k_ ≠ (.slice Ao148 t146.length co148 : Value).ownBlock) ∧ some k_ ≠ (.slice Ao149 t152.length co149 : Value).ownBlock) ∧ some k_ ≠ (.slice Ao165 t166.length co165 : Value).ownBlock)) (n := t159.length) (c := co157) ?_).2.2; exact (by (with_reducible repeat (first | apply rA_ | apply rN_ | apply rD_)); exact (Kd.R_mono (rF_ (p := ⟨gb170, 3, none⟩) (rF_ (p := ⟨gb170, 2, none⟩) (rF_ (p := ⟨gb170, 1, none⟩) (rF_ (p := ⟨gb170, 0, none⟩) (Kd.R_types HO161.out BK170.out (by decide)) (fun _ hk => hk.2) (.string t164)) (fun _ hk => hk.2) (.string t165)) (fun _ hk => hk.2) (.slice Ao165 t166.length co165)) (fun _ hk => hk.2) (.string t169)) (fun _ h_ => h_.1)))); (case side2 => exact (Kd.R_reads' HO161.out).2.1); (case side3 => refine (Kd.R_reads' (e := 81) (base := w.heap.size) (ok := fun k_ => (((True ∧ some k_ ≠ (.slice Ao148 t146.length co148 : Value).ownBlock) ∧ some k_ ≠ (.slice Ao149 t152.length co149 : Value).ownBlock) ∧ some k_ ≠ (.slice Ao157 t159.length co157 : Value).ownBlock)) (n := t166.length) (c := co165) ?_).2.2; exact (by (with_reducible repeat (first | apply rA_ | apply rN_ | apply rD_)); exact (Kd.R_mono (rF_ (p := ⟨gb170, 3, none⟩) (rF_ (p := ⟨gb170, 2, none⟩) (rF_ (p := ⟨gb170, 1, none⟩) (rF_ (p := ⟨gb170, 0, none⟩) (Kd.R_types HO168.out BK170.out (by decide)) (fun _ hk => hk.2) (.string t164)) (fun _ hk => hk.2) (.string t165)) (fun _ hk => hk.2) (.slice Ao165 t166.length co165)) (fun _ hk => hk.2) (.string t169)) (fun _ h_ => h_.1)))); (case side4 => exact (Kd.R_reads' HO168.out).2.1); rintro e w167 ⟨rfl, hb⟩; refine ⟨_, rfl, ?_⟩; have n0_ := Aside0.mk (Kd.R_below (by (with_reducible repeat (first | apply rA_ | apply rN_ | apply rD_)); exact (Kd.R_mono (rF_ (p := ⟨gb170, 3, none⟩) (rF_ (p := ⟨gb170, 2, none⟩) (rF_ (p := ⟨gb170, 1, none⟩) (rF_ (p := ⟨gb170, 0, none⟩) (Kd.R_types HO148.out BK170.out (by decide)) (fun _ hk => hk.2) (.string t164)) (fun _ hk => hk.2) (.string t165)) (fun _ hk => hk.2) (.slice Ao165 t166.length co165)) (fun _ hk => hk.2) (.string t169)) (fun _ h_ => h_.1))) hb); have n1_ := Aside0.mk (Kd.R_below (by (with_reducible repeat (first | apply rA_ | apply rN_ | apply rD_)); exact (Kd.R_mono (rF_ (p := ⟨gb170, 3, none⟩) (rF_ (p := ⟨gb170, 2, none⟩) (rF_ (p := ⟨gb170, 1, none⟩) (rF_ (p := ⟨gb170, 0, none⟩) (Kd.R_types HO154.out BK170.out (by decide)) (fun _ hk => hk.2) (.string t164)) (fun _ hk => hk.2) (.string t165)) (fun _ hk => hk.2) (.slice Ao165 t166.length co165)) (fun _ hk => hk.2) (.string t169)) (fun _ h_ => h_.1))) hb); have n2_ := Aside0.mk (Kd.R_below (by (with_reducible repeat (first | apply rA_ | apply rN_ | apply rD_)); exact (Kd.R_mono (rF_ (p := ⟨gb170, 3, none⟩) (rF_ (p := ⟨gb170, 2, none⟩) (rF_ (p := ⟨gb170, 1, none⟩) (rF_ (p := ⟨gb170, 0, none⟩) (Kd.R_types HO161.out BK170.out (by decide)) (fun _ hk => hk.2) (.string t164)) (fun _ hk => hk.2) (.string t165)) (fun _ hk => hk.2) (.slice Ao165 t166.length co165)) (fun _ hk => hk.2) (.string t169)) (fun _ h_ => h_.1))) hb); have n3_ := Aside0.mk (Kd.R_below (by (with_reducible repeat (first | apply rA_ | apply rN_ | apply rD_)); exact (Kd.R_mono (rF_ (p := ⟨gb170, 3, none⟩) (rF_ (p := ⟨gb170, 2, none⟩) (rF_ (p := ⟨gb170, 1, none⟩) (rF_ (p := ⟨gb170, 0, none⟩) (Kd.R_types HO168.out BK170.out (by decide)) (fun _ hk => hk.2) (.string t164)) (fun _ hk => hk.2) (.string t165)) (fun _ hk => hk.2) (.slice Ao165 t166.length co165)) (fun _ hk => hk.2) (.string t169)) (fun _ h_ => h_.1))) hb); have n4_ := Aside0.mk (bB_ (g := gb140) (o := .cells #[.string a0_0, .string a0_1, .slice A0_2 l0_2.length c0_2, .string a0_3] 66 (0, 0)) (by (with_reducible repeat (first | refine bN_ ?_ _ | refine bD_ ?_ | refine bA_ ?_ _)); refine blk_far ?_ NB140_170.out _; (with_reducible repeat (first | refine bN_ ?_ _ | refine bD_ ?_ | refine bA_ ?_ _)); refine blk_far ?_ NB140_170.out _; (with_reducible repeat (first | refine bN_ ?_ _ | refine bD_ ?_ | refine bA_ ?_ _)); refine blk_far ?_ NB140_170.out _; (with_reducible repeat (first | refine bN_ ?_ _ | refine bD_ ?_ | refine bA_ ?_ _)); refine blk_far ?_ NB140_170.out _; (with_reducible repeat (first | refine bN_ ?_ _ | refine bD_ ?_ | refine bA_ ?_ _)); exact BK140.out) hb); have n5_ := Aside0.mk (bB_ (g := gb141) (o := .cells #[.string a1_0, .string a1_1, .slice A1_2 l1_2.length c1_2, .string a1_3] 66 (0, 0)) (by (with_reducible repeat (first | refine bN_ ?_ _ | refine bD_ ?_ | refine bA_ ?_ _)); refine blk_far ?_ NB141_170.out _; (with_reducible repeat (first | refine bN_ ?_ _ | refine bD_ ?_ | refine bA_ ?_ _)); refine blk_far ?_ NB141_170.out _; (with_reducible repeat (first | refine bN_ ?_ _ | refine bD_ ?_ | refine bA_ ?_ _)); refine blk_far ?_ NB141_170.out _; (with_reducible repeat (first | refine bN_ ?_ _ | refine bD_ ?_ | refine bA_ ?_ _)); refine blk_far ?_ NB141_170.out _; (with_reducible repeat (first | refine bN_ ?_ _ | refine bD_ ?_ | refine bA_ ?_ _)); exact BK141.out) hb); have n6_ := Aside0.mk (bB_ (g := gb163) (o := .cells #[.string t157, .string t158, .slice Ao157 t159.length co157, .string t162] 70 (0, 0)) (by (with_reducible repeat (first | refine bN_ ?_ _ | refine bD_ ?_ | refine bA_ ?_ _)); refine blk_far ?_ NB163_170.out _; (with_reducible repeat (first | refine bN_ ?_ _ | refine bD_ ?_ | refine bA_ ?_ _)); refine blk_far ?_ NB163_170.out _; (with_reducible repeat (first | refine bN_ ?_ _ | refine bD_ ?_ | refine bA_ ?_ _)); refine blk_far ?_ NB163_170.out _; (with_reducible repeat (first | refine bN_ ?_ _ | refine bD_ ?_ | refine bA_ ?_ _)); refine blk_far ?_ NB163_170.out _; (with_reducible repeat (first | refine bN_ ?_ _ | refine bD_ ?_ | refine bA_ ?_ _)); exact BK163.out) hb); have n7_ := Aside0.mk (bB_ (g := gb170) (o := .cells #[.string t164, .string t165, .slice Ao165 t166.length co165, .string t169] 70 (0, 0)) (by (with_reducible repeat (first | refine bN_ ?_ _ | refine bD_ ?_ | refine bA_ ?_ _)); refine blk_put (cs := #[.string t164, .string t165, .slice Ao165 t166.length co165, .string (⟨#[]⟩ : ByteArray)]) ?_ 3 _ rfl; (with_reducible repeat (first | refine bN_ ?_ _ | refine bD_ ?_ | refine bA_ ?_ _)); refine blk_put (cs := #[.string t164, .string t165, .slice none 0 0, .string (⟨#[]⟩ : ByteArray)]) ?_ 2 _ rfl; (with_reducible repeat (first | refine bN_ ?_ _ | refine bD_ ?_ | refine bA_ ?_ _)); refine blk_put (cs := #[.string t164, .string (⟨#[]⟩ : ByteArray), .slice none 0 0, .string (⟨#[]⟩ : ByteArray)]) ?_ 1 _ rfl; (with_reducible repeat (first | refine bN_ ?_ _ | refine bD_ ?_ | refine bA_ ?_ _)); refine blk_put (cs := #[.string (⟨#[]⟩ : ByteArray), .string (⟨#[]⟩ : ByteArray), .slice none 0 0, .string (⟨#[]⟩ : ByteArray)]) ?_ 0 _ rfl; (with_reducible repeat (first | refine bN_ ?_ _ | refine bD_ ?_ | refine bA_ ?_ _)); exact BK170.out) hb); have n8_ := Aside0.mk (below_step (by repeat (first | (with_reducible first | exact HB.out | apply aB_ | apply pN_ | apply dB_ | refine sB_ ?_ GE140.out | refine sB_ ?_ GE141.out | refine sB_ ?_ GE163.out | refine sB_ ?_ GE170.out) | exact HB.out)) hb); clear HO148; clear HO154; clear HO161; clear HO168; clear BK140; clear BK141; clear BK163; clear BK170; clear HB; have HO148 := n0_; have HO154 := n1_; have HO161 := n2_; have HO168 := n3_; have BK140 := n4_; have BK141 := n5_; have BK163 := n6_; have BK170 := n7_; have HB := n8_; clear n0_ n1_ n2_ n3_ n4_ n5_ n6_ n7_ n8_; (try clear hb); (try clear hb2); (try clear hk); (try clear hi)))
          have n0_ := Aside0.mk (rD_ HO148.out)
          have n1_ := Aside0.mk (rD_ HO154.out)
          have n2_ := Aside0.mk (rD_ HO161.out)
          have n3_ := Aside0.mk (rD_ HO168.out)
          have n4_ := Aside0.mk (bD_ BK140.out)
          have n5_ := Aside0.mk (bD_ BK141.out)
          have n6_ := Aside0.mk (bD_ BK163.out)
          have n7_ := Aside0.mk (bD_ BK170.out)
          have n8_ := Aside0.mk (dB_ HB.out)
          clear HO148
          clear HO154
          clear HO161
          clear HO168
          clear BK140
          clear BK141
          clear BK163
          clear BK170
          clear HB
          have HO148 := n0_
          have HO154 := n1_
          have HO161 := n2_
          have HO168 := n3_
          have BK140 := n4_
          have BK141 := n5_
          have BK163 := n6_
          have BK170 := n7_
          have HB := n8_
          clear n0_ n1_ n2_ n3_ n4_ n5_ n6_ n7_ n8_
          refine start_ (n := 5) (S := fun w' => w'.cell? ⟨gb163, 0, none⟩ = some (.string t157) ∧ w'.cell? ⟨gb163, 1, none⟩ = some (.string t158) ∧ w'.cell? ⟨gb163, 2, none⟩ = some (.slice Ao157 t159.length co157) ∧ w'.cell? ⟨gb163, 3, none⟩ = some (.string t162) ∧ w'.cell? ⟨gb140, 0, none⟩ = some (.string a0_0) ∧ w'.cell? ⟨gb140, 1, none⟩ = some (.string a0_1) ∧ w'.cell? ⟨gb140, 2, none⟩ = some (.slice A0_2 l0_2.length c0_2) ∧ w'.cell? ⟨gb140, 3, none⟩ = some (.string a0_3)) (ds := []) #[false, false, false, false, false] (by kernel_rfl) rfl rfl ⟨(bc_ BK163.out 0).trans rfl, (bc_ BK163.out 1).trans rfl, (bc_ BK163.out 2).trans rfl, (bc_ BK163.out 3).trans rfl, (bc_ BK140.out 0).trans rfl, (bc_ BK140.out 1).trans rfl, (bc_ BK140.out 2).trans rfl, (bc_ BK140.out 3).trans rfl⟩ (fun hHeld => ?_)
          generalize w167.drew = w168 at HO148 HO154 HO161 HO168 BK140 BK141 BK163 BK170 HB hHeld ⊢
          refine take_ (i := 0) (N := some 35) (v := ?_) (a' := ?_) #[true, false, false, false, false] rfl rfl (by kernel_rfl) (fun _ _ _ h => h) (Or.inl ⟨by rfl, ?_⟩) hHeld ?_ ?_
          rotate_left
          · rintro w' ⟨s0, s1, s2, s3, s4, s5, s6, s7⟩
            go_simp
            with_reducible rfl
          rotate_left
          · simp only [Act.put, List.setIfInBounds_toArray, List.set_cons_zero, List.set_cons_succ, i64_w, i32_w]
            rfl
          refine take_ (i := 1) (N := some 36) (v := ?_) (a' := ?_) #[true, true, false, false, false] rfl rfl (by kernel_rfl) (fun _ _ _ h => h) (Or.inl ⟨by rfl, ?_⟩) hHeld ?_ ?_
          rotate_left
          · rintro w' ⟨s0, s1, s2, s3, s4, s5, s6, s7⟩
            go_simp
            with_reducible rfl
          rotate_left
          · simp only [Act.put, List.setIfInBounds_toArray, List.set_cons_zero, List.set_cons_succ, i64_w, i32_w]
            rfl
          refine one_ (i := 2) (N := some 37) #[true, true, true, false, false] rfl rfl (by kernel_rfl) (by decide) (fun K hK => ?_)
          refine goes_ Try.func50 (by kernel_rfl) rfl #[.agg #[.string a0_0, .string a0_1, .slice A0_2 l0_2.length c0_2, .string a0_3]] (by rfl) rfl rfl (by (try simp only [List.map_toArray, List.map_cons, List.map_nil]); first | done | rfl | (simp only [List.length_drop, List.length_take]; rfl)) ?_
          with_reducible refine (laws_toReq.calls k a0_0 a0_1 _ _ l0_2 a0_3 t172 t173 t174 t177 _ ?side1 ?side2 A56.out).mono ?_
          (case side1 => repeat (first | exact (Kd.C_below HR0_2.out HB.out) | (with_reducible refine Kd.C_alloc ?_ _) | (with_reducible refine Kd.C_drewN ?_ _) | (with_reducible refine Kd.C_drew ?_)))
          (case side2 => exact HC0_2.out)
          rintro e w169 ⟨v175, rfl, ho0, hb⟩
          refine ⟨_, rfl, ?_⟩
          have n0_ := Aside0.mk (Kd.R_elder' (by (with_reducible repeat (first | apply rA_ | apply rN_ | apply rD_)); exact HO148.out) (Kd.R_base ho0) hb)
          have n1_ := Aside0.mk (Kd.R_elder' (by (with_reducible repeat (first | apply rA_ | apply rN_ | apply rD_)); exact HO154.out) (Kd.R_base ho0) hb)
          have n2_ := Aside0.mk (Kd.R_elder' (by (with_reducible repeat (first | apply rA_ | apply rN_ | apply rD_)); exact HO161.out) (Kd.R_base ho0) hb)
          have n3_ := Aside0.mk (Kd.R_elder' (by (with_reducible repeat (first | apply rA_ | apply rN_ | apply rD_)); exact HO168.out) (Kd.R_base ho0) hb)
          have n4_ := Aside0.mk (Kd.R_lower (Kd.R_new' (Kd.R_new' (Kd.R_new' (Kd.R_new' ho0 (Kd.R_lt (by (with_reducible repeat (first | apply rA_ | apply rN_ | apply rD_)); exact HO148.out))) (Kd.R_lt (by (with_reducible repeat (first | apply rA_ | apply rN_ | apply rD_)); exact HO154.out))) (Kd.R_lt (by (with_reducible repeat (first | apply rA_ | apply rN_ | apply rD_)); exact HO161.out))) (Kd.R_lt (by (with_reducible repeat (first | apply rA_ | apply rN_ | apply rD_)); exact HO168.out))) (below_size (by repeat (first | (with_reducible first | exact HB.out | apply aB_ | apply pN_ | apply dB_ | refine sB_ ?_ GE140.out | refine sB_ ?_ GE141.out | refine sB_ ?_ GE163.out | refine sB_ ?_ GE170.out) | exact HB.out))))
          have n5_ := Aside0.mk (bB_ (g := gb140) (o := .cells #[.string a0_0, .string a0_1, .slice A0_2 l0_2.length c0_2, .string a0_3] 66 (0, 0)) (by (with_reducible repeat (first | refine bN_ ?_ _ | refine bD_ ?_ | refine bA_ ?_ _)); exact BK140.out) hb)
          have n6_ := Aside0.mk (bB_ (g := gb141) (o := .cells #[.string a1_0, .string a1_1, .slice A1_2 l1_2.length c1_2, .string a1_3] 66 (0, 0)) (by (with_reducible repeat (first | refine bN_ ?_ _ | refine bD_ ?_ | refine bA_ ?_ _)); exact BK141.out) hb)
          have n7_ := Aside0.mk (bB_ (g := gb163) (o := .cells #[.string t157, .string t158, .slice Ao157 t159.length co157, .string t162] 70 (0, 0)) (by (with_reducible repeat (first | refine bN_ ?_ _ | refine bD_ ?_ | refine bA_ ?_ _)); exact BK163.out) hb)
          have n8_ := Aside0.mk (bB_ (g := gb170) (o := .cells #[.string t164, .string t165, .slice Ao165 t166.length co165, .string t169] 70 (0, 0)) (by (with_reducible repeat (first | refine bN_ ?_ _ | refine bD_ ?_ | refine bA_ ?_ _)); exact BK170.out) hb)
          have n9_ := Aside0.mk (below_step (by repeat (first | (with_reducible first | exact HB.out | apply aB_ | apply pN_ | apply dB_ | refine sB_ ?_ GE140.out | refine sB_ ?_ GE141.out | refine sB_ ?_ GE163.out | refine sB_ ?_ GE170.out) | exact HB.out)) hb)
          clear HO148
          clear HO154
          clear HO161
          clear HO168
          clear BK140
          clear BK141
          clear BK163
          clear BK170
          clear HB
          have HO148 := n0_
          have HO154 := n1_
          have HO161 := n2_
          have HO168 := n3_
          have HO176 := n4_
          have BK140 := n5_
          have BK141 := n6_
          have BK163 := n7_
          have BK170 := n8_
          have HB := n9_
          clear n0_ n1_ n2_ n3_ n4_ n5_ n6_ n7_ n8_ n9_
          (try clear hb)
          (try clear hb2)
          (try clear hk)
          (try clear hi)
          (try clear ho0)
          obtain ⟨Ao170, co170, eo170⟩ := Kd.R_slice HO176.out
          (first | subst eo170 | (injection eo170 with f1_ f2_ f3_; have f4_ := f1_.symm; have f5_ := f3_.symm; clear f1_ f2_ f3_; subst f4_; subst f5_))
          refine hK.out _ _ ⟨(bc_ BK163.out 0).trans rfl, (bc_ BK163.out 1).trans rfl, (bc_ BK163.out 2).trans rfl, (bc_ BK163.out 3).trans rfl, (bc_ BK140.out 0).trans rfl, (bc_ BK140.out 1).trans rfl, (bc_ BK140.out 2).trans rfl, (bc_ BK140.out 3).trans rfl⟩ (fun hHeld => ?_)
          clear hK K
          refine norm_ (a' := ?_) ?_ ?_
          rotate_left
          · show Act.put _ (some 37) _ = _
            simp only [Act.put, List.setIfInBounds_toArray, List.set_cons_zero, List.set_cons_succ, i64_w, i32_w]
            rfl
          refine one_ (i := 3) (N := some 38) #[true, true, true, true, false] rfl rfl (by kernel_rfl) (by decide) (fun K hK => ?_)
          refine goes_ Try.func52 (by kernel_rfl) rfl #[.agg #[.string t157, .string t158, .slice Ao157 t159.length co157, .string t162], .agg #[.string t172, .string t173, .slice Ao170 t174.length co170, .string t177]] (by rfl) rfl rfl (by (try simp only [List.map_toArray, List.map_cons, List.map_nil]); first | done | rfl | (simp only [List.length_drop, List.length_take]; rfl)) ?_
          with_reducible refine (laws_eqReq.calls k t157 t158 _ _ t159 t162 t172 t173 _ _ t174 t177 false _ ?side1 ?side2 ?side3 ?side4 A57.out).mono ?_
          (case side1 => repeat (first | exact (Kd.R_reads' HO161.out).2.2 | (with_reducible refine Kd.C_alloc ?_ _) | (with_reducible refine Kd.C_drewN ?_ _) | (with_reducible refine Kd.C_drew ?_)))
          (case side2 => exact (Kd.R_reads' HO161.out).2.1)
          (case side3 => repeat (first | exact (Kd.R_reads' HO176.out).2.2 | (with_reducible refine Kd.C_alloc ?_ _) | (with_reducible refine Kd.C_drewN ?_ _) | (with_reducible refine Kd.C_drew ?_)))
          (case side4 => exact (Kd.R_reads' HO176.out).2.1)
          rintro e w171 ⟨rfl, hb⟩
          refine ⟨_, rfl, ?_⟩
          have n0_ := Aside0.mk (Kd.R_below (by (with_reducible repeat (first | apply rA_ | apply rN_ | apply rD_)); exact HO148.out) hb)
          have n1_ := Aside0.mk (Kd.R_below (by (with_reducible repeat (first | apply rA_ | apply rN_ | apply rD_)); exact HO154.out) hb)
          have n2_ := Aside0.mk (Kd.R_below (by (with_reducible repeat (first | apply rA_ | apply rN_ | apply rD_)); exact HO161.out) hb)
          have n3_ := Aside0.mk (Kd.R_below (by (with_reducible repeat (first | apply rA_ | apply rN_ | apply rD_)); exact HO168.out) hb)
          have n4_ := Aside0.mk (Kd.R_below (by (with_reducible repeat (first | apply rA_ | apply rN_ | apply rD_)); exact HO176.out) hb)
          have n5_ := Aside0.mk (bB_ (g := gb140) (o := .cells #[.string a0_0, .string a0_1, .slice A0_2 l0_2.length c0_2, .string a0_3] 66 (0, 0)) (by (with_reducible repeat (first | refine bN_ ?_ _ | refine bD_ ?_ | refine bA_ ?_ _)); exact BK140.out) hb)
          have n6_ := Aside0.mk (bB_ (g := gb141) (o := .cells #[.string a1_0, .string a1_1, .slice A1_2 l1_2.length c1_2, .string a1_3] 66 (0, 0)) (by (with_reducible repeat (first | refine bN_ ?_ _ | refine bD_ ?_ | refine bA_ ?_ _)); exact BK141.out) hb)
          have n7_ := Aside0.mk (bB_ (g := gb163) (o := .cells #[.string t157, .string t158, .slice Ao157 t159.length co157, .string t162] 70 (0, 0)) (by (with_reducible repeat (first | refine bN_ ?_ _ | refine bD_ ?_ | refine bA_ ?_ _)); exact BK163.out) hb)
          have n8_ := Aside0.mk (bB_ (g := gb170) (o := .cells #[.string t164, .string t165, .slice Ao165 t166.length co165, .string t169] 70 (0, 0)) (by (with_reducible repeat (first | refine bN_ ?_ _ | refine bD_ ?_ | refine bA_ ?_ _)); exact BK170.out) hb)
          have n9_ := Aside0.mk (below_step (by repeat (first | (with_reducible first | exact HB.out | apply aB_ | apply pN_ | apply dB_ | refine sB_ ?_ GE140.out | refine sB_ ?_ GE141.out | refine sB_ ?_ GE163.out | refine sB_ ?_ GE170.out) | exact HB.out)) hb)
          clear HO148
          clear HO154
          clear HO161
          clear HO168
          clear HO176
          clear BK140
          clear BK141
          clear BK163
          clear BK170
          clear HB
          have HO148 := n0_
          have HO154 := n1_
          have HO161 := n2_
          have HO168 := n3_
          have HO176 := n4_
          have BK140 := n5_
          have BK141 := n6_
          have BK163 := n7_
          have BK170 := n8_
          have HB := n9_
          clear n0_ n1_ n2_ n3_ n4_ n5_ n6_ n7_ n8_ n9_
          (try clear hb)
          (try clear hb2)
          (try clear hk)
          (try clear hi)
          refine hK.out _ _ ⟨(bc_ BK163.out 0).trans rfl, (bc_ BK163.out 1).trans rfl, (bc_ BK163.out 2).trans rfl, (bc_ BK163.out 3).trans rfl, (bc_ BK140.out 0).trans rfl, (bc_ BK140.out 1).trans rfl, (bc_ BK140.out 2).trans rfl, (bc_ BK140.out 3).trans rfl⟩ (fun hHeld => ?_)
          clear hK K
          refine norm_ (a' := ?_) ?_ ?_
          rotate_left
          · show Act.put _ (some 38) _ = _
            simp only [Act.put, List.setIfInBounds_toArray, List.set_cons_zero, List.set_cons_succ, i64_w, i32_w]
            rfl
          refine pure_ (i := 4) (N := some 39) (v := ?_) (a' := ?_) #[true, true, true, true, true] rfl rfl (by kernel_rfl) (fun _ _ _ h => h) (Or.inl ⟨by rfl, ?_⟩) ?_ ?_
          rotate_left
          · intro w'
            go_simp
            with_reducible rfl
          rotate_left
          · simp only [Act.put, List.setIfInBounds_toArray, List.set_cons_zero, List.set_cons_succ, i64_w, i32_w]
            rfl
          refine done_ (by kernel_rfl) ?_
          try go_wp2
          go_ret
          exact ⟨by first | rfl | (simp [errW_none, errW_some] <;> rfl) | (simp [*, errW_none, errW_some] <;> rfl), by repeat (first | (with_reducible first | exact HB.out | apply aB_ | apply pN_ | apply dB_ | refine sB_ ?_ GE140.out | refine sB_ ?_ GE141.out | refine sB_ ?_ GE163.out | refine sB_ ?_ GE170.out) | exact HB.out)⟩

/-- THE ONE PURE STATEMENT of laws_FnExactSameReq: yours. -/
def laws_FnExactSameReq.Pure : Prop := ∀ (a0_0 : ByteArray) (a0_1 : ByteArray) (l0_2 : List (S80)) (a0_3 : ByteArray) (a1_0 : ByteArray) (a1_1 : ByteArray) (l1_2 : List (S80)) (a1_3 : ByteArray), (a0_0.size ≤ 9223372036854775807) → (a0_1.size ≤ 9223372036854775807) → (l0_2.length ≤ 9223372036854775807 ∧ ∀ x ∈ l0_2, (x.f0.size ≤ 9223372036854775807) ∧ (x.f1.size ≤ 9223372036854775807)) → (a0_3.size ≤ 9223372036854775807) → (a1_0.size ≤ 9223372036854775807) → (a1_1.size ≤ 9223372036854775807) → (l1_2.length ≤ 9223372036854775807 ∧ ∀ x ∈ l1_2, (x.f0.size ≤ 9223372036854775807) ∧ (x.f1.size ≤ 9223372036854775807)) → (a1_3.size ≤ 9223372036854775807) → ∃ k, laws_FnExactSameReq.f k a0_0 a0_1 l0_2 a0_3 a1_0 a1_1 l1_2 a1_3 = some true
theorem laws_FnExactSameReq.walk (P : laws_FnExactSameReq.Pure) (a0_0 : ByteArray) (a0_1 : ByteArray) (A0_2 : Option Addr) (c0_2 : Nat) (l0_2 : List (S80)) (a0_3 : ByteArray) (a1_0 : ByteArray) (a1_1 : ByteArray) (A1_2 : Option Addr) (c1_2 : Nat) (l1_2 : List (S80)) (a1_3 : ByteArray) (w : World) (hr0_2 : Kd.C k80 w A0_2 l0_2.length l0_2) (hc0_2 : l0_2.length ≤ c0_2) (hr1_2 : Kd.C k80 w A1_2 l1_2.length l1_2) (hc1_2 : l1_2.length ≤ c1_2) (w0 : (a0_0.size ≤ 9223372036854775807)) (w1 : (a0_1.size ≤ 9223372036854775807)) (w2 : (l0_2.length ≤ 9223372036854775807 ∧ ∀ x ∈ l0_2, (x.f0.size ≤ 9223372036854775807) ∧ (x.f1.size ≤ 9223372036854775807))) (w3 : (a0_3.size ≤ 9223372036854775807)) (w4 : (a1_0.size ≤ 9223372036854775807)) (w5 : (a1_1.size ≤ 9223372036854775807)) (w6 : (l1_2.length ≤ 9223372036854775807 ∧ ∀ x ∈ l1_2, (x.f0.size ≤ 9223372036854775807) ∧ (x.f1.size ≤ 9223372036854775807))) (w7 : (a1_3.size ≤ 9223372036854775807)) :
    Calls Try.prog 11 #[.agg #[.string a0_0, .string a0_1, .slice A0_2 l0_2.length c0_2, .string a0_3], .agg #[.string a1_0, .string a1_1, .slice A1_2 l1_2.length c1_2, .string a1_3]] w fun e w' => e = .returned (.bool true) ∧ Below w.heap.size w w' := by
  obtain ⟨k, h⟩ := P a0_0 a0_1 l0_2 a0_3 a1_0 a1_1 l1_2 a1_3 w0 w1 w2 w3 w4 w5 w6 w7
  refine (laws_FnExactSameReq.calls k a0_0 a0_1 _ _ l0_2 a0_3 a1_0 a1_1 _ _ l1_2 a1_3 true w hr0_2 hc0_2 hr1_2 hc1_2 h).mono ?_
  rintro e w' ⟨rfl, hd⟩
  exact ⟨rfl, hd⟩

end Go.Proofs.Ytkjlbkfnhmeoeaa.GFnExactSameReq
