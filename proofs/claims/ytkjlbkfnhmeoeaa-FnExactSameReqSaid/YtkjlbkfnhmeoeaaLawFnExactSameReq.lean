-- by gprint.py (this session's program over the kit's print.py): the row of the law laws_FnExactSameReq
import Derived.Test.YtkjlbkfnhmeoeaaRows
import Derived.Test.YtkjlbkfnhmeoeaaGFnExactSameReqx4
import Derived.Test.YtkjlbkfnhmeoeaaPureFnExactSameReq
import Derived.Test.YtkjlbkfnhmeoeaaOpen
import Derived.WalkKit
import Derived.ProofKit
import Derived.OpenShut
import Derived.ShutString
import Derived.ChangeOld
import Derived.Below
import Derived.SizedLaws
import Derived.Test.YtkjlbkfnhmeoeaaWSized
namespace Go.Proofs.Ytkjlbkfnhmeoeaa.fnExactSameReq
open Go.ChangeShapes Go.WideShapes Go.ChangeAt Go.RowKit Go.Deep Go.Proofs.YtkjlbkfnhmeoeaaW.PrintWords Go.Proofs.Ytkjlbkfnhmeoeaa.Open Go.Proofs.Ytkjlbkfnhmeoeaa.GFnExactSameReq
open Go.ChangeMaps (open_string shut_string)
set_option linter.unusedVariables false
theorem own : ownKnob Try.prog.godebug = none := by kernel_rfl
theorem laidOut : laidOutB Try.prog = true := by kernel_rfl
set_option maxRecDepth 100000 in
theorem opens_T80 (w : World) : Opens Try.prog w 80 k80 (fun x => (x.f0.size ≤ 9223372036854775807) ∧ (x.f1.size ≤ 9223372036854775807)) := by
  intro H enc base spare held fuel cs x h
  obtain ⟨xs, n, _, _, hl, hlen, hf⟩ := DataW.trod_struct Try.underlying80 h
  have hl2 : cs.length = 2 := hl.trans (by kernel_rfl)
  obtain ⟨y0, hy0⟩ : ∃ y, xs[0]? = some y := ⟨_, List.getElem?_eq_getElem (by rw [hlen]; decide)⟩
  have h0 := (hf 0 _ rfl).trans hy0
  obtain ⟨v0, hk0, hb0⟩ := (opens_string Try.underlying9) enc base spare held n _ _ h0
  obtain ⟨y1, hy1⟩ : ∃ y, xs[1]? = some y := ⟨_, List.getElem?_eq_getElem (by rw [hlen]; decide)⟩
  have h1 := (hf 1 _ rfl).trans hy1
  obtain ⟨v1, hk1, hb1⟩ := (opens_string Try.underlying9) enc base spare held n _ _ h1
  match cs, hl2 with
  | [c0, c1], _ =>
    change Kd.K Kd.string w v0 (List.take (Try.prog.cellsOf 9) (List.drop 0 [c0, c1])) at hk0
    rw [show Try.prog.cellsOf 9 = 1 from by kernel_rfl] at hk0
    replace hk0 : Kd.K Kd.string w v0 [c0] := hk0
    change Kd.K Kd.string w v1 (List.take (Try.prog.cellsOf 9) (List.drop 1 [c0, c1])) at hk1
    rw [show Try.prog.cellsOf 9 = 1 from by kernel_rfl] at hk1
    replace hk1 : Kd.K Kd.string w v1 [c1] := hk1
    have e0 : [c0] = [.string v0] := hk0
    injection e0 with e0
    subst e0
    have e1 : [c1] = [.string v1] := hk1
    injection e1 with e1
    subst e1
    exact ⟨⟨v0, v1⟩, k80_mk w ⟨v0, v1⟩, hb0, hb1⟩
set_option maxRecDepth 100000 in
theorem param_T66 {w : World} {H : Type} {enc : TypeId × Value → H} {base : Nat} {spare : Nat → Bool} {held : Bool} {fuel : Nat} {cs : List Value} {x : DataW H × List MemPlace} (h : DataW.trod enc Try.prog w base spare held fuel 66 cs = some x) : ∃ (v0 : ByteArray) (v1 : ByteArray) (A2 : Option Addr) (q2 : Nat) (v2 : List (S80)) (v3 : ByteArray), cs = [.string v0, .string v1, .slice A2 v2.length q2, .string v3] ∧ (v0.size ≤ 9223372036854775807) ∧ (v1.size ≤ 9223372036854775807) ∧ v2.length ≤ q2 ∧ Kd.C k80 w A2 v2.length v2 ∧ (v2.length ≤ 9223372036854775807 ∧ ∀ x ∈ v2, (x.f0.size ≤ 9223372036854775807) ∧ (x.f1.size ≤ 9223372036854775807)) ∧ (v3.size ≤ 9223372036854775807) := by
  obtain ⟨xs, n, _, _, hl, hlen, hf⟩ := DataW.trod_struct Try.underlying66 h
  have hl2 : cs.length = 4 := hl.trans (by kernel_rfl)
  obtain ⟨y0, hy0⟩ : ∃ y, xs[0]? = some y := ⟨_, List.getElem?_eq_getElem (by rw [hlen]; decide)⟩
  have h0 := (hf 0 _ rfl).trans hy0
  obtain ⟨v0, hk0, hb0⟩ := (opens_string Try.underlying9) enc base spare held n _ _ h0
  obtain ⟨y1, hy1⟩ : ∃ y, xs[1]? = some y := ⟨_, List.getElem?_eq_getElem (by rw [hlen]; decide)⟩
  have h1 := (hf 1 _ rfl).trans hy1
  obtain ⟨v1, hk1, hb1⟩ := (opens_string Try.underlying9) enc base spare held n _ _ h1
  obtain ⟨y2, hy2⟩ : ∃ y, xs[2]? = some y := ⟨_, List.getElem?_eq_getElem (by rw [hlen]; decide)⟩
  have h2 := (hf 2 _ rfl).trans hy2
  obtain ⟨v2, hk2, hb2⟩ := (opens_slice Try.underlying31 (by kernel_rfl) (opens_T80 _)) enc base spare held n _ _ h2
  obtain ⟨y3, hy3⟩ : ∃ y, xs[3]? = some y := ⟨_, List.getElem?_eq_getElem (by rw [hlen]; decide)⟩
  have h3 := (hf 3 _ rfl).trans hy3
  obtain ⟨v3, hk3, hb3⟩ := (opens_string Try.underlying9) enc base spare held n _ _ h3
  match cs, hl2 with
  | [c0, c1, c2, c3], _ =>
    change Kd.K Kd.string w v0 (List.take (Try.prog.cellsOf 9) (List.drop 0 [c0, c1, c2, c3])) at hk0
    rw [show Try.prog.cellsOf 9 = 1 from by kernel_rfl] at hk0
    replace hk0 : Kd.K Kd.string w v0 [c0] := hk0
    change Kd.K Kd.string w v1 (List.take (Try.prog.cellsOf 9) (List.drop 1 [c0, c1, c2, c3])) at hk1
    rw [show Try.prog.cellsOf 9 = 1 from by kernel_rfl] at hk1
    replace hk1 : Kd.K Kd.string w v1 [c1] := hk1
    change Kd.K (Kd.slice 80 k80) w v2 (List.take (Try.prog.cellsOf 31) (List.drop 2 [c0, c1, c2, c3])) at hk2
    rw [show Try.prog.cellsOf 31 = 1 from by kernel_rfl] at hk2
    replace hk2 : Kd.K (Kd.slice 80 k80) w v2 [c2] := hk2
    change Kd.K Kd.string w v3 (List.take (Try.prog.cellsOf 9) (List.drop 3 [c0, c1, c2, c3])) at hk3
    rw [show Try.prog.cellsOf 9 = 1 from by kernel_rfl] at hk3
    replace hk3 : Kd.K Kd.string w v3 [c3] := hk3
    have e0 : [c0] = [.string v0] := hk0
    injection e0 with e0
    subst e0
    have e1 : [c1] = [.string v1] := hk1
    injection e1 with e1
    subst e1
    obtain ⟨A2, q2, e2, l2, g2⟩ := hk2
    injection e2 with e2
    subst e2
    have e3 : [c3] = [.string v3] := hk3
    injection e3 with e3
    subst e3
    exact ⟨v0, v1, A2, q2, v2, v3, rfl, hb0, hb1, l2, g2, hb2, hb3⟩
set_option maxRecDepth 100000 in
theorem lifted (os : Os) (started : os.Started) (H : Type) (enc : TypeId × Value → H) :
    ReturnsInHanded {} Try.checked os 11 .any (Rows.fnExactSameReqSpec.pre6 enc Try.prog Try.f11 Rows.fnExactSameReqRow.domain false) (Rows.fnExactSameReqSpec.post enc Try.prog Try.f11 false true false false) := by
  refine returnsInHanded_of_change_sized (C := Try.checked) own started (by kernel_rfl) Try.func11
    (ChangeSpec.witness6 (enc := enc) (C := Try.checked) false ⟨#[], #[.agg #[.string ByteArray.empty, .string ByteArray.empty, .slice none 0 0, .string ByteArray.empty], .agg #[.string ByteArray.empty, .string ByteArray.empty, .slice none 0 0, .string ByteArray.empty]], []⟩ 8 (by kernel_rfl) (by kernel_rfl) (by kernel_rfl) (by kernel_rfl)) ?_
  intro W base args ds gs before hval0 hW hcnd hsz0 _
  have hsz : (DataW.weightsEach Try.prog (Try.f11.params.toList ++ Rows.fnExactSameReqSpec.plain.varTypes Try.prog) (ds ++ gs)).all (· ≤ reachBytes) = true := hsz0
  have hval : ∀ (j : Nat) t v, Try.f11.params[j]? = some t → args[j]? = some v → Value.okWide Try.prog W .any base t v := hval0
  have hW' := hW
  obtain ⟨p, q, hA0, hV, rfl, hfz, hnd⟩ := hW
  have hA : DataW.TrodAll enc Try.prog W 0 (fun _ => true) true Try.f11.params.toList args.toList ds p := hA0
  rw [Try.params11] at hA hval hsz
  obtain ⟨v0, vs0, d0, ds0, p0, q0, hargs, rfl, rfl, h0, r0⟩ := trodAll_cons hA
  obtain ⟨v1, vs1, d1, ds1, p1, q1, rfl, rfl, rfl, h1, r1⟩ := trodAll_cons r0
  obtain ⟨rfl, rfl, rfl⟩ := trodAll_nil r1
  obtain rfl : args = #[v0, v1] := by cases args; simp_all
  obtain ⟨rfl, rfl⟩ := trodVars_none hV
  obtain ⟨cs0, rfl, hs0⟩ := okWide_struct Try.underlying66 (hval 0 66 v0 rfl rfl)
  have k0 := h0
  have lt0 : ∀ x ∈ p0, x.block < W.heap.size := by obtain ⟨m, hm⟩ := k0; exact DataW.trod_lt m _ _ _ hm
  obtain ⟨fuel0, hf0⟩ := h0
  obtain ⟨a0_0, a0_1, A0_2, c0_2, l0_2, a0_3, e0, b0_0, b0_1, hc0_2, hr0_2, b0_2, b0_3⟩ := param_T66 hf0
  replace e0 : cs0.toList = [.string a0_0, .string a0_1, .slice A0_2 l0_2.length c0_2, .string a0_3] := e0
  obtain rfl : cs0 = #[.string a0_0, .string a0_1, .slice A0_2 l0_2.length c0_2, .string a0_3] := Array.toList_inj.mp e0
  obtain ⟨cs1, rfl, hs1⟩ := okWide_struct Try.underlying66 (hval 1 66 v1 rfl rfl)
  have k1 := h1
  have lt1 : ∀ x ∈ p1, x.block < W.heap.size := by obtain ⟨m, hm⟩ := k1; exact DataW.trod_lt m _ _ _ hm
  obtain ⟨fuel1, hf1⟩ := h1
  obtain ⟨a1_0, a1_1, A1_2, c1_2, l1_2, a1_3, e1, b1_0, b1_1, hc1_2, hr1_2, b1_2, b1_3⟩ := param_T66 hf1
  replace e1 : cs1.toList = [.string a1_0, .string a1_1, .slice A1_2 l1_2.length c1_2, .string a1_3] := e1
  obtain rfl : cs1 = #[.string a1_0, .string a1_1, .slice A1_2 l1_2.length c1_2, .string a1_3] := Array.toList_inj.mp e1
  clear hA0 hval0 hsz0 hsz
  refine (GFnExactSameReq.laws_FnExactSameReq.walk Pure.FnExactSameReq a0_0 a0_1 A0_2 c0_2 l0_2 a0_3 a1_0 a1_1 A1_2 c1_2 l1_2 a1_3 W hr0_2 hc0_2 hr1_2 hc1_2 b0_0 b0_1 b0_2 b0_3 b1_0 b1_1 b1_2 b1_3).mono fun e W' ⟨he, bel⟩ => ?_
  subst he
  exact ⟨_, rfl, _, _, _, [], _, [], hW', trodAll_mk1 (shut_bool Try.underlying4 _), (trodAll_cons_mk (Below.trod laidOut (by kernel_rfl) (of_decide_eq_true (by kernel_rfl)) k0 bel lt0) (trodAll_cons_mk (Below.trod laidOut (by kernel_rfl) (of_decide_eq_true (by kernel_rfl)) k1 bel lt1) trodAll_mk0)), rfl, bel.frame _, fun h => by cases h⟩
theorem over : Rows.fnExactSameReqRow.holds Try.pinned (OpenSpec.ofChange Rows.fnExactSameReqSpec) :=
  OpenClaim.holds_of_wide 11 Try.f11 rfl rfl rfl rfl rfl rfl rfl ⟨rfl, rfl, rfl, rfl, rfl⟩ rfl rfl rfl rfl rfl (by kernel_rfl) Try.func11 (by kernel_rfl)
    (of_decide_eq_true (by kernel_rfl)) (by unfold Func.isWrapper; first | (rw [if_pos (by decide +kernel)]; kernel_rfl) | (rw [if_neg (by decide +kernel)]; exact ⟨rfl, rfl⟩))
    (fun os started H enc _ => lifted os started H enc)
theorem proved : Rows.FnExactSameReqSaid := over
#print axioms proved
end Go.Proofs.Ytkjlbkfnhmeoeaa.fnExactSameReq
namespace Go.Proofs.Ytkjlbkfnhmeoeaa
/-- The row, under a short name, for the claim. -/
theorem fnExactSameReq_holds : Rows.FnExactSameReqSaid := fnExactSameReq.proved
end Go.Proofs.Ytkjlbkfnhmeoeaa
