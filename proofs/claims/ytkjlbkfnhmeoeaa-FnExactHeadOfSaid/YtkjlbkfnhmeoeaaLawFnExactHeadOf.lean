-- by gprint.py (this session's program over the kit's print.py): the row of the law laws_FnExactHeadOf
import Derived.Test.YtkjlbkfnhmeoeaaRows
import Derived.Test.YtkjlbkfnhmeoeaaGFnExactHeadOfx2
import Derived.Test.YtkjlbkfnhmeoeaaPureFnExactHeadOf
import Derived.Test.YtkjlbkfnhmeoeaaOpen
import Derived.WalkKit
import Derived.ProofKit
import Derived.OpenShut
import Derived.ShutString
import Derived.ChangeOld
import Derived.Below
import Derived.SizedLaws
import Derived.Test.YtkjlbkfnhmeoeaaWSized
namespace Go.Proofs.Ytkjlbkfnhmeoeaa.fnExactHeadOf
open Go.ChangeShapes Go.WideShapes Go.ChangeAt Go.RowKit Go.Deep Go.Proofs.YtkjlbkfnhmeoeaaW.PrintWords Go.Proofs.Ytkjlbkfnhmeoeaa.Open Go.Proofs.Ytkjlbkfnhmeoeaa.GFnExactHeadOf
open Go.ChangeMaps (open_string shut_string)
set_option linter.unusedVariables false
theorem own : ownKnob Try.prog.godebug = none := by kernel_rfl
theorem laidOut : laidOutB Try.prog = true := by kernel_rfl
set_option maxRecDepth 100000 in
theorem opens_T80 (w : World) : Opens Try.prog w 80 k80 (fun x => (x.f0.size ≤ 9223372036854775807) ∧ (x.f1.size ≤ 9223372036854775807)) := by
  intro H enc base spare held fuel cs x h
  obtain ⟨xs, n, _, _, hl, hlen, hf⟩ := DataW.trod_struct Try.underlying80 h
  have hl2 : cs.length = 2 := hl.trans (by kernel_rfl)
  obtain ⟨y0, hy0⟩ : ∃ y, xs[0]? = some y := ⟨_, List.getElem?_eq_getElem (by rw [hlen]; decide)⟩
  have h0 := (hf 0 _ rfl).trans hy0
  obtain ⟨v0, hk0, hb0⟩ := (opens_string Try.underlying9) enc base spare held n _ _ h0
  obtain ⟨y1, hy1⟩ : ∃ y, xs[1]? = some y := ⟨_, List.getElem?_eq_getElem (by rw [hlen]; decide)⟩
  have h1 := (hf 1 _ rfl).trans hy1
  obtain ⟨v1, hk1, hb1⟩ := (opens_string Try.underlying9) enc base spare held n _ _ h1
  match cs, hl2 with
  | [c0, c1], _ =>
    change Kd.K Kd.string w v0 (List.take (Try.prog.cellsOf 9) (List.drop 0 [c0, c1])) at hk0
    rw [show Try.prog.cellsOf 9 = 1 from by kernel_rfl] at hk0
    replace hk0 : Kd.K Kd.string w v0 [c0] := hk0
    change Kd.K Kd.string w v1 (List.take (Try.prog.cellsOf 9) (List.drop 1 [c0, c1])) at hk1
    rw [show Try.prog.cellsOf 9 = 1 from by kernel_rfl] at hk1
    replace hk1 : Kd.K Kd.string w v1 [c1] := hk1
    have e0 : [c0] = [.string v0] := hk0
    injection e0 with e0
    subst e0
    have e1 : [c1] = [.string v1] := hk1
    injection e1 with e1
    subst e1
    exact ⟨⟨v0, v1⟩, k80_mk w ⟨v0, v1⟩, hb0, hb1⟩
set_option maxRecDepth 100000 in
theorem lifted (os : Os) (started : os.Started) (H : Type) (enc : TypeId × Value → H) :
    ReturnsInHanded {} Try.checked os 7 .any (Rows.fnExactHeadOfSpec.pre6 enc Try.prog Try.f7 Rows.fnExactHeadOfRow.domain false) (Rows.fnExactHeadOfSpec.post enc Try.prog Try.f7 false true false false) := by
  refine returnsInHanded_of_change_sized (C := Try.checked) own started (by kernel_rfl) Try.func7
    (ChangeSpec.witness6 (enc := enc) (C := Try.checked) false ⟨#[], #[.slice none 0 0, .string ByteArray.empty], []⟩ 8 (by kernel_rfl) (by kernel_rfl) (by kernel_rfl) (by kernel_rfl)) ?_
  intro W base args ds gs before hval0 hW hcnd hsz0 _
  have hsz : (DataW.weightsEach Try.prog (Try.f7.params.toList ++ Rows.fnExactHeadOfSpec.plain.varTypes Try.prog) (ds ++ gs)).all (· ≤ reachBytes) = true := hsz0
  have hval : ∀ (j : Nat) t v, Try.f7.params[j]? = some t → args[j]? = some v → Value.okWide Try.prog W .any base t v := hval0
  have hW' := hW
  obtain ⟨p, q, hA0, hV, rfl, hfz, hnd⟩ := hW
  have hA : DataW.TrodAll enc Try.prog W 0 (fun _ => true) true Try.f7.params.toList args.toList ds p := hA0
  rw [Try.params7] at hA hval hsz
  obtain ⟨v0, vs0, d0, ds0, p0, q0, hargs, rfl, rfl, h0, r0⟩ := trodAll_cons hA
  obtain ⟨v1, vs1, d1, ds1, p1, q1, rfl, rfl, rfl, h1, r1⟩ := trodAll_cons r0
  obtain ⟨rfl, rfl, rfl⟩ := trodAll_nil r1
  obtain rfl : args = #[v0, v1] := by cases args; simp_all
  obtain ⟨rfl, rfl⟩ := trodVars_none hV
  obtain ⟨a0, len0, cap0, rfl⟩ := okWide_slice Try.underlying31 (hval 0 31 v0 rfl rfl)
  have k0 := h0
  have lt0 : ∀ x ∈ p0, x.block < W.heap.size := by obtain ⟨m, hm⟩ := k0; exact DataW.trod_lt m _ _ _ hm
  obtain ⟨l0, A0, c0, e0, hc0, hr0, b0⟩ : ∃ (l : List (S80)) (A : Option Addr) (c : Nat), Value.slice a0 len0 cap0 = .slice A l.length c ∧ l.length ≤ c ∧ Kd.C k80 W A l.length l ∧ (l.length ≤ 9223372036854775807 ∧ ∀ x ∈ l, (x.f0.size ≤ 9223372036854775807) ∧ (x.f1.size ≤ 9223372036854775807)) := by
    obtain ⟨fuel, hf⟩ := h0
    obtain ⟨l, ⟨A, c, hcs, hl, hC⟩, hB⟩ := (opens_slice Try.underlying31 (by kernel_rfl) (opens_T80 _)) enc _ _ _ fuel _ _ hf
    simp [Value.cells] at hcs
    obtain ⟨rfl, rfl, rfl⟩ := hcs
    exact ⟨l, _, _, rfl, hl, hC, hB⟩
  simp only [Value.slice.injEq] at e0
  obtain ⟨rfl, rfl, rfl⟩ := e0
  obtain ⟨a1, rfl, rfl, rfl, y1⟩ := open_string Try.underlying9 (hval 1 9 v1 rfl rfl) h1
  have w1 : a1.size ≤ 140737488351232 := by
    have z := sized_string hsz (j := 1) (t := 9) rfl rfl
    rw [Array.length_toList] at z
    exact z
  clear hA0 hval0 hsz0 hsz
  refine (GFnExactHeadOf.laws_FnExactHeadOf.walk Pure.FnExactHeadOf _ _ l0 a1 W hr0 hc0 b0 w1).mono fun e W' ⟨he, bel⟩ => ?_
  subst he
  exact ⟨_, rfl, _, _, _, [], _, [], hW', trodAll_mk1 (shut_bool Try.underlying4 _), (trodAll_cons_mk (Below.trod laidOut (by kernel_rfl) (of_decide_eq_true (by kernel_rfl)) k0 bel lt0) (trodAll_cons_mk (shut_string Try.underlying9 y1) trodAll_mk0)), rfl, bel.frame _, fun h => by cases h⟩
theorem over : Rows.fnExactHeadOfRow.holds Try.pinned (OpenSpec.ofChange Rows.fnExactHeadOfSpec) :=
  OpenClaim.holds_of_wide 7 Try.f7 rfl rfl rfl rfl rfl rfl rfl ⟨rfl, rfl, rfl, rfl, rfl⟩ rfl rfl rfl rfl rfl (by kernel_rfl) Try.func7 (by kernel_rfl)
    (of_decide_eq_true (by kernel_rfl)) (by unfold Func.isWrapper; first | (rw [if_pos (by decide +kernel)]; kernel_rfl) | (rw [if_neg (by decide +kernel)]; exact ⟨rfl, rfl⟩))
    (fun os started H enc _ => lifted os started H enc)
theorem proved : Rows.FnExactHeadOfSaid := over
#print axioms proved
end Go.Proofs.Ytkjlbkfnhmeoeaa.fnExactHeadOf
namespace Go.Proofs.Ytkjlbkfnhmeoeaa
/-- The row, under a short name, for the claim. -/
theorem fnExactHeadOf_holds : Rows.FnExactHeadOfSaid := fnExactHeadOf.proved
end Go.Proofs.Ytkjlbkfnhmeoeaa
