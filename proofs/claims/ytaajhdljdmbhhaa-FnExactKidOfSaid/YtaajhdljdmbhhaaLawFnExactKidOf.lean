-- by gprint.py (this session's program over the kit's print.py): the row of the law laws_FnExactKidOf
import Derived.Test.YtaajhdljdmbhhaaRows
import Derived.Test.YtaajhdljdmbhhaaGFnExactKidOfx4
import Derived.Test.YtaajhdljdmbhhaaPureFnExactKidOf
import Derived.Test.YtaajhdljdmbhhaaOpen
import Derived.WalkKit
import Derived.ProofKit
import Derived.OpenShut
import Derived.ShutString
import Derived.ChangeOld
import Derived.Below
import Derived.SizedLaws
import Derived.Test.YtaajhdljdmbhhaaWSized
namespace Go.Proofs.Ytaajhdljdmbhhaa.fnExactKidOf
open Go.ChangeShapes Go.WideShapes Go.ChangeAt Go.RowKit Go.Deep Go.Proofs.YtaajhdljdmbhhaaW.PrintWords Go.Proofs.Ytaajhdljdmbhhaa.Open Go.Proofs.Ytaajhdljdmbhhaa.GFnExactKidOf
open Go.ChangeMaps (open_string shut_string)
set_option linter.unusedVariables false
theorem own : ownKnob Try.prog.godebug = none := by kernel_rfl
theorem laidOut : laidOutB Try.prog = true := by kernel_rfl
set_option maxRecDepth 100000 in
theorem opensF_T24 (w : World) : ∀ fuel, OpensF Try.prog w 24 k24 (fun x => ∀ n_ : Nat, B24 n_ x) fuel := by
  intro fuel
  induction fuel using Nat.strongRecOn with
  | _ fuel ih =>
  intro H enc base spare held cs x h
  obtain ⟨xs, n, hfu, _, hl, hlen, hf⟩ := DataW.trod_struct Try.underlying24 h
  have hl2 : cs.length = 4 := hl.trans (by kernel_rfl)
  obtain ⟨y0, hy0⟩ : ∃ y, xs[0]? = some y := ⟨_, List.getElem?_eq_getElem (by rw [hlen]; decide)⟩
  have h0 := (hf 0 _ rfl).trans hy0
  obtain ⟨v0, hk0, hb0⟩ := (opens_string Try.underlying9) enc base spare held n _ _ h0
  obtain ⟨y1, hy1⟩ : ∃ y, xs[1]? = some y := ⟨_, List.getElem?_eq_getElem (by rw [hlen]; decide)⟩
  have h1 := (hf 1 _ rfl).trans hy1
  obtain ⟨v1, hk1, hb1⟩ := (opens_string Try.underlying9) enc base spare held n _ _ h1
  obtain ⟨y2, hy2⟩ : ∃ y, xs[2]? = some y := ⟨_, List.getElem?_eq_getElem (by rw [hlen]; decide)⟩
  have h2 := (hf 2 _ rfl).trans hy2
  obtain ⟨v2, hk2, hb2⟩ := (opens_string Try.underlying9) enc base spare held n _ _ h2
  obtain ⟨y3, hy3⟩ : ∃ y, xs[3]? = some y := ⟨_, List.getElem?_eq_getElem (by rw [hlen]; decide)⟩
  have h3 := (hf 3 _ rfl).trans hy3
  obtain ⟨v3, hk3, hb3⟩ := (opens_sliceF Try.underlying22 (by kernel_rfl) (fun m hm => ih m (by omega))) enc base spare held _ _ h3
  match cs, hl2 with
  | [c0, c1, c2, c3], _ =>
    change Kd.K Kd.string w v0 (List.take (Try.prog.cellsOf 9) (List.drop 0 [c0, c1, c2, c3])) at hk0
    rw [show Try.prog.cellsOf 9 = 1 from by kernel_rfl] at hk0
    replace hk0 : Kd.K Kd.string w v0 [c0] := hk0
    change Kd.K Kd.string w v1 (List.take (Try.prog.cellsOf 9) (List.drop 1 [c0, c1, c2, c3])) at hk1
    rw [show Try.prog.cellsOf 9 = 1 from by kernel_rfl] at hk1
    replace hk1 : Kd.K Kd.string w v1 [c1] := hk1
    change Kd.K Kd.string w v2 (List.take (Try.prog.cellsOf 9) (List.drop 2 [c0, c1, c2, c3])) at hk2
    rw [show Try.prog.cellsOf 9 = 1 from by kernel_rfl] at hk2
    replace hk2 : Kd.K Kd.string w v2 [c2] := hk2
    change Kd.K (Kd.slice 24 k24) w v3 (List.take (Try.prog.cellsOf 22) (List.drop 3 [c0, c1, c2, c3])) at hk3
    rw [show Try.prog.cellsOf 22 = 1 from by kernel_rfl] at hk3
    replace hk3 : Kd.K (Kd.slice 24 k24) w v3 [c3] := hk3
    have e0 : [c0] = [.string v0] := hk0
    injection e0 with e0
    subst e0
    have e1 : [c1] = [.string v1] := hk1
    injection e1 with e1
    subst e1
    have e2 : [c2] = [.string v2] := hk2
    injection e2 with e2
    subst e2
    obtain ⟨A3, q3, e3, l3, g3⟩ := hk3
    injection e3 with e3
    subst e3
    exact ⟨⟨v0, v1, v2, v3⟩, k24_mk w ⟨v0, v1, v2, v3⟩ l3 g3, fun n_ => by cases n_ with
      | zero => trivial
      | succ m_ => exact ⟨hb0, hb1, hb2, ⟨hb3.1, fun y hy => hb3.2 y hy m_⟩⟩⟩
theorem opens_T24 (w : World) : Opens Try.prog w 24 k24 (fun x => ∀ n_ : Nat, B24 n_ x) := fun enc base spare held fuel cs x h => opensF_T24 w fuel enc base spare held cs x h
set_option maxRecDepth 100000 in
theorem param_T24 {w : World} {H : Type} {enc : TypeId × Value → H} {base : Nat} {spare : Nat → Bool} {held : Bool} {fuel : Nat} {cs : List Value} {x : DataW H × List MemPlace} (h : DataW.trod enc Try.prog w base spare held fuel 24 cs = some x) : ∃ (v0 : ByteArray) (v1 : ByteArray) (v2 : ByteArray) (A3 : Option Addr) (q3 : Nat) (v3 : List (S24)), cs = [.string v0, .string v1, .string v2, .slice A3 v3.length q3] ∧ (v0.size ≤ 9223372036854775807) ∧ (v1.size ≤ 9223372036854775807) ∧ (v2.size ≤ 9223372036854775807) ∧ v3.length ≤ q3 ∧ Kd.C k24 w A3 v3.length v3 ∧ (v3.length ≤ 9223372036854775807 ∧ ∀ x ∈ v3, ∀ n_ : Nat, B24 n_ x) := by
  obtain ⟨xs, n, _, _, hl, hlen, hf⟩ := DataW.trod_struct Try.underlying24 h
  have hl2 : cs.length = 4 := hl.trans (by kernel_rfl)
  obtain ⟨y0, hy0⟩ : ∃ y, xs[0]? = some y := ⟨_, List.getElem?_eq_getElem (by rw [hlen]; decide)⟩
  have h0 := (hf 0 _ rfl).trans hy0
  obtain ⟨v0, hk0, hb0⟩ := (opens_string Try.underlying9) enc base spare held n _ _ h0
  obtain ⟨y1, hy1⟩ : ∃ y, xs[1]? = some y := ⟨_, List.getElem?_eq_getElem (by rw [hlen]; decide)⟩
  have h1 := (hf 1 _ rfl).trans hy1
  obtain ⟨v1, hk1, hb1⟩ := (opens_string Try.underlying9) enc base spare held n _ _ h1
  obtain ⟨y2, hy2⟩ : ∃ y, xs[2]? = some y := ⟨_, List.getElem?_eq_getElem (by rw [hlen]; decide)⟩
  have h2 := (hf 2 _ rfl).trans hy2
  obtain ⟨v2, hk2, hb2⟩ := (opens_string Try.underlying9) enc base spare held n _ _ h2
  obtain ⟨y3, hy3⟩ : ∃ y, xs[3]? = some y := ⟨_, List.getElem?_eq_getElem (by rw [hlen]; decide)⟩
  have h3 := (hf 3 _ rfl).trans hy3
  obtain ⟨v3, hk3, hb3⟩ := (opens_slice Try.underlying22 (by kernel_rfl) (opens_T24 _)) enc base spare held n _ _ h3
  match cs, hl2 with
  | [c0, c1, c2, c3], _ =>
    change Kd.K Kd.string w v0 (List.take (Try.prog.cellsOf 9) (List.drop 0 [c0, c1, c2, c3])) at hk0
    rw [show Try.prog.cellsOf 9 = 1 from by kernel_rfl] at hk0
    replace hk0 : Kd.K Kd.string w v0 [c0] := hk0
    change Kd.K Kd.string w v1 (List.take (Try.prog.cellsOf 9) (List.drop 1 [c0, c1, c2, c3])) at hk1
    rw [show Try.prog.cellsOf 9 = 1 from by kernel_rfl] at hk1
    replace hk1 : Kd.K Kd.string w v1 [c1] := hk1
    change Kd.K Kd.string w v2 (List.take (Try.prog.cellsOf 9) (List.drop 2 [c0, c1, c2, c3])) at hk2
    rw [show Try.prog.cellsOf 9 = 1 from by kernel_rfl] at hk2
    replace hk2 : Kd.K Kd.string w v2 [c2] := hk2
    change Kd.K (Kd.slice 24 k24) w v3 (List.take (Try.prog.cellsOf 22) (List.drop 3 [c0, c1, c2, c3])) at hk3
    rw [show Try.prog.cellsOf 22 = 1 from by kernel_rfl] at hk3
    replace hk3 : Kd.K (Kd.slice 24 k24) w v3 [c3] := hk3
    have e0 : [c0] = [.string v0] := hk0
    injection e0 with e0
    subst e0
    have e1 : [c1] = [.string v1] := hk1
    injection e1 with e1
    subst e1
    have e2 : [c2] = [.string v2] := hk2
    injection e2 with e2
    subst e2
    obtain ⟨A3, q3, e3, l3, g3⟩ := hk3
    injection e3 with e3
    subst e3
    exact ⟨v0, v1, v2, A3, q3, v3, rfl, hb0, hb1, hb2, l3, g3, hb3⟩
set_option maxRecDepth 100000 in
theorem lifted (os : Os) (started : os.Started) (H : Type) (enc : TypeId × Value → H) :
    ReturnsInHanded {} Try.checked os 3 .any (Rows.fnExactKidOfSpec.pre6 enc Try.prog Try.f3 Rows.fnExactKidOfRow.domain false) (Rows.fnExactKidOfSpec.post enc Try.prog Try.f3 false true false false) := by
  refine returnsInHanded_of_change_sized (C := Try.checked) own started (by kernel_rfl) Try.func3
    (ChangeSpec.witness6 (enc := enc) (C := Try.checked) false ⟨#[], #[.agg #[.string ByteArray.empty, .string ByteArray.empty, .string ByteArray.empty, .slice none 0 0], .string ByteArray.empty, .string ByteArray.empty], []⟩ 8 (by kernel_rfl) (by kernel_rfl) (by kernel_rfl) (by kernel_rfl)) ?_
  intro W base args ds gs before hval0 hW hcnd hsz0 _
  have hsz : (DataW.weightsEach Try.prog (Try.f3.params.toList ++ Rows.fnExactKidOfSpec.plain.varTypes Try.prog) (ds ++ gs)).all (· ≤ reachBytes) = true := hsz0
  have hval : ∀ (j : Nat) t v, Try.f3.params[j]? = some t → args[j]? = some v → Value.okWide Try.prog W .any base t v := hval0
  have hW' := hW
  obtain ⟨p, q, hA0, hV, rfl, hfz, hnd⟩ := hW
  have hA : DataW.TrodAll enc Try.prog W 0 (fun _ => true) true Try.f3.params.toList args.toList ds p := hA0
  rw [Try.params3] at hA hval hsz
  obtain ⟨v0, vs0, d0, ds0, p0, q0, hargs, rfl, rfl, h0, r0⟩ := trodAll_cons hA
  obtain ⟨v1, vs1, d1, ds1, p1, q1, rfl, rfl, rfl, h1, r1⟩ := trodAll_cons r0
  obtain ⟨v2, vs2, d2, ds2, p2, q2, rfl, rfl, rfl, h2, r2⟩ := trodAll_cons r1
  obtain ⟨rfl, rfl, rfl⟩ := trodAll_nil r2
  obtain rfl : args = #[v0, v1, v2] := by cases args; simp_all
  obtain ⟨rfl, rfl⟩ := trodVars_none hV
  obtain ⟨cs0, rfl, hs0⟩ := okWide_struct Try.underlying24 (hval 0 24 v0 rfl rfl)
  have k0 := h0
  have lt0 : ∀ x ∈ p0, x.block < W.heap.size := by obtain ⟨m, hm⟩ := k0; exact DataW.trod_lt m _ _ _ hm
  obtain ⟨fuel0, hf0⟩ := h0
  obtain ⟨a0_0, a0_1, a0_2, A0_3, c0_3, l0_3, e0, b0_0, b0_1, b0_2, hc0_3, hr0_3, b0_3⟩ := param_T24 hf0
  replace e0 : cs0.toList = [.string a0_0, .string a0_1, .string a0_2, .slice A0_3 l0_3.length c0_3] := e0
  obtain rfl : cs0 = #[.string a0_0, .string a0_1, .string a0_2, .slice A0_3 l0_3.length c0_3] := Array.toList_inj.mp e0
  obtain ⟨a1, rfl, rfl, rfl, y1⟩ := open_string Try.underlying9 (hval 1 9 v1 rfl rfl) h1
  have w1 : a1.size ≤ 140737488351232 := by
    have z := sized_string hsz (j := 1) (t := 9) rfl rfl
    rw [Array.length_toList] at z
    exact z
  obtain ⟨a2, rfl, rfl, rfl, y2⟩ := open_string Try.underlying9 (hval 2 9 v2 rfl rfl) h2
  have w2 : a2.size ≤ 140737488351232 := by
    have z := sized_string hsz (j := 2) (t := 9) rfl rfl
    rw [Array.length_toList] at z
    exact z
  clear hA0 hval0 hsz0 hsz
  refine (GFnExactKidOf.laws_FnExactKidOf.walk Pure.FnExactKidOf a0_0 a0_1 a0_2 A0_3 c0_3 l0_3 a1 a2 W hr0_3 hc0_3 b0_0 b0_1 b0_2 b0_3 w1 w2).mono fun e W' ⟨he, bel⟩ => ?_
  subst he
  exact ⟨_, rfl, _, _, _, [], _, [], hW', trodAll_mk1 (shut_bool Try.underlying4 _), (trodAll_cons_mk (Below.trod laidOut (by kernel_rfl) (of_decide_eq_true (by kernel_rfl)) k0 bel lt0) (trodAll_cons_mk (shut_string Try.underlying9 y1) (trodAll_cons_mk (shut_string Try.underlying9 y2) trodAll_mk0))), rfl, bel.frame _, fun h => by cases h⟩
theorem over : Rows.fnExactKidOfRow.holds Try.pinned (OpenSpec.ofChange Rows.fnExactKidOfSpec) :=
  OpenClaim.holds_of_wide 3 Try.f3 rfl rfl rfl rfl rfl rfl rfl ⟨rfl, rfl, rfl, rfl, rfl⟩ rfl rfl rfl rfl rfl (by kernel_rfl) Try.func3 (by kernel_rfl)
    (of_decide_eq_true (by kernel_rfl)) (by unfold Func.isWrapper; first | (rw [if_pos (by decide +kernel)]; kernel_rfl) | (rw [if_neg (by decide +kernel)]; exact ⟨rfl, rfl⟩))
    (fun os started H enc _ => lifted os started H enc)
theorem proved : Rows.FnExactKidOfSaid := over
#print axioms proved
end Go.Proofs.Ytaajhdljdmbhhaa.fnExactKidOf
namespace Go.Proofs.Ytaajhdljdmbhhaa
/-- The row, under a short name, for the claim. -/
theorem fnExactKidOf_holds : Rows.FnExactKidOfSaid := fnExactKidOf.proved
end Go.Proofs.Ytaajhdljdmbhhaa
