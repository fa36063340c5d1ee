-- by gprint.py (this session's program over the kit's print.py): the row of the law laws_FnExactPutChunked
import Derived.Test.YtgfpiijpgpkoiabDoorRows
import Derived.Test.YtgfpiijpgpkoiabDoorGFnExactPutChunkedx8
import Derived.Test.YtgfpiijpgpkoiabDoorPureFnExactPutChunked
import Derived.Test.YtgfpiijpgpkoiabDoorOpen
import Derived.WalkKit
import Derived.ProofKit
import Derived.OpenShut
import Derived.ShutString
import Derived.ChangeOld
import Derived.Below
import Derived.SizedLaws
import Derived.HandedShaped
import Derived.Shelf.Vars
import Derived.Test.YtgfpiijpgpkoiabDoorCards
import Derived.Test.YtgfpiijpgpkoiabDoorTie
import Derived.MakeChecks
import Derived.LaidLaws
import Derived.Lay
import Derived.LaidMore
import Derived.SevenTiedAt
import Derived.Lib.LaidTab
import Derived.Lib.LaidU8
import Derived.Test.YtgfpiijpgpkoiabDoorWSized
namespace Go.Proofs.YtgfpiijpgpkoiabDoor.fnExactPutChunked
open Go.ChangeShapes Go.WideShapes Go.ChangeAt Go.RowKit Go.Deep Go.Proofs.YtgfpiijpgpkoiabDoorW.PrintWords Go.Proofs.YtgfpiijpgpkoiabDoor.Open Go.Proofs.YtgfpiijpgpkoiabDoor.GFnExactPutChunked
open Go.ChangeMaps (open_string shut_string)
set_option linter.unusedVariables false
theorem own : ownKnob Tryd.prog.godebug = none := by kernel_rfl
theorem laidOut : laidOutB Tryd.prog = true := by kernel_rfl
set_option maxRecDepth 100000 in
theorem opens_T122 (w : World) : Opens Tryd.prog w 122 k122 (fun x => (x.f0.size ≤ 9223372036854775807) ∧ (x.f1.size ≤ 9223372036854775807)) := by
  intro H enc base spare held fuel cs x h
  obtain ⟨xs, n, _, _, hl, hlen, hf⟩ := DataW.trod_struct Tryd.underlying122 h
  have hl2 : cs.length = 2 := hl.trans (by kernel_rfl)
  obtain ⟨y0, hy0⟩ : ∃ y, xs[0]? = some y := ⟨_, List.getElem?_eq_getElem (by rw [hlen]; decide)⟩
  have h0 := (hf 0 _ rfl).trans hy0
  obtain ⟨v0, hk0, hb0⟩ := (opens_string Tryd.underlying9) enc base spare held n _ _ h0
  obtain ⟨y1, hy1⟩ : ∃ y, xs[1]? = some y := ⟨_, List.getElem?_eq_getElem (by rw [hlen]; decide)⟩
  have h1 := (hf 1 _ rfl).trans hy1
  obtain ⟨v1, hk1, hb1⟩ := (opens_string Tryd.underlying9) enc base spare held n _ _ h1
  match cs, hl2 with
  | [c0, c1], _ =>
    change Kd.K Kd.string w v0 (List.take (Tryd.prog.cellsOf 9) (List.drop 0 [c0, c1])) at hk0
    rw [show Tryd.prog.cellsOf 9 = 1 from by kernel_rfl] at hk0
    replace hk0 : Kd.K Kd.string w v0 [c0] := hk0
    change Kd.K Kd.string w v1 (List.take (Tryd.prog.cellsOf 9) (List.drop 1 [c0, c1])) at hk1
    rw [show Tryd.prog.cellsOf 9 = 1 from by kernel_rfl] at hk1
    replace hk1 : Kd.K Kd.string w v1 [c1] := hk1
    have e0 : [c0] = [.string v0] := hk0
    injection e0 with e0
    subst e0
    have e1 : [c1] = [.string v1] := hk1
    injection e1 with e1
    subst e1
    exact ⟨⟨v0, v1⟩, k122_mk w ⟨v0, v1⟩, hb0, hb1⟩
set_option maxRecDepth 100000 in
theorem param_T43 {w : World} {H : Type} {enc : TypeId × Value → H} {base : Nat} {spare : Nat → Bool} {held : Bool} {fuel : Nat} {cs : List Value} {x : DataW H × List MemPlace} (h : DataW.trod enc Tryd.prog w base spare held fuel 43 cs = some x) : ∃ (v0 : ByteArray) (v1 : ByteArray) (A2 : Option Addr) (q2 : Nat) (v2 : List (S122)) (v3 : ByteArray), cs = [.string v0, .string v1, .slice A2 v2.length q2, .string v3] ∧ (v0.size ≤ 9223372036854775807) ∧ (v1.size ≤ 9223372036854775807) ∧ v2.length ≤ q2 ∧ Kd.C k122 w A2 v2.length v2 ∧ (v2.length ≤ 9223372036854775807 ∧ ∀ x ∈ v2, (x.f0.size ≤ 9223372036854775807) ∧ (x.f1.size ≤ 9223372036854775807)) ∧ (v3.size ≤ 9223372036854775807) := by
  obtain ⟨xs, n, _, _, hl, hlen, hf⟩ := DataW.trod_struct Tryd.underlying43 h
  have hl2 : cs.length = 4 := hl.trans (by kernel_rfl)
  obtain ⟨y0, hy0⟩ : ∃ y, xs[0]? = some y := ⟨_, List.getElem?_eq_getElem (by rw [hlen]; decide)⟩
  have h0 := (hf 0 _ rfl).trans hy0
  obtain ⟨v0, hk0, hb0⟩ := (opens_string Tryd.underlying9) enc base spare held n _ _ h0
  obtain ⟨y1, hy1⟩ : ∃ y, xs[1]? = some y := ⟨_, List.getElem?_eq_getElem (by rw [hlen]; decide)⟩
  have h1 := (hf 1 _ rfl).trans hy1
  obtain ⟨v1, hk1, hb1⟩ := (opens_string Tryd.underlying9) enc base spare held n _ _ h1
  obtain ⟨y2, hy2⟩ : ∃ y, xs[2]? = some y := ⟨_, List.getElem?_eq_getElem (by rw [hlen]; decide)⟩
  have h2 := (hf 2 _ rfl).trans hy2
  obtain ⟨v2, hk2, hb2⟩ := (opens_slice Tryd.underlying22 (by kernel_rfl) (opens_T122 _)) enc base spare held n _ _ h2
  obtain ⟨y3, hy3⟩ : ∃ y, xs[3]? = some y := ⟨_, List.getElem?_eq_getElem (by rw [hlen]; decide)⟩
  have h3 := (hf 3 _ rfl).trans hy3
  obtain ⟨v3, hk3, hb3⟩ := (opens_string Tryd.underlying9) enc base spare held n _ _ h3
  match cs, hl2 with
  | [c0, c1, c2, c3], _ =>
    change Kd.K Kd.string w v0 (List.take (Tryd.prog.cellsOf 9) (List.drop 0 [c0, c1, c2, c3])) at hk0
    rw [show Tryd.prog.cellsOf 9 = 1 from by kernel_rfl] at hk0
    replace hk0 : Kd.K Kd.string w v0 [c0] := hk0
    change Kd.K Kd.string w v1 (List.take (Tryd.prog.cellsOf 9) (List.drop 1 [c0, c1, c2, c3])) at hk1
    rw [show Tryd.prog.cellsOf 9 = 1 from by kernel_rfl] at hk1
    replace hk1 : Kd.K Kd.string w v1 [c1] := hk1
    change Kd.K (Kd.slice 122 k122) w v2 (List.take (Tryd.prog.cellsOf 22) (List.drop 2 [c0, c1, c2, c3])) at hk2
    rw [show Tryd.prog.cellsOf 22 = 1 from by kernel_rfl] at hk2
    replace hk2 : Kd.K (Kd.slice 122 k122) w v2 [c2] := hk2
    change Kd.K Kd.string w v3 (List.take (Tryd.prog.cellsOf 9) (List.drop 3 [c0, c1, c2, c3])) at hk3
    rw [show Tryd.prog.cellsOf 9 = 1 from by kernel_rfl] at hk3
    replace hk3 : Kd.K Kd.string w v3 [c3] := hk3
    have e0 : [c0] = [.string v0] := hk0
    injection e0 with e0
    subst e0
    have e1 : [c1] = [.string v1] := hk1
    injection e1 with e1
    subst e1
    obtain ⟨A2, q2, e2, l2, g2⟩ := hk2
    injection e2 with e2
    subst e2
    have e3 : [c3] = [.string v3] := hk3
    injection e3 with e3
    subst e3
    exact ⟨v0, v1, A2, q2, v2, v3, rfl, hb0, hb1, l2, g2, hb2, hb3⟩
theorem wrap {H : Type} {enc : TypeId × Value → H} {a : Assume} {C : Checked} {os : Os} {f : FuncId} {fn : Func} {s : ChangeSpec} {conds : List PathCond} {apart fresh handsOn again : Bool} {X : World → Array Value → Prop}
    (hX : ∀ (w w' : World) (args : Array Value), w.heap = w'.heap → X w args → X w' args)
    (own : ownKnob C.prog.godebug = none) (started : os.Started) (noInit : C.prog.inits.idxOf? f = none) (hfn : C.prog.funcs[f]? = some fn)
    (witness : ∃ (w : World) (tape : Tape) (i : Input), w.os = os ∧ (w.forCall tape i).Shaped C.prog ∧ i.vars = [] ∧ Input.okWide C.prog (w.forCall tape i) .any w.heap.size f i ∧
      ((s.pre enc C.prog fn conds apart (w.forCall tape i).memory i.args ∧ X (w.forCall tape i).memory i.args) ∧ sizedMet enc C.prog fn (OpenSpec.ofChange s) apart (w.forCall tape i).memory i.args) ∧ a.holds C.prog (lone (Frame.enter C.prog f i.args .normal) [] (w.forCall tape i)))
    (contract : ∀ (W : World) (base : Nat) (args : Array Value) (ds gs : List (DataW H)) (before : List MemPlace),
      (∀ (j : Nat) t v, fn.params[j]? = some t → args[j]? = some v → Value.okWide C.prog W .any base t v) →
      DataW.Whole enc C.prog fn.params.toList s.vars apart W args.toList ds gs before →
      conds.all (PathCond.test C.prog ⟨fn.params.toList, ds, s.plain.varTypes C.prog, gs⟩) = true →
      (DataW.weightsEach C.prog (fn.params.toList ++ s.plain.varTypes C.prog) (ds ++ gs)).all (· ≤ reachBytes) = true → X W args → W.ShapedOpen C.prog →
      a.holds C.prog (lone (Frame.enter C.prog f args .normal) [] W) →
      Calls C.prog f args W fun e W' => ∃ v, e = .returned v ∧ s.post enc C.prog fn apart fresh handsOn again W args v W') :
    ReturnsInHanded a C os f .any (fun w args => (s.pre enc C.prog fn conds apart w args ∧ X w args) ∧ sizedMet enc C.prog fn (OpenSpec.ofChange s) apart w args) (s.post enc C.prog fn apart fresh handsOn again) := by
  refine returnsInHanded_of_calls own started noInit witness ?_
  rintro w tape i _ hsh _ ⟨_, _, _, fn', hfn', _, _, _, _, hval⟩ ⟨⟨⟨ds, gs, before, hw, hc⟩, hx⟩, hz⟩ hholds
  obtain rfl : fn' = fn := Option.some.inj (hfn'.symm.trans hfn)
  refine (contract (w.forCall tape i) w.heap.size i.args ds gs before hval (DataW.Whole.of_heap (w' := w.forCall tape i) (by rfl) hw) hc (hz.weights hw) (hX _ _ _ (by rfl) hx) hsh hholds).mono fun e W' ⟨v, he, hp⟩ => ?_
  subst he
  exact ChangeSpec.post_blind hp
theorem tab_of_reads {P : Program} {W : World} {name : String} {k : IntKind} {zs : List Int} {g : Nat} {t e : TypeId} {n : Nat}
    (hg : P.globalNamed name = some g) (hty : (P.globals[g]?).map (·.type) = some t) (ht : P.underlying t = some (.array n e)) (he : P.underlying e = some (.int k)) (hce : P.cellsOf e = 1) (hct : P.cellsOf t = n)
    (h : Go.Lib.VarReads P W name (Go.Lib.tabData k zs)) : Go.Lib.TabIs P W name k zs := by
  obtain ⟨g', t', cs, fuel, p, hg', ht', hvar, hd⟩ := h
  obtain rfl := Option.some.inj (hg.symm.trans hg')
  obtain rfl := Option.some.inj (hty.symm.trans ht')
  unfold Go.Lib.TabIs
  rw [hvar, ← Go.Lib.cells_of_tab ht he hce hct hd]
set_option maxRecDepth 100000 in
theorem lifted (os : Os) (started : os.Started) (H : Type) (enc : TypeId × Value → H) :
    ReturnsInHanded {} Tryd.checked os 13 .any (fun w args => (Rows.fnExactPutChunkedSpec.pre enc Tryd.prog Tryd.f13 Rows.fnExactPutChunkedRow.domain false w args ∧ laidMetH Tryd.prog Rows.fnExactPutChunkedRow.laid w) ∧ sizedMet enc Tryd.prog Tryd.f13 (OpenSpec.ofChange Rows.fnExactPutChunkedSpec) false w args) (Rows.fnExactPutChunkedSpec.post enc Tryd.prog Tryd.f13 false true false false) := by
  refine wrap (C := Tryd.checked) (X := fun w _ => laidMetH Tryd.prog Rows.fnExactPutChunkedRow.laid w) (fun _ _ _ hh h => h.of_heap hh) own started (by kernel_rfl) Tryd.func13
    (ChangeSpec.witness_shaped (enc := enc) (C := Tryd.checked) (os := os) (X := fun w _ => laidMetH Tryd.prog Rows.fnExactPutChunkedRow.laid w) false (World.laidAll Tryd.prog os Rows.fnExactPutChunkedRow.laid) #[.agg #[.string ByteArray.empty, .string ByteArray.empty, .slice none 0 0, .string ByteArray.empty], .slice none 0 0] 8 (World.laidAll_os _ _ _)
      (World.shaped_of_ZipB (by kernel_rfl) (by kernel_rfl)) (by kernel_rfl) (by kernel_rfl) (by kernel_rfl)
      (by rw [MakeChecks.laidMetH_plain _ _ _ (by kernel_rfl)]; exact laidMet_laidAll _ (by kernel_rfl) (by kernel_rfl))) ?_
  intro W base args ds gs before hval0 hW hcnd hsz0 hL hsh _
  have hL' := hL
  rw [MakeChecks.laidMetH_plain _ _ _ (by kernel_rfl)] at hL'
  have hT : Go.Lib.VarReads Tryd.prog W "internal/strconv.uint64pow10" Rows.laid_internal_strconv_uint64pow10 := Go.Lib.laidMet.reads hL' (by simp [Rows.fnExactPutChunkedRow])
  rw [show (Rows.laid_internal_strconv_uint64pow10 : DataW Unit) = Go.Lib.tabData .u64 Go.Lib.pow10Tab from by kernel_rfl] at hT
  have hT2 : Go.Lib.VarReads Tryd.prog W "math/bits.deBruijn64tab" Rows.laid_math_bits_deBruijn64tab := Go.Lib.laidMet.reads hL' (by simp [Rows.fnExactPutChunkedRow])
  rw [show (Rows.laid_math_bits_deBruijn64tab : DataW Unit) = Go.Lib.tabData .u8 [0, 1, 56, 2, 57, 49, 28, 3, 61, 58, 42, 50, 38, 29, 17, 4, 62, 47, 59, 36, 45, 43, 51, 22, 53, 39, 33, 30, 24, 18, 12, 5, 63, 55, 48, 27, 60, 41, 37, 16, 46, 35, 44, 21, 52, 32, 23, 11, 54, 26, 40, 15, 34, 20, 31, 10, 25, 14, 19, 9, 13, 8, 7, 6] from by kernel_rfl] at hT2
  have hG : GOK W := ⟨(Go.Proofs.cell_of_shapedOpen_int (zero := #[.int .i64 0]) (t := 3) hsh (of_decide_eq_true (by kernel_rfl)) (by kernel_rfl) rfl (by kernel_rfl) (by kernel_rfl) Tryd.underlying3), (tab_of_reads (g := 3) (by kernel_rfl) (by kernel_rfl) Tryd.underlying173 Tryd.underlying155 (by kernel_rfl) (by kernel_rfl) hT), (tab_of_reads (g := 7) (by kernel_rfl) (by kernel_rfl) Tryd.underlying192 Tryd.underlying5 (by kernel_rfl) (by kernel_rfl) hT2)⟩
  have hsz : (DataW.weightsEach Tryd.prog (Tryd.f13.params.toList ++ Rows.fnExactPutChunkedSpec.plain.varTypes Tryd.prog) (ds ++ gs)).all (· ≤ reachBytes) = true := hsz0
  have hval : ∀ (j : Nat) t v, Tryd.f13.params[j]? = some t → args[j]? = some v → Value.okWide Tryd.prog W .any base t v := hval0
  have hW' := hW
  obtain ⟨p, q, hA0, hV, rfl, hfz, hnd⟩ := hW
  have hA : DataW.TrodAll enc Tryd.prog W 0 (fun _ => true) true Tryd.f13.params.toList args.toList ds p := hA0
  rw [Tryd.params13] at hA hval hsz
  obtain ⟨v0, vs0, d0, ds0, p0, q0, hargs, rfl, rfl, h0, r0⟩ := trodAll_cons hA
  obtain ⟨v1, vs1, d1, ds1, p1, q1, rfl, rfl, rfl, h1, r1⟩ := trodAll_cons r0
  obtain ⟨rfl, rfl, rfl⟩ := trodAll_nil r1
  obtain rfl : args = #[v0, v1] := by cases args; simp_all
  obtain ⟨rfl, rfl⟩ := trodVars_none hV
  obtain ⟨cs0, rfl, hs0⟩ := okWide_struct Tryd.underlying43 (hval 0 43 v0 rfl rfl)
  have k0 := h0
  have lt0 : ∀ x ∈ p0, x.block < W.heap.size := by obtain ⟨m, hm⟩ := k0; exact DataW.trod_lt m _ _ _ hm
  obtain ⟨fuel0, hf0⟩ := h0
  obtain ⟨a0_0, a0_1, A0_2, c0_2, l0_2, a0_3, e0, b0_0, b0_1, hc0_2, hr0_2, b0_2, b0_3⟩ := param_T43 hf0
  replace e0 : cs0.toList = [.string a0_0, .string a0_1, .slice A0_2 l0_2.length c0_2, .string a0_3] := e0
  obtain rfl : cs0 = #[.string a0_0, .string a0_1, .slice A0_2 l0_2.length c0_2, .string a0_3] := Array.toList_inj.mp e0
  obtain ⟨a1, len1, cap1, rfl⟩ := okWide_slice Tryd.underlying72 (hval 1 72 v1 rfl rfl)
  have k1 := h1
  have lt1 : ∀ x ∈ p1, x.block < W.heap.size := by obtain ⟨m, hm⟩ := k1; exact DataW.trod_lt m _ _ _ hm
  obtain ⟨l1, A1, c1, e1, hc1, hr1, b1⟩ : ∃ (l : List Int) (A : Option Addr) (c : Nat), Value.slice a1 len1 cap1 = .slice A l.length c ∧ l.length ≤ c ∧ Kd.C (Kd.int .i64) W A l.length l ∧ (l.length ≤ 9223372036854775807 ∧ ∀ x ∈ l, (Lit.int .i64 x).wf = true) := by
    obtain ⟨fuel, hf⟩ := h1
    obtain ⟨l, ⟨A, c, hcs, hl, hC⟩, hB⟩ := (opens_slice Tryd.underlying72 (by kernel_rfl) (opens_int Tryd.underlying3)) enc _ _ _ fuel _ _ hf
    simp [Value.cells] at hcs
    obtain ⟨rfl, rfl, rfl⟩ := hcs
    exact ⟨l, _, _, rfl, hl, hC, hB⟩
  simp only [Value.slice.injEq] at e1
  obtain ⟨rfl, rfl, rfl⟩ := e1
  clear hA0 hval0 hsz0 hsz
  refine (GFnExactPutChunked.laws_FnExactPutChunked.walk Pure.FnExactPutChunked a0_0 a0_1 A0_2 c0_2 l0_2 a0_3 _ _ l1 W hr0_2 hc0_2 hr1 hc1 b0_0 b0_1 b0_2 b0_3 b1 hG).mono fun e W' ⟨he, bel⟩ => ?_
  subst he
  exact ⟨_, rfl, _, _, _, [], _, [], hW', trodAll_mk1 (shut_bool Tryd.underlying4 _), (trodAll_cons_mk (Below.trod laidOut (by kernel_rfl) (of_decide_eq_true (by kernel_rfl)) k0 bel lt0) (trodAll_cons_mk (Below.trod laidOut (by kernel_rfl) (of_decide_eq_true (by kernel_rfl)) k1 bel lt1) trodAll_mk0)), rfl, bel.frame _, fun h => by cases h⟩
theorem over : Rows.FnExactPutChunkedSaid :=
  OpenClaim.holds_of_wide 13 Tryd.f13 rfl rfl rfl rfl rfl rfl rfl ⟨rfl, rfl, rfl, rfl, rfl⟩ rfl rfl rfl rfl rfl (by kernel_rfl) Tryd.func13 (by kernel_rfl)
    (of_decide_eq_true (by kernel_rfl)) (by unfold Func.isWrapper; first | (rw [if_pos (by decide +kernel)]; kernel_rfl) | (rw [if_neg (by decide +kernel)]; exact ⟨rfl, rfl⟩))
    (fun os started H enc _ => lifted os started H enc)
theorem proved : Rows.FnExactPutChunkedCardSaid :=
  Claim7.holds_tied_plain_at .later [] [.data, .data, .data, .data, .pinned] true (true, "588e4261182f9a9b19b91d9d48390965fa3814a2efdc0dfbc186cfc61f58b81f") true over (fun _ h => by cases h) (by kernel_rfl) (fun _ h => by cases h) fnExactPutChunked_row_tie rfl ⟨rfl, rfl⟩ (by kernel_rfl) rfl
    (fun f fn hf hfn => by
      obtain rfl : f = 13 := (Option.some.inj ((show Tryd.prog.funcNamed Rows.fnExactPutChunkedRow.func = some 13 by kernel_rfl).symm.trans hf)).symm
      obtain rfl : fn = Tryd.f13 := (Option.some.inj (Tryd.func13.symm.trans hfn)).symm
      refine ⟨by kernel_rfl, fun j t ht => ?_⟩
      have hw : (Tryd.f13.params.toList.all fun t => !Tryd.prog.wantsStandIn t) = true := by kernel_rfl
      have hm : t ∈ Tryd.f13.params.toList := by rw [← Array.getElem?_toList] at ht; exact List.mem_of_getElem? ht
      have := List.all_eq_true.1 hw t hm
      exact (by simpa using this : Tryd.prog.wantsStandIn t = false))
    (by kernel_rfl)
#print axioms proved
end Go.Proofs.YtgfpiijpgpkoiabDoor.fnExactPutChunked
namespace Go.Proofs.YtgfpiijpgpkoiabDoor
/-- The card, under a short name, for the claim. -/
theorem fnExactPutChunked_holds : Rows.FnExactPutChunkedCardSaid := fnExactPutChunked.proved
end Go.Proofs.YtgfpiijpgpkoiabDoor
