-- by gprint.py (this session's program over the kit's print.py) (a twelfth state) out of the translation. Not trusted: Lean checks it.
import Derived.Test.YtaajhdljdmbhhaaGreatDoorGFnChunksx0
import Derived.Test.YtaajhdljdmbhhaaGreatDoorGFnChunksx2
import Derived.Test.YtaajhdljdmbhhaaGreatDoorGFnChunksx3
namespace Go.Proofs.YtaajhdljdmbhhaaGreatDoor.GFnChunks
open Go.RowKit Go.Proofs.YtaajhdljdmbhhaaGreatDoorW.PrintWords Go.Proofs.YtaajhdljdmbhhaaGreatDoorW.PrintLast Go.Proofs.YtaajhdljdmbhhaaGreatDoorW.PrintMore
attribute [local go_sem] max2_int min2_int max_two min_two max_three min_three max_four min_four   -- for this text's walks alone
set_option linter.unusedVariables false
set_option linter.unusedSimpArgs false
set_option maxRecDepth 100000
set_option maxHeartbeats 8000000

def spec_l4Sizes.l0 : Nat → List Int → Int → List Int → Int → Int → Option (List Int × Int × Int)
 | 0, _, _, _, _, _ => none
 | k + 1, x3, x4, x1000, x1001, x1002 => if x4 > 0 then ((spec_l1Int.f x1000 x1001 x1002 (([0, 1, 2, 3, 16, 100, (-1)] : List Int))).bind fun bt240 => (if x3.length < 17592186044416 then (spec_l4Sizes.l0 k (x3 ++ [bt240.1]) (wrap64 (x4 - 1)) x1000 bt240.2.1 bt240.2.2) else (none))) else (some (x3, x1001, x1002))
def spec_l4Sizes.f (k : Nat) (s0_0 : List Int) (s0_1 : Int) (s0_2 : Int) : Option (List Int × Int × Int) := (spec_l1Below.f s0_0 s0_1 s0_2 4).bind fun bt234 => (spec_l4Sizes.l0 k (([] : List Int)) bt234.1 s0_0 bt234.2.1 bt234.2.2)

theorem spec_l4Sizes.calls (k : Nat) (g : Nat) (s0_0 : List Int) (s0_1 : Int) (s0_2 : Int) (r1 : List Int) (r2 : Int) (r3 : Int) (w0 w : World) (hI : IsS115 w0 w g s0_0 s0_1 s0_2) (hB : Below w0.heap.size w0 w) (h : spec_l4Sizes.f k s0_0 s0_1 s0_2 = some (r1, r2, r3)) :
  Calls Tryz.prog 69 #[.pointer (some ⟨g, 0, none⟩)] w fun e w' => ∃ v0_ : Value, e = .returned (v0_) ∧ Kd.R (Kd.int .i64) 3 w' w.heap.size (fun _ => True) v0_ r1 ∧ IsS115 w0 w' g s0_0 r2 r3 ∧ Below w0.heap.size w0 w' ∧ KeepBut w w' g none := by
 have HI0 := aK hI; have HK := aK (KeepBut.refl w g none); have HL := aK hB.size; clear hI; have HW0 := aK hB.size; have HB := aK hB; clear hB; have H := h; clear h; unfold spec_l4Sizes.f at H
 (first | (with_reducible replace H := oS H; obtain ⟨y231, Ny231, H⟩ := H) | (generalize hy_ : (([] : List Int) : List Int) = y231 at H; have Ny231 := aK hy_.symm; clear hy_)); (try dsimp only at H); replace H := oB H; obtain ⟨⟨t234, t235, t236⟩, A2, H⟩ := H; (try dsimp only at H); have H' := aK H; clear H; go_enter Tryz.func69, Tryz.ntmps69
 go_wp2_with (first | ((with_reducible refine gate_dst (N := 5) rfl ?_); refine Kd.R_lit (Kd.int .i64) _ 3 ?hg (N := 5) ?hd (xs := ([] : List Int)) (inner := []) (ok := fun _ => True) (okp := fun _ => True) ?hr ?hp (fun _ hk => hk) trivial (Below.refl _ _) (Nat.le_refl _) (by simp) ?_; (case hd => rfl); (case hg => rfl); (case hr => exact q28_); (case hp => exact q163_); intro v232 w3 ho4 hb hg_ hnew_; clear hg_ hnew_; (first | rw [← Ny231.1] at ho4 | (simp only [Int.reduceToNat] at ho4; rw [← Ny231.1] at ho4)); have HO233 := aK (Kd.R_lower ho4 (keep_size (w := w) (g := g) (row := none) q5_)); replace HK := aK (KeepBut.trans q5_ (KeepBut.of_below hb g none) (.inl rfl)); replace HB := aK (below_step q12_ hb); replace HI0 := aK (IsS115.below q13_ hb); clear hb ho4) | ((with_reducible refine gate_callee (f := 65) rfl ?_); refine goesL_ (some 7) rfl rfl Tryz.func65 (by kernel_rfl) rfl #[.pointer (some ⟨g, 0, none⟩), .int .i64 4] rfl q2_ ?_; (with_reducible refine (spec_l1Below.calls g s0_0 s0_1 s0_2 4 t234 t235 t236 w0 _ ?side1 ?side2 A2.1).mono ?_); (case side1 => exact q13_); (case side2 => exact q12_); rintro e w5 ⟨rfl, hi, hb, hk⟩; refine ⟨_, rfl, ?_⟩; replace HO233 := aK (Kd.R_mono (Kd.R_keep (IsS115.apart (show IsS115 w0 _ g s0_0 s0_1 s0_2 from by repeat (first | (with_reducible first | exact HI0.1 | apply IsS115.alloc | apply IsS115.drewN | apply IsS115.drew | apply IsS115.set_1 | apply IsS115.set_2) | exact HI0.1)) (by (with_reducible repeat (first | apply rA_ | apply rN_ | apply rD_)); exact HO233.1) (by decide)) hk (fun _ h => h.2)) (fun _ h => h.1)); replace HK := aK (KeepBut.trans q5_ hk (.inl rfl)); replace HB := aK (hb); replace HI0 := aK (hi); clear hb hk hi))
 go_loopg [3, 4] k (fun kq v3 v4 w' => ∃ (x3_1 : List Int) (x4_1 : Int) (x1001_1 : Int) (x1002_1 : Int), v4 = .int .i64 x4_1 ∧ Aside0 (spec_l4Sizes.l0 kq x3_1 x4_1 s0_0 x1001_1 x1002_1 = some (r1, r2, r3)) ∧ Aside0 (kq ≤ k) ∧ Aside0 (Kd.R (Kd.int .i64) 3 w' w.heap.size (fun _ => True) v3 x3_1) ∧ Aside0 (IsS115 w0 w' g s0_0 x1001_1 x1002_1) ∧ Aside0 (KeepBut w w' g none) ∧ Aside0 (Below w0.heap.size w0 w'))
 case atStart => exact ⟨(y231), (t234), (t235), (t236), q3_, H', ⟨Nat.le_refl _⟩, ⟨by (with_reducible repeat (first | apply rA_ | apply rN_ | apply rD_)); first | exact HO233.1 | exact Kd.R_mono HO233.1 (fun k_ h_ e_ => h_ (e_.trans (ob_len _ _ _ _ _)))⟩, ⟨q13_⟩, ⟨q5_⟩, ⟨q12_⟩⟩
 case round =>
  clear H'; (try clear p2); obtain ⟨x3_1, x4_1, x1001_1, x1002_1, rfl, HA, HK1, HO_3, HI0, HK, HB⟩ := hrel; cases gk with
  | zero => exact absurd HA.1 (by simp [spec_l4Sizes.l0])
  | succ k1 =>
   have H := HA.1; clear HA; simp only [spec_l4Sizes.l0] at H; by_cases c6 : x4_1 > 0
   ·rw [if_pos c6] at H; have c6b0 : decide (0 < x4_1) = true := decide_eq_true c6; clear c6; (first | (with_reducible replace H := oS H; obtain ⟨y237, Ny237, H⟩ := H) | (generalize hy_ : (([0, 1, 2, 3, 16, 100, (-1)] : List Int) : List Int) = y237 at H; have Ny237 := aK hy_.symm; clear hy_)); (try dsimp only at H); replace H := oB H; obtain ⟨⟨t240, t241, t242⟩, A7, H⟩ := H; (try dsimp only at H); by_cases c8 : x3_1.length < 17592186044416
    ·rw [if_pos c8] at H; have LMc8 := aK c8; clear c8; (first | (with_reducible replace H := oS H; obtain ⟨y243, Ny243, H⟩ := H) | (generalize hy_ : (x3_1 ++ [t240] : List Int) = y243 at H; have Ny243 := aK hy_.symm; clear hy_)); (try dsimp only at H); have H' := aK H; clear H; go_wp2_with (first | ((with_reducible refine gate_dst (N := 14) rfl ?_); refine Kd.R_lit (Kd.int .i64) _ 3 ?hg (N := 14) ?hd (xs := ([0, 1, 2, 3, 16, 100, (-1)] : List Int)) (inner := [.int .i64 0, .int .i64 1, .int .i64 2, .int .i64 3, .int .i64 16, .int .i64 100, .int .i64 (-1)]) (ok := fun _ => True) (okp := fun _ => True) ?hr ?hp (fun _ hk => hk) trivial (Below.refl _ _) (Nat.le_refl _) (by simp) ?_; (case hd => rfl); (case hg => rfl); (case hr => exact q28_); (case hp => exact (Reps.one (show Kd.M (Kd.int .i64) _ _ _ 0 [.int .i64 0] from rfl) (Reps.one (show Kd.M (Kd.int .i64) _ _ _ 1 [.int .i64 1] from rfl) (Reps.one (show Kd.M (Kd.int .i64) _ _ _ 2 [.int .i64 2] from rfl) (Reps.one (show Kd.M (Kd.int .i64) _ _ _ 3 [.int .i64 3] from rfl) (Reps.one (show Kd.M (Kd.int .i64) _ _ _ 16 [.int .i64 16] from rfl) (Reps.one (show Kd.M (Kd.int .i64) _ _ _ 100 [.int .i64 100] from rfl) (Reps.one (show Kd.M (Kd.int .i64) _ _ _ (-1) [.int .i64 (-1)] from rfl) (Reps.none _ _))))))))); intro v238 w9 ho10 hb hg_ hnew_; clear hg_ hnew_; (first | rw [← Ny237.1] at ho10 | (simp only [Int.reduceToNat] at ho10; rw [← Ny237.1] at ho10)); have HO239 := aK (Kd.R_lower (Kd.R_new' ho10 (Kd.R_lt q51_)) (keep_size (w := w) (g := g) (row := none) q5_)); replace HO_3 := aK (Kd.R_elder' q51_ (Kd.R_base ho10) hb); replace HK := aK (KeepBut.trans q5_ (KeepBut.of_below hb g none) (.inl rfl)); replace HB := aK (below_step q12_ hb); replace HI0 := aK (IsS115.below q13_ hb); clear hb ho10; obtain ⟨Ao11, co11, eo11⟩ := Kd.R_slice HO239.1; subst eo11) | ((with_reducible refine gate_callee (f := 67) rfl ?_); refine goesL_ (some 15) rfl rfl Tryz.func67 (by kernel_rfl) rfl #[.pointer (some ⟨g, 0, none⟩), .slice Ao11 y237.length co11] rfl q2_ ?_; (with_reducible refine (spec_l1Int.calls g s0_0 x1001_1 x1002_1 _ _ y237 t240 t241 t242 w0 _ ?side1 ?side2 ?side3 ?side4 ?side5 A7.1).mono ?_); (case side1 => exact q13_); (case side2 => exact q12_); (case side3 => repeat (first | exact (Kd.R_reads' HO239.1).2.2 | (with_reducible refine Kd.C_alloc ?_ _) | (with_reducible refine Kd.C_drewN ?_ _) | (with_reducible refine Kd.C_drew ?_))); (case side4 => exact (Kd.R_reads' HO239.1).2.1); (case side5 => exact far_slice (IsS115.own_ne HI0.1 HO239.1 (by decide))); rintro e w12 ⟨rfl, hi, hb, hk⟩; refine ⟨_, rfl, ?_⟩; replace HO_3 := aK (Kd.R_mono (Kd.R_keep (IsS115.apart (show IsS115 w0 _ g s0_0 x1001_1 x1002_1 from by repeat (first | (with_reducible first | exact HI0.1 | apply IsS115.alloc | apply IsS115.drewN | apply IsS115.drew | apply IsS115.set_1 | apply IsS115.set_2) | exact HI0.1)) q51_ (by decide)) hk (fun _ h => h.2)) (fun _ h => h.1)); replace HO239 := aK (Kd.R_mono (Kd.R_keep (IsS115.apart (show IsS115 w0 _ g s0_0 x1001_1 x1002_1 from by repeat (first | (with_reducible first | exact HI0.1 | apply IsS115.alloc | apply IsS115.drewN | apply IsS115.drew | apply IsS115.set_1 | apply IsS115.set_2) | exact HI0.1)) q142_ (by decide)) hk (fun _ h => h.2)) (fun _ h => h.1)); replace HK := aK (KeepBut.trans q5_ hk (.inl rfl)); replace HB := aK (hb); replace HI0 := aK (hi); clear hb hk hi) | ((with_reducible refine gate_builtin (b := .append) (xs := #[.tmp 12, .tmp 16]) rfl ?_); at_builtin; refine Kd.R_append (Kd.int .i64) w.heap.size rfl (.tmp 12) (.tmp 16) 55 3 (.int .i64 0) 8 rfl Tryz.underlying55 info3 rfl (by decide) (by omega) u3 x3_1 t240 [.int .i64 t240] (fun k_ => some k_ ≠ (.slice Ao11 y237.length co11 : Value).ownBlock) (fun _ => False) rfl rfl ?aP (fun _ hk => hk.elim) ?aF ?aO (Below.refl _ _) ?aS ?aL ?_; (case aP => exact rfl); (case aF => exact (fun k_ hk => Kd.fresh' (Kd.R_lt q142_) k_ hk)); (case aO => exact (by (with_reducible repeat (first | apply rA_ | apply rN_ | apply rD_)); exact Kd.R_mono HO_3.1 (fun _ hk => hk.2))); (case aS => exact (keep_size (w := w) (g := g) (row := none) q5_)); (case aL => have := LMc8.1; omega); intro v244 w13 ho hb hg hat; rw [← Ny243.1] at ho; replace HO239 := aK (Kd.R_after (ok := (fun _ => True)) q142_ hg hat); replace HB := aK (below_weaken q12_ HL.1 hb); replace HI0 := aK (IsS115.grown (show IsS115 w0 _ g s0_0 t241 t242 from by repeat (first | (with_reducible first | exact HI0.1 | apply IsS115.alloc | apply IsS115.drewN | apply IsS115.drew | apply IsS115.set_1 | apply IsS115.set_2) | exact HI0.1)) hg (IsS115.own_ne HI0.1 HO_3.1 (by decide))); replace HK := aK (KeepBut.trans q5_ (KeepBut.of_grown hg g) (Kd.R_base2 HO_3.1)); have HO245 := aK (ho); clear HO_3; clear ho hb hg hat))
     go_roundg k1
     case measure => have := HK1.1; omega
     case rel => exact ⟨(y243), (wrap64 (x4_1 - 1)), (t241), (t242), q3_, H', ⟨q82_⟩, ⟨by (with_reducible repeat (first | apply rA_ | apply rN_ | apply rD_)); exact Kd.R_mono HO245.1 (fun _ hk => trivial)⟩, ⟨q13_⟩, ⟨q5_⟩, ⟨q12_⟩⟩
    ·rw [if_neg c8] at H; exact absurd H (by simp)
   ·rw [if_neg c6] at H; have c6b0 : decide (0 < x4_1) = false := decide_eq_false c6; clear c6; simp only [Option.some.injEq, Prod.mk.injEq] at H; obtain ⟨rfl, rfl, rfl⟩ := H; go_wp2
    go_ret
    exact ⟨_, q8_, q51_, q13_, q12_, q5_⟩

def spec_DrawPutChunked.f (k : Nat) (l0 : List Int) : Option (ByteArray × ByteArray × (List (S113)) × ByteArray × List Int) := (spec_l1New.f k l0).bind fun bt247 => ((spec_l3Any.f k bt247.1 bt247.2.1 bt247.2.2).bind fun bt251 => ((spec_l4Sizes.f k bt247.1 bt251.2.2.2.2.1 bt251.2.2.2.2.2).bind fun bt259 => (some (bt251.1, bt251.2.1, bt251.2.2.1, bt251.2.2.2.1, bt259.1))))

theorem spec_DrawPutChunked.calls (k : Nat) (A0 : Option Addr) (c0 : Nat) (l0 : List Int) (r1 : ByteArray) (r2 : ByteArray) (r3 : List (S113)) (r4 : ByteArray) (r5 : List Int) (w : World) (hr0 : Kd.C (Kd.int .u8) w A0 l0.length l0) (hc0 : l0.length ≤ c0) (h : spec_DrawPutChunked.f k l0 = some (r1, r2, r3, r4, r5)) :
  Calls Tryz.prog 36 #[.slice A0 l0.length c0] w fun e w' => ∃ v2_ v4_ : Value, e = .returned (.tuple #[.agg #[.string r1, .string r2, v2_, .string r4], v4_]) ∧ Kd.R k113 113 w' w.heap.size (fun _ => True) v2_ r3 ∧ Kd.R (Kd.int .i64) 3 w' w.heap.size (fun _ => True) v4_ r5 ∧ Below w.heap.size w w' := by
 have hu53 := Tryz.underlying53; have HR0 := aK hr0; have HC0 := aK hc0; clear hr0 hc0; have HB := aK (Below.refl w.heap.size w); have H := h; clear h; unfold spec_DrawPutChunked.f at H
 replace H := oB H; obtain ⟨⟨t247, t248, t249⟩, A2, H⟩ := H; (try dsimp only at H); replace H := oB H; obtain ⟨⟨t251, t252, t253, t256, t257, t258⟩, A3, H⟩ := H; (try dsimp only at H); replace H := oB H; obtain ⟨⟨t259, t262, t263⟩, A4, H⟩ := H; (try dsimp only at H); simp only [Option.some.injEq, Prod.mk.injEq] at H; obtain ⟨rfl, rfl, rfl, rfl, rfl⟩ := H; go_enter Tryz.func36, Tryz.ntmps36
 go_wp2_with (first | ((with_reducible refine gate_dst (N := 2) rfl ?_); refine box_event ?hg (N := 2) ?hd (cs := #[.string (⟨#[]⟩ : BA), .string (⟨#[]⟩ : BA), .slice none 0 0, .string (⟨#[]⟩ : BA)]) (t := 53) ?hr ?_; (case hd => rfl); (case hg => rfl); (case hr => exact q28_); intro gb246 hg w5 hbox hb; have BK246 := aK (hbox); have GW246 := aK ((q39_ : w.heap.size ≤ gb246)); have GE246 := aK ((q39_ : w.heap.size ≤ gb246)); replace HB := aK (below_step q1_ hb); clear hb hbox hg) | ((with_reducible refine gate_callee (f := 62) rfl ?_); refine goesL_ (some 6) rfl rfl Tryz.func62 (by kernel_rfl) rfl #[.slice A0 l0.length c0] rfl q2_ ?_; (with_reducible refine (spec_l1New.calls k _ _ l0 t247 t248 t249 w _ ?side1 ?side2 ?side3 A2.1).mono ?_); (case side1 => repeat (first | (with_reducible first | exact HB.1 | apply aB_ | apply pN_ | apply dB_ | refine sB_ ?_ GE246.1) | exact HB.1)); (case side2 => exact HR0.1); (case side3 => exact q160_); rintro e w6 ⟨g250, rfl, hi, hb, hb2⟩; refine ⟨_, rfl, ?_⟩; replace HB := aK (hb); have HI250 := aK (hi); have NB250_246 := aK (IsS115.ne_blk hi (bB_ (g := gb246) (o := .cells #[.string (⟨#[]⟩ : BA), .string (⟨#[]⟩ : BA), .slice none 0 0, .string (⟨#[]⟩ : BA)] 53 (0, 0)) q101_ hb2) (by decide)); have NB246_250 := aK (Ne.symm (IsS115.ne_blk hi (bB_ (g := gb246) (o := .cells #[.string (⟨#[]⟩ : BA), .string (⟨#[]⟩ : BA), .slice none 0 0, .string (⟨#[]⟩ : BA)] 53 (0, 0)) q101_ hb2) (by decide))); replace BK246 := aK (bB_ (g := gb246) (o := .cells #[.string (⟨#[]⟩ : BA), .string (⟨#[]⟩ : BA), .slice none 0 0, .string (⟨#[]⟩ : BA)] 53 (0, 0)) q101_ hb2); clear hb hb2 hi) | ((with_reducible refine gate_callee (f := 68) rfl ?_); refine goesL_ (some 8) rfl rfl Tryz.func68 (by kernel_rfl) rfl #[.pointer (some ⟨g250, 0, none⟩)] rfl q2_ ?_; (with_reducible refine (spec_l3Any.calls k g250 t247 t248 t249 t251 t252 t253 t256 t257 t258 w _ ?side1 ?side2 A3.1).mono ?_); (case side1 => exact q140_); (case side2 => exact q75_); rintro e w7 ⟨v254, rfl, ho0, hi, hb, hk⟩; refine ⟨_, rfl, ?_⟩; replace BK246 := aK (KeepBut.blk hk (g' := gb246) (o := .cells #[.string (⟨#[]⟩ : BA), .string (⟨#[]⟩ : BA), .slice none 0 0, .string (⟨#[]⟩ : BA)] 53 (0, 0)) q101_ NB246_250.1 (by simp)); have HO255 := aK (Kd.R_lower ho0 (below_size q75_)); replace HB := aK (hb); replace HI250 := aK (hi); clear hb hk hi ho0) | ((with_reducible refine gate_callee (f := 69) rfl ?_); refine goesL_ (some 10) rfl rfl Tryz.func69 (by kernel_rfl) rfl #[.pointer (some ⟨g250, 0, none⟩)] rfl q2_ ?_; (with_reducible refine (spec_l4Sizes.calls k g250 t247 t257 t258 t259 t262 t263 w _ ?side1 ?side2 A4.1).mono ?_); (case side1 => exact q140_); (case side2 => exact q75_); rintro e w8 ⟨v260, rfl, ho0, hi, hb, hk⟩; refine ⟨_, rfl, ?_⟩; replace BK246 := aK (KeepBut.blk hk (g' := gb246) (o := .cells #[.string (⟨#[]⟩ : BA), .string (⟨#[]⟩ : BA), .slice none 0 0, .string (⟨#[]⟩ : BA)] 53 (0, 0)) q101_ NB246_250.1 (by simp)); replace HO255 := aK (Kd.R_mono (Kd.R_keep (IsS115.apart (show IsS115 w _ g250 t247 t257 t258 from by repeat (first | (with_reducible first | exact HI250.1 | apply IsS115.alloc | apply IsS115.drewN | apply IsS115.drew | apply IsS115.set_1 | apply IsS115.set_2 | refine IsS115.far ?_ NB250_246.1 _) | exact HI250.1)) (by (with_reducible repeat (first | apply rA_ | apply rN_ | apply rD_)); exact HO255.1) (by decide)) hk (fun _ h => h.2)) (fun _ h => h.1)); have HO261 := aK (Kd.R_lower ho0 (below_size q75_)); replace HB := aK (hb); replace HI250 := aK (hi); clear hb hk hi ho0; have hnb9 := NB246_250.1; have hnc9 := NB250_246.1; obtain ⟨hcz10_0, hfz10_0, hcz10_1, hfz10_1, hcz10_2, hfz10_2, hcz10_3, hfz10_3⟩ := cel4 BK246.1; obtain ⟨Ao11, co11, eo11⟩ := Kd.R_slice HO255.1; subst eo11))
 refine bodyPost_ret (results_ct rfl _ _ gb246 53 #[.string t251, .string t252, .slice Ao11 t253.length co11, .string t256] (0, 0) _ rfl (by (with_reducible repeat (first | refine bN_ ?_ _ | refine bD_ ?_ | refine bA_ ?_ _)); refine blk_put (cs := #[.string t251, .string t252, .slice Ao11 t253.length co11, .string (⟨#[]⟩ : BA)]) ?_ 3 _ rfl; (with_reducible repeat (first | refine bN_ ?_ _ | refine bD_ ?_ | refine bA_ ?_ _)); refine blk_put (cs := #[.string t251, .string t252, .slice none 0 0, .string (⟨#[]⟩ : BA)]) ?_ 2 _ rfl; (with_reducible repeat (first | refine bN_ ?_ _ | refine bD_ ?_ | refine bA_ ?_ _)); refine blk_put (cs := #[.string t251, .string (⟨#[]⟩ : BA), .slice none 0 0, .string (⟨#[]⟩ : BA)]) ?_ 1 _ rfl; (with_reducible repeat (first | refine bN_ ?_ _ | refine bD_ ?_ | refine bA_ ?_ _)); refine blk_put (cs := #[.string (⟨#[]⟩ : BA), .string (⟨#[]⟩ : BA), .slice none 0 0, .string (⟨#[]⟩ : BA)]) ?_ 0 _ rfl; (with_reducible repeat (first | refine bN_ ?_ _ | refine bD_ ?_ | refine bA_ ?_ _)); exact BK246.1) Tryz.underlying53 rfl (by kernel_rfl)) rfl ?_; exact ⟨_, _, q8_, by (with_reducible repeat (first | apply rA_ | apply rN_ | apply rD_)); exact Kd.R_mono (rF_ (p := ⟨gb246, 3, none⟩) (rF_ (p := ⟨gb246, 2, none⟩) (rF_ (p := ⟨gb246, 1, none⟩) (rF_ (p := ⟨gb246, 0, none⟩) (Kd.R_types HO255.1 BK246.1 (by decide)) (fun _ hk => hk.2) (.string t251)) (fun _ hk => hk.2) (.string t252)) (fun _ hk => hk.2) (.slice Ao11 t253.length co11)) (fun _ hk => hk.2) (.string t256)) (fun _ hk => trivial), by (with_reducible repeat (first | apply rA_ | apply rN_ | apply rD_)); exact Kd.R_mono (rF_ (p := ⟨gb246, 3, none⟩) (rF_ (p := ⟨gb246, 2, none⟩) (rF_ (p := ⟨gb246, 1, none⟩) (rF_ (p := ⟨gb246, 0, none⟩) (Kd.R_types HO261.1 BK246.1 (by decide)) (fun _ hk => hk.2) (.string t251)) (fun _ hk => hk.2) (.string t252)) (fun _ hk => hk.2) (.slice Ao11 t253.length co11)) (fun _ hk => hk.2) (.string t256)) (fun _ hk => trivial), q75_⟩

def impl_copyInts.f (l0 : List Int) : Option (List Int) := if ([] : List Int).length + l0.length < 17592186044416 then (some (([] : List Int) ++ l0)) else (none)
theorem impl_copyInts.calls (A0 : Option Addr) (c0 : Nat) (l0 : List Int) (r : List Int) (w : World) (hr0 : Kd.C (Kd.int .i64) w A0 l0.length l0) (hc0 : l0.length ≤ c0) (h : impl_copyInts.f l0 = some r) :
  Calls Tryz.prog 78 #[.slice A0 l0.length c0] w fun e w' => ∃ v0_ : Value, e = .returned (v0_) ∧ Kd.R (Kd.int .i64) 3 w' w.heap.size (fun _ => True) v0_ r ∧ Below w.heap.size w w' := by
 have HR0 := aK hr0; have HC0 := aK hc0; clear hr0 hc0; have HB := aK (Below.refl w.heap.size w); have H := h; clear h; unfold impl_copyInts.f at H
 by_cases c2 : ([] : List Int).length + l0.length < 17592186044416
 ·rw [if_pos c2] at H; have LMc2 := aK c2; clear c2; (first | (with_reducible replace H := oS H; obtain ⟨y264, Ny264, H⟩ := H) | (generalize hy_ : (([] : List Int) ++ l0 : List Int) = y264 at H; have Ny264 := aK hy_.symm; clear hy_)); (try dsimp only at H); obtain rfl := Option.some.inj H; go_enter Tryz.func78, Tryz.ntmps78
  go_wp2_with (first | ((with_reducible refine gate_builtin (b := .append) (xs := #[.const (.slice none 0 0), .tmp 3]) rfl ?_); at_builtin; refine Kd.R_append_rows (Kd.int .i64) (w0 := w) w.heap.size rfl (.const (.slice none 0 0)) (.tmp 3) 55 3 (.int .i64 0) 8 rfl Tryz.underlying55 info3 rfl (by decide) (by omega) (.slice none 0 0) ([] : List Int) l0 _ _ _ (fun _ => True) (fun _ => False) rfl rfl ?aO ?aR (fun _ _ h => h) (fun _ h => h.elim) ?aF ?aB ?aS ?aL ?_; (case aR => exact q61_); (case aB => exact q1_); (case aF => exact q120_); (case aO => exact q133_); (case aS => exact (below_size q1_)); (case aL => have := LMc2.1; omega); intro v265 w3 ho hb hg hat; rw [← Ny264.1] at ho; replace HB := aK (hb); have HO266 := aK (ho); clear ho hb hg hat))
  go_ret
  exact ⟨_, q8_, by (with_reducible repeat (first | apply rA_ | apply rN_ | apply rD_)); exact HO266.1, q1_⟩
 ·rw [if_neg c2] at H; exact absurd H (by simp)


section
open Go.Sort Go.Lib
def hexb (d : Nat) : UInt8 := UInt8.ofNat (if d < 10 then 48 + d else 87 + d)
def hexB (u : Nat) : List UInt8 := if h : u < 16 then [hexb u] else hexB (u / 16) ++ [hexb (u % 16)]
termination_by u
decreasing_by omega
structure HexInv (u v i : Nat) (dk : Array UInt8) : Prop where
 size : dk.size = 65
 lo : 49 < i
 hi : i ≤ 65
 small : v < 16 ^ (i - 49)
 done : hexB u = hexB v ++ dk.toList.drop i
theorem HexInv.start (u : Nat) (h : u < 18446744073709551616) : HexInv u u 65 (Array.replicate 65 0) :=
 ⟨by simp, by omega, by omega, by simpa using h, by simp⟩
theorem drop_set_ (l : List UInt8) (i : Nat) (x : UInt8) (h : i < l.length) : (l.set i x).drop i = x :: l.drop (i + 1) := by
 rw [List.drop_eq_getElem_cons (by simpa using h)]; simp [List.drop_set]
theorem HexInv.step {u v i : Nat} {dk : Array UInt8} (h : HexInv u v i dk) (hv : 16 ≤ v) : HexInv u (v / 16) (i - 1) (dk.setIfInBounds (i - 1) (hexb (v % 16))) := by
 obtain ⟨h1, h2, h3, h4, h5⟩ := h; have h6 : 51 ≤ i := by
  rcases Nat.lt_or_ge 50 i with h | h
  ·exact h
  ·rw [show i - 49 = 1 by omega] at h4; omega
 have hl : dk.toList.length = 65 := by simpa using h1
 refine ⟨by simpa using h1, by omega, by omega, ?_, ?_⟩
 ·rw [show i - 49 = (i - 1 - 49) + 1 by omega, Nat.pow_succ] at h4; omega
 ·rw [h5, hexB, dif_neg (by omega), Array.toList_setIfInBounds, drop_set_ _ _ _ (by omega), show i - 1 + 1 = i by omega, List.append_assoc]; rfl
theorem HexInv.last {u v i : Nat} {dk : Array UInt8} (h : HexInv u v i dk) (hv : v < 16) : hexB u = (dk.setIfInBounds (i - 1) (hexb v)).toList.drop (i - 1) := by
 obtain ⟨h1, h2, h3, h4, h5⟩ := h; have hl : dk.toList.length = 65 := by simpa using h1
 rw [h5, hexB, dif_pos hv, Array.toList_setIfInBounds, drop_set_ _ _ _ (by omega), show i - 1 + 1 = i by omega]; rfl
theorem hex36 : ∀ j : Fin 16, Lib.digits36.data.toList.getD j.val 0 = hexb j.val := by decide +kernel
theorem idx_hex {P : Program} (t : TypeId) (ht : P.underlying t = some .string) (k : IntKind) (z : Int) (i : Nat) (hz : z = (i : Int)) (hi : i < 16) (w : World) :
  (Instr.index t (.string Lib.digits36) (.int k z)).run P w = .ok (.int .u8 ((hexb i).toNat : Int)) w := by
 subst hz; rw [run_index_string w t Lib.digits36 k _ ht, dif_pos ⟨by omega, by rw [Lib.digits36_size]; omega⟩]; have e : ((i : Int)).toNat = i := by omega
 simp only [e]; rw [Lib.getD_at, hex36 ⟨i, hi⟩]
theorem and15 (v : Nat) (h : v < 18446744073709551616) : bits .and .u64 (v : Int) 15 = ((v % 16 : Nat) : Int) := by
 have e := bits_and_u64_nat v 15 h (by decide); rw [show ((15 : Nat) : Int) = 15 from rfl] at e; rw [e, show (15 : Nat) = 2 ^ 4 - 1 from rfl, Nat.and_two_pow_sub_one_eq_mod]
def debTab : List Int := [0, 1, 56, 2, 57, 49, 28, 3, 61, 58, 42, 50, 38, 29, 17, 4, 62, 47, 59, 36, 45, 43, 51, 22, 53, 39, 33, 30, 24, 18, 12, 5, 63, 55, 48, 27, 60, 41, 37, 16, 46, 35, 44, 21, 52, 32, 23, 11, 54, 26, 40, 15, 34, 20, 31, 10, 25, 14, 19, 9, 13, 8, 7, 6]
theorem hx_pow (w : World) : Calls Tryz.prog 165 #[.int .i64 16] w fun e w' => e = .returned (.bool true) ∧ w' = w := by
 go_enter Tryz.func165, Tryz.ntmps165
 go_wp2
 go_ret
 exact ⟨rfl, rfl⟩
theorem hx_tz64 (w : World) (htab : Lib.TabIs Tryz.prog w "math/bits.deBruijn64tab" .u8 debTab) : Calls Tryz.prog 179 #[.int .u64 16] w fun e w' => e = .returned (.int .i64 4) ∧ w' = w := by
 have hg : Tryz.prog.globalNamed "math/bits.deBruijn64tab" = some 3 := by kernel_rfl
 have hcell : w.cell? ⟨3, 15, none⟩ = some (.int .u8 4) := by
  rw [htab.cell hg 15 (by decide)]; rfl
 have hb : bits BinOp.and IntKind.u64 16 (IntKind.u64.wrap (-16)) = 16 := by decide +kernel
 have hw1 : IntKind.u64.wrap (16 * 285870213051353865) / 288230376151711744 = 15 := by decide +kernel
 have hw2 : IntKind.u64.wrap 4573923408821661840 / 288230376151711744 = 15 := by decide +kernel
 go_enter Tryz.func179, Tryz.ntmps179
 go_wp2
 go_ret
 exact ⟨rfl, rfl⟩
theorem hx_tz (w : World) (htab : Lib.TabIs Tryz.prog w "math/bits.deBruijn64tab" .u8 debTab) : Calls Tryz.prog 166 #[.int .u64 16] w fun e w' => e = .returned (.int .i64 4) ∧ w' = w := by
 go_enter Tryz.func166, Tryz.ntmps166
 go_wp2_with (go_at_call 179; refine (hx_tz64 _ htab).mono ?_; rintro e w' ⟨rfl, rfl⟩)
 go_ret
 exact ⟨rfl, rfl⟩

def zeros65 : Array Value := #[Value.int .u8 0, Value.int .u8 0, Value.int .u8 0, Value.int .u8 0, Value.int .u8 0, Value.int .u8 0, Value.int .u8 0, Value.int .u8 0, Value.int .u8 0, Value.int .u8 0, Value.int .u8 0, Value.int .u8 0, Value.int .u8 0, Value.int .u8 0, Value.int .u8 0, Value.int .u8 0, Value.int .u8 0, Value.int .u8 0, Value.int .u8 0, Value.int .u8 0, Value.int .u8 0, Value.int .u8 0, Value.int .u8 0, Value.int .u8 0, Value.int .u8 0, Value.int .u8 0, Value.int .u8 0, Value.int .u8 0, Value.int .u8 0, Value.int .u8 0, Value.int .u8 0, Value.int .u8 0, Value.int .u8 0, Value.int .u8 0, Value.int .u8 0, Value.int .u8 0, Value.int .u8 0, Value.int .u8 0, Value.int .u8 0, Value.int .u8 0, Value.int .u8 0, Value.int .u8 0, Value.int .u8 0, Value.int .u8 0, Value.int .u8 0, Value.int .u8 0, Value.int .u8 0, Value.int .u8 0, Value.int .u8 0, Value.int .u8 0, Value.int .u8 0, Value.int .u8 0, Value.int .u8 0, Value.int .u8 0, Value.int .u8 0, Value.int .u8 0, Value.int .u8 0, Value.int .u8 0, Value.int .u8 0, Value.int .u8 0, Value.int .u8 0, Value.int .u8 0, Value.int .u8 0, Value.int .u8 0, Value.int .u8 0]
theorem zeros65_at (i : Nat) (h : i < 65) : zeros65[i]? = some (.int .u8 0) := by
 have e : zeros65 = Array.replicate 65 (.int .u8 0) := rfl; rw [e, Array.getElem?_replicate, if_pos h]
abbrev encB : UInt8 → Value := fun b => Value.int .u8 (b.toNat : Int)
theorem holds65 (w : World) (T : TypeId) : Holds encB (w.alloc (.cells zeros65 T)) w.heap.size 0 (Array.replicate 65 (0 : UInt8)) := fun j hj => by
 have hj' : j < 65 := by simpa using hj
 refine ⟨?_, World.frozen?_alloc_new _ _ _ _⟩; rw [World.cell?_alloc_new, zeros65_at _ (by omega), getElem!_pos _ j hj]; simp
set_option maxHeartbeats 12800000 in
theorem hx_bits (u : Nat) (hu : u < 18446744073709551616) (w : World) (htab : Lib.TabIs Tryz.prog w "math/bits.deBruijn64tab" .u8 debTab) :
  Calls Tryz.prog 153 #[.slice none 0 0, .int .u64 u, .int .i64 16, .bool false, .bool false] w fun e w' => e = .returned (.tuple #[.slice none 0 0, .string ⟨(hexB u).toArray⟩]) ∧ Below w.heap.size w w' := by
 have htab' := Lib.tabIs_alloc htab (.cells zeros65 155); go_enter Tryz.func153, Tryz.ntmps153
 go_name_bytes_deep 40 PM hPM
 clear hPM; go_name_bytes_deep 30 DG hDG
 have eDG : DG = Lib.digits36 := by rw [← hDG]; decide +kernel
 subst eDG; clear hDG; go_wp2_with (first | (go_at_call 165; refine (hx_pow _).mono ?_; rintro e w' ⟨rfl, rfl⟩) | (go_at_call 166; refine (hx_tz _ htab').mono ?_; rintro e w' ⟨rfl, rfl⟩))
 have hHx1 := Lib.hid (holds65 w 155); go_loopw [1, 13] (fun vu vi wr => ∃ (v i n : Nat) (dk : Array UInt8), vu = .int .u64 v ∧ vi = .int .i64 i ∧ wr = (putRow encB (w.alloc (.cells zeros65 155)) w.heap.size 0 dk).drewN n ∧ Hid (HexInv u v i dk)) (fun _ vi _ => (RowKit.intOf vi).toNat)
 case atStart => exact ⟨u, 65, 0, Array.replicate 65 0, rfl, rfl, (putRow_self _ _ _ _ _ hHx1.out).symm, Lib.hid (HexInv.start u hu)⟩
 case round =>
  obtain ⟨v, i, n, dk, rfl, rfl, hw0, hHx0⟩ := hrel; rename World => W0
  obtain ⟨m, rfl⟩ : ∃ m, i = m + 1 := ⟨i - 1, by have := hHx0.out.lo; omega⟩; have hv64 : v < 18446744073709551616 := by
   have h1 := hHx0.out.small; have h2 : 16 ^ (m + 1 - 49) ≤ 16 ^ 16 := Nat.pow_le_pow_right (by decide) (by have := hHx0.out.hi; omega); have h3 : (16 : Nat) ^ 16 = 18446744073709551616 := by decide
   omega
  have hm : m < 65 := by have := hHx0.out.hi; omega
  have hs0 := hHx0.out.size; have hH0 : Holds encB W0 w.heap.size 0 dk := by rw [hw0]; exact holds_putRow _ _ _ _ _ dk hHx1.out (by rw [hs0]; simp)
  obtain ⟨G0, hG0⟩ : ∃ G : Nat → Int, ∀ t, G t = (dk[t]!.toNat : Int) := ⟨_, fun _ => rfl⟩; have hc0 : ∀ t, t < 65 → W0.cell? ⟨w.heap.size, t, none⟩ = some (.int .u8 (G0 t)) := fun t ht => by rw [hG0]; have := (hH0 t (by omega)).1; rwa [Nat.zero_add] at this
  have hf0 : ∀ t, t < 65 → W0.frozen? ⟨w.heap.size, t, none⟩ = false := fun t ht => by have := (hH0 t (by omega)).2; rwa [Nat.zero_add] at this
  have AW0 := Lib.hid hw0; clear hw0 hG0 hH0; by_cases hv : 16 ≤ v
  ·have hand : bits .and .u64 (v : Int) 15 = (v : Int) % 16 := by rw [and15 v hv64]; omega
   have hidx : ∀ W, (Instr.index 9 (.string Lib.digits36) (.int .u64 ((v : Int) % 16))).run Tryz.prog W = .ok (.int .u8 ((hexb (v % 16)).toNat : Int)) W := idx_hex 9 Tryz.underlying9 .u64 _ _ (by omega) (Nat.mod_lt _ (by decide)); go_wp2
   refine ⟨⟨v / 16, m, n, dk.setIfInBounds m (hexb (v % 16)), by congr 1, rfl, ?_, Lib.hid (hHx0.out.step hv)⟩, by simp [RowKit.intOf]⟩; rw [AW0.out]; have h1 := store1_world (w.alloc (.cells zeros65 155)) w.heap.size 0 dk n m (hexb (v % 16)) (by omega); rwa [Nat.zero_add] at h1
  ·have hidx : ∀ W, (Instr.index 9 (.string Lib.digits36) (.int .u64 (v : Int))).run Tryz.prog W = .ok (.int .u8 ((hexb v).toNat : Int)) W := idx_hex 9 Tryz.underlying9 .u64 _ _ rfl (by omega); have hw1 : W0.setCell ⟨w.heap.size, m, none⟩ (.int .u8 ((hexb v).toNat : Int)) = (putRow encB (w.alloc (.cells zeros65 155)) w.heap.size 0 (dk.setIfInBounds m (hexb v))).drewN n := by
    rw [AW0.out]; have h1 := store1_world (w.alloc (.cells zeros65 155)) w.heap.size 0 dk n m (hexb v) (by omega); rwa [Nat.zero_add] at h1
   have HL : hexB u = (dk.setIfInBounds m (hexb v)).toList.drop m := hHx0.out.last (by omega); have hl : (hexB u).length = 65 - m := by rw [HL, List.length_drop, Array.length_toList, Array.size_setIfInBounds, hs0]
   have hcv : (convert 22 9 (.slice (some ⟨w.heap.size, m, none⟩) (65 - m) (65 - m))).run Tryz.prog (W0.setCell ⟨w.heap.size, m, none⟩ (.int .u8 ((hexb v).toNat : Int))) = .ok (.string ⟨(hexB u).toArray⟩) (W0.setCell ⟨w.heap.size, m, none⟩ (.int .u8 ((hexb v).toNat : Int))) := by
    have h := run_convert_bytes_back (P := Tryz.prog) (W0.setCell ⟨w.heap.size, m, none⟩ (.int .u8 ((hexb v).toNat : Int))) 22 9 5 ⟨w.heap.size, m, none⟩ (65 - m) (hexB u) Tryz.underlying22 Tryz.underlying5 Tryz.underlying9 (fun j hj => by
     have hj2 : m + j < 65 := by omega
     have h2 := cell?_putRow encB (w.alloc (.cells zeros65 155)) w.heap.size 0 _ (dk.setIfInBounds m (hexb v)) hHx1.out (by simp [hs0]) (m + j) (by simp [hs0]; omega); rw [Nat.zero_add] at h2; rw [Lib.add_plain, hw1, World.cell?_drewN, h2]; have h3 : (dk.setIfInBounds m (hexb v))[m + j]! = (hexB u)[j] := by
      rw [getElem!_pos _ _ (by simp [hs0]; omega)]; simp only [HL, List.getElem_drop, Array.getElem_toList]
     rw [← h3])
    rw [hl] at h; exact h
   rw [hw1] at hcv; have hal : Tryz.prog.arrayLen 155 = 65 := by kernel_rfl
   have hsl : ∀ W, (Instr.sliceAt 155 (.pointer (some ⟨w.heap.size, 0, none⟩)) (some (.int .i64 (m : Int))) none none).run Tryz.prog W = .ok (.slice (some ⟨w.heap.size, m, none⟩) (65 - m) (65 - m)) W := fun W => by
    rw [run_sliceAt_array_l W 155 ⟨w.heap.size, 0, none⟩ (by simp [Program.arrayLen, Program.elem, Tryz.underlying155]) .i64 (m : Int) (by omega) (by rw [hal]; omega)]; go_simp
    omega
   clear hal HL hl; go_wp2
   go_ret2
   refine ⟨rfl, ?_⟩; rw [alloc_eq_grow]; obtain ⟨os', _, e⟩ := putRow_grow_new encB w #[.cells zeros65 155] w.heap.size 0 (dk.setIfInBounds m (hexb v)) (Nat.le_refl _); rw [e]; exact Lib.below_grow _ w (Nat.le_refl _) n os'
theorem hx_format (u : Nat) (hu : u < 9223372036854775808) (w : World) (htab : Lib.TabIs Tryz.prog w "math/bits.deBruijn64tab" .u8 debTab) :
  Calls Tryz.prog 129 #[.int .i64 u, .int .i64 16] w fun e w' => e = .returned (.string ⟨(hexB u).toArray⟩) ∧ Below w.heap.size w w' := by
 have hwr : IntKind.u64.wrap (u : Int) = (u : Int) := by rw [IntKind.wrap_u64]; omega
 have hb := hx_bits u (by omega) w htab; go_enter Tryz.func129, Tryz.ntmps129
 go_wp2_with (go_at_call 153; refine hb.mono ?_; rintro e w' ⟨rfl, hB⟩)
 go_ret
 exact ⟨rfl, hB⟩
theorem hx_public (u : Nat) (hu : u < 9223372036854775808) (w : World) (htab : Lib.TabIs Tryz.prog w "math/bits.deBruijn64tab" .u8 debTab) :
  Calls Tryz.prog 102 #[.int .i64 u, .int .i64 16] w fun e w' => e = .returned (.string ⟨(hexB u).toArray⟩) ∧ Below w.heap.size w w' := by
 go_enter Tryz.func102, Tryz.ntmps102
 go_wp2_with (go_at_call 129; refine (hx_format u hu w htab).mono ?_; rintro e w' ⟨rfl, hB⟩)
 go_ret
 exact ⟨rfl, hB⟩
end
def strconv_FormatInt.f (a0 : Int) (a1 : Int) : Option ByteArray := if 0 ≤ a0 ∧ a0 ≤ 9223372036854775807 ∧ a1 = 16 then some ⟨(hexB a0.toNat).toArray⟩ else none
theorem strconv_FormatInt.calls (a0 : Int) (a1 : Int) (r : ByteArray) (w : World) (h : strconv_FormatInt.f a0 a1 = some r) (hG : GOK w) :
  Calls Tryz.prog 102 #[.int .i64 a0, .int .i64 a1] w fun e w' => e = .returned (.string r) ∧ Below w.heap.size w w' := by
 unfold strconv_FormatInt.f at h
 split at h
 ·rename_i hs
  obtain ⟨h0, h1, rfl⟩ := hs; obtain rfl := Option.some.inj h; have hp := hx_public a0.toNat (by omega) w hG.deb; rw [Int.toNat_of_nonneg h0] at hp; exact hp
 ·cases h

def impl_Hex.f (a0 : Int) : Option (ByteArray) := (strconv_FormatInt.f (mx a0 0) 16).bind fun t267 => (some t267)
theorem impl_Hex.calls (a0 : Int) (r : ByteArray) (w : World) (h : impl_Hex.f a0 = some r) (hG : GOK w) :
  Calls Tryz.prog 79 #[.int .i64 a0] w fun e w' => e = .returned (.string r) ∧ Below w.heap.size w w' := by
 have HB := aK (Below.refl w.heap.size w); have H : ((strconv_FormatInt.f (mx a0 0) 16).bind fun t267 => (some t267)) = some r := h; clear h; obtain ⟨ji2, hji2⟩ : ∃ j_ : Int, (mx a0 0) = j_ := ⟨_, rfl⟩; replace H : ((strconv_FormatInt.f (ji2) 16).bind fun t267 => (some t267)) = some r := q164_; (try (have hji2l : 0 ≤ ji2 := by (rw [← hji2]; unfold mx; (repeat' split) <;> omega))); (try (have hji2m : 0 ≤ ji2 := by omega)); have hji2_ : (if a0 < 0 then 0 else a0) = ji2 := hji2; replace H := oB H; obtain ⟨t267, A3, H⟩ := H; (try dsimp only at H); obtain rfl := Option.some.inj H; go_enter Tryz.func79, Tryz.ntmps79
 go_wp2_with (first | ((with_reducible refine gate_callee (f := 102) rfl ?_); refine goesL_ (some 5) rfl rfl Tryz.func102 (by kernel_rfl) rfl #[.int .i64 ji2, .int .i64 16] rfl q97_ ?_; (with_reducible refine (strconv_FormatInt.calls ji2 16 t267 _ A3.1 ?side99).mono ?_); (case side99 => exact q19_); rintro e w4 ⟨rfl, hb⟩; refine ⟨_, rfl, ?_⟩; replace HB := aK (below_step q1_ hb); clear hb))
 go_ret
 exact ⟨q95_, q1_⟩

def impl_PutChunks.l0 : Nat → ByteArray → ByteArray → List Int → Int → Int → Option (List Int)
 | 0, _, _, _, _, _ => none
 | k + 1, x0, x5, x13, x14, x15 => if x15 < x14 then (if 0 ≤ x15 then (if x15 < (x13.length : Int) then (if (rd x13 x15) < 1 then (impl_PutChunks.l0 k x0 x5 x13 x14 (wrap64 (x15 + 1))) else (if x0.toList = ([] : List UInt8) then (impl_PutChunks.l0 k x0 x5 x13 x14 (wrap64 (x15 + 1))) else ((impl_Hex.f (mn (rd x13 x15) (x0.size : Int))).bind fun t275 => (if t275.size + 2 ≤ 9223372036854775807 then (if 0 ≤ (mn (rd x13 x15) (x0.size : Int)) then (if (mn (rd x13 x15) (x0.size : Int)) ≤ (x0.size : Int) then (if (t275 ++ (⟨#[13, 10]⟩ : BA)).size + (x0.extract 0 ((mn (rd x13 x15) (x0.size : Int)) : Int).toNat).size ≤ 9223372036854775807 then (if ((t275 ++ (⟨#[13, 10]⟩ : BA)) ++ (x0.extract 0 ((mn (rd x13 x15) (x0.size : Int)) : Int).toNat)).size + 2 ≤ 9223372036854775807 then (if x5.size + (((t275 ++ (⟨#[13, 10]⟩ : BA)) ++ (x0.extract 0 ((mn (rd x13 x15) (x0.size : Int)) : Int).toNat)) ++ (⟨#[13, 10]⟩ : BA)).size ≤ 9223372036854775807 then (impl_PutChunks.l0 k (x0.extract ((mn (rd x13 x15) (x0.size : Int)) : Int).toNat x0.size) (x5 ++ (((t275 ++ (⟨#[13, 10]⟩ : BA)) ++ (x0.extract 0 ((mn (rd x13 x15) (x0.size : Int)) : Int).toNat)) ++ (⟨#[13, 10]⟩ : BA))) x13 x14 (wrap64 (x15 + 1))) else (none)) else (none)) else (none)) else (none)) else (none)) else (none))))) else (none)) else (none)) else (if x5.size + 1 ≤ 9223372036854775807 then (if (x5 ++ (⟨#[48]⟩ : BA)).size + 2 ≤ 9223372036854775807 then (if ((x5 ++ (⟨#[48]⟩ : BA)) ++ (⟨#[13, 10]⟩ : BA)).size + 2 ≤ 9223372036854775807 then (if (((x5 ++ (⟨#[48]⟩ : BA)) ++ (⟨#[13, 10]⟩ : BA)) ++ (⟨#[13, 10]⟩ : BA)).size < 140737488355328 then (some (bytesOf (((x5 ++ (⟨#[48]⟩ : BA)) ++ (⟨#[13, 10]⟩ : BA)) ++ (⟨#[13, 10]⟩ : BA)))) else (none)) else (none)) else (none)) else (none))
def impl_PutChunks.f (k : Nat) (a0 : ByteArray) (l1 : List Int) : Option (List Int) := (impl_copyInts.f l1).bind fun t268 => (if t268.length < 17592186044416 then ((some (t268 ++ [(a0.size : Int)] : List Int)).bind fun y271 => (impl_PutChunks.l0 k a0 (⟨#[]⟩ : BA) y271 (y271.length : Int) 0)) else (none))

def impl_PutChunks.T7 : Bool × List (List Nat × List Nat) := (true, [([], []), ([], []), ([1], [1]), ([2], [2]), ([], []), ([], []), ([4, 5], [4, 5]), ([3, 6], [3, 6]), ([7], [7]), ([0, 8], [0, 8]), ([9, 2, 0, 1, 2, 3, 4, 5, 6, 7, 8, 9], [0, 9])])
def impl_PutChunks.B7 : List Nat := [0, 0, 2, 6, 0, 0, 48, 126, 254, 511, 1023]
theorem impl_PutChunks.tab7 : rtab .any (opsOf Tryz.f44 7) = impl_PutChunks.T7 := by kernel_rfl
theorem impl_PutChunks.bits7 : waitsOk impl_PutChunks.T7.2 impl_PutChunks.B7 = true := by kernel_rfl
theorem impl_PutChunks.calls (k : Nat) (a0 : ByteArray) (A1 : Option Addr) (c1 : Nat) (l1 : List Int) (r : List Int) (w : World) (hr1 : Kd.C (Kd.int .i64) w A1 l1.length l1) (hc1 : l1.length ≤ c1) (h : impl_PutChunks.f k a0 l1 = some r) (hG : GOK w) :
  Calls Tryz.prog 44 #[.string a0, .slice A1 l1.length c1] w fun e w' => ∃ v0_ : Value, e = .returned (v0_) ∧ Kd.R (Kd.int .u8) 5 w' w.heap.size (fun _ => True) v0_ r ∧ Below w.heap.size w w' := by
 have HR1 := aK hr1; have HC1 := aK hc1; clear hr1 hc1; have HB := aK (Below.refl w.heap.size w); have H := h; clear h; unfold impl_PutChunks.f at H
 replace H := oB H; obtain ⟨t268, A3, H⟩ := H; (try dsimp only at H); by_cases c4 : t268.length < 17592186044416
 ·rw [if_pos c4] at H; have LMc4 := aK c4; clear c4; (first | (with_reducible replace H := oS H; obtain ⟨y271, Ny271, H⟩ := H) | (generalize hy_ : (t268 ++ [(a0.size : Int)] : List Int) = y271 at H; have Ny271 := aK hy_.symm; clear hy_)); (try dsimp only at H); have H' := aK H; clear H; go_enter Tryz.func44, Tryz.ntmps44
  go_wp2_with (first | ((with_reducible refine gate_callee (f := 78) rfl ?_); refine goesL_ (some 9) rfl rfl Tryz.func78 (by kernel_rfl) rfl #[.slice A1 l1.length c1] rfl q2_ ?_; (with_reducible refine (impl_copyInts.calls _ _ l1 t268 _ ?side1 ?side2 A3.1).mono ?_); (case side1 => exact q161_); (case side2 => exact HC1.1); rintro e w5 ⟨v269, rfl, ho0, hb⟩; refine ⟨_, rfl, ?_⟩; have HO270 := aK (Kd.R_lower ho0 (below_size q1_)); replace HB := aK (below_step q1_ hb); clear hb ho0) | ((with_reducible refine gate_builtin (b := .append) (xs := #[.tmp 9, .tmp 12]) rfl ?_); at_builtin; refine Kd.R_append (Kd.int .i64) (w0 := w) w.heap.size rfl (.tmp 9) (.tmp 12) 55 3 (.int .i64 0) 8 rfl Tryz.underlying55 info3 rfl (by decide) (by omega) v269 t268 (a0.size : Int) [.int .i64 (a0.size : Int)] (fun _ => True) (fun _ => False) rfl rfl ?aP (fun _ hk => hk.elim) ?aF ?aO ?aB ?aS ?aL ?_; (case aP => exact rfl); (case aB => exact q1_); (case aF => exact q120_); (case aO => exact (by (with_reducible repeat (first | apply rA_ | apply rN_ | apply rD_)); exact HO270.1)); (case aS => exact (below_size q1_)); (case aL => have := LMc4.1; omega); intro v272 w6 ho hb hg hat; rw [← Ny271.1] at ho; replace HB := aK (hb); have HO273 := aK (ho); clear HO270; clear ho hb hg hat; obtain ⟨Ao7, co7, eo7⟩ := Kd.R_slice HO273.1; subst eo7))
  go_loopg [0, 5, 15] k (fun kq v0 v5 v15 w' => ∃ (x0_1 : ByteArray) (x5_1 : ByteArray) (x15_1 : Int), v0 = .string x0_1 ∧ v5 = .string x5_1 ∧ v15 = .int .i64 x15_1 ∧ Aside0 (impl_PutChunks.l0 kq x0_1 x5_1 y271 (y271.length : Int) x15_1 = some r) ∧ Aside0 (kq ≤ k) ∧ Aside0 (Kd.R (Kd.int .i64) 3 w' w.heap.size (fun _ => True) (.slice Ao7 y271.length co7) y271) ∧ Aside0 (Below w.heap.size w w'))
  case atStart => exact ⟨(a0), ((⟨#[]⟩ : BA)), (0), q3_, q3_, q3_, H', ⟨Nat.le_refl _⟩, ⟨by (with_reducible repeat (first | apply rA_ | apply rN_ | apply rD_)); first | exact HO273.1 | exact Kd.R_mono HO273.1 (fun k_ h_ e_ => h_ (e_.trans (ob_len _ _ _ _ _)))⟩, ⟨q1_⟩⟩
  case round =>
   clear H'; (try clear c1); (try clear p2); (try clear c4); (try clear c7); obtain ⟨x0_1, x5_1, x15_1, rfl, rfl, rfl, HA, HK1, HO_13, HB⟩ := hrel; cases gk with
   | zero => exact absurd HA.1 (by simp [impl_PutChunks.l0])
   | succ k1 =>
    have H := HA.1; clear HA; simp only [impl_PutChunks.l0] at H; by_cases c8 : x15_1 < (y271.length : Int)
    ·rw [if_pos c8] at H; have c8b0 := decide_eq_true c8; clear c8; by_cases c9 : 0 ≤ x15_1
     ·rw [if_pos c9] at H; have c9b0 := decide_eq_true c9; clear c9; by_cases c10 : x15_1 < (y271.length : Int)
      ·rw [if_pos c10] at H; have c10b0 := decide_eq_true c10; clear c10; by_cases c11 : (rd y271 x15_1) < 1
       ·rw [if_pos c11] at H; have c11b0 := decide_eq_true c11; clear c11; have H' := aK H; clear H; have p274 : 0 ≤ (x15_1 : Int) := of_decide_eq_true q4_; have q274 : x15_1 < (y271.length : Int) := of_decide_eq_true q4_; obtain ⟨ad274, e274, hx274_0⟩ := Kd.at_int (Kd.R_reads' HO_13.1).2.2 x15_1 p274 q274; cases e274
        replace p274 := eq_true p274; replace q274 := eq_true q274; go_wp2
        go_roundg k1
        case measure => have := HK1.1; omega
        case rel => exact ⟨(x0_1), (x5_1), (wrap64 (x15_1 + 1)), q3_, q3_, q3_, H', ⟨q82_⟩, ⟨q115_⟩, ⟨q1_⟩⟩
       ·rw [if_neg c11] at H; have c11b0 := decide_eq_false c11; clear c11; by_cases c12 : x0_1.toList = ([] : List UInt8)
        ·rw [if_pos c12] at H; have c12b0 := beq_iff_eq.mpr c12; have c12b1 : (x0_1.toList != ([] : List UInt8)) = false := bne_eq_false_iff_eq.mpr c12; clear c12; have H' := aK H; clear H; have p274 : 0 ≤ (x15_1 : Int) := of_decide_eq_true q4_; have q274 : x15_1 < (y271.length : Int) := of_decide_eq_true q4_; obtain ⟨ad274, e274, hx274_0⟩ := Kd.at_int (Kd.R_reads' HO_13.1).2.2 x15_1 p274 q274; cases e274
         replace p274 := eq_true p274; replace q274 := eq_true q274; go_wp2
         go_roundg k1
         case measure => have := HK1.1; omega
         case rel => exact ⟨(x0_1), (x5_1), (wrap64 (x15_1 + 1)), q3_, q3_, q3_, H', ⟨q82_⟩, ⟨q115_⟩, ⟨q1_⟩⟩
        ·rw [if_neg c12] at H; have c12b0 := beq_eq_false_iff_ne.mpr c12; have c12b1 : (x0_1.toList != ([] : List UInt8)) = true := bne_iff_ne.mpr c12; obtain ⟨ji13, hji13⟩ : ∃ j_ : Int, (mn (rd y271 x15_1) (x0_1.size : Int)) = j_ := ⟨_, rfl⟩; replace H : ((impl_Hex.f (ji13)).bind fun t275 => (if t275.size + 2 ≤ 9223372036854775807 then (if 0 ≤ (ji13) then (if (ji13) ≤ (x0_1.size : Int) then (if (t275 ++ (⟨#[13, 10]⟩ : BA)).size + (x0_1.extract 0 ((ji13) : Int).toNat).size ≤ 9223372036854775807 then (if ((t275 ++ (⟨#[13, 10]⟩ : BA)) ++ (x0_1.extract 0 ((ji13) : Int).toNat)).size + 2 ≤ 9223372036854775807 then (if x5_1.size + (((t275 ++ (⟨#[13, 10]⟩ : BA)) ++ (x0_1.extract 0 ((ji13) : Int).toNat)) ++ (⟨#[13, 10]⟩ : BA)).size ≤ 9223372036854775807 then (impl_PutChunks.l0 k1 (x0_1.extract ((ji13) : Int).toNat x0_1.size) (x5_1 ++ (((t275 ++ (⟨#[13, 10]⟩ : BA)) ++ (x0_1.extract 0 ((ji13) : Int).toNat)) ++ (⟨#[13, 10]⟩ : BA))) y271 (y271.length : Int) (wrap64 (x15_1 + 1))) else (none)) else (none)) else (none)) else (none)) else (none)) else (none))) = some r := by first | (rw [hji13] at H; exact H) | (simp only [hji13] at H ⊢; exact H)
         have hji13_ : (if (x0_1.size : Int) < (rd y271 x15_1) then (x0_1.size : Int) else (rd y271 x15_1)) = ji13 := hji13; replace H := oB H; obtain ⟨t275, A14, H⟩ := H; (try dsimp only at H); by_cases c15 : t275.size + 2 ≤ 9223372036854775807
         ·rw [if_pos c15] at H; have c15b0 := eq_true c15; have c15b1 := decide_eq_true c15; try have c15b2 : (9223372036854775807 < t275.size + 2) = False := eq_false (Nat.not_lt.2 c15)
          by_cases c16 : 0 ≤ (ji13)
          ·rw [if_pos c16] at H; have c16b0 := eq_true c16; have c16b1 := decide_eq_true c16; clear c16; by_cases c17 : (ji13) ≤ (x0_1.size : Int)
           ·rw [if_pos c17] at H; have c17b0 := eq_true c17; have c17b1 := decide_eq_true c17; clear c17; by_cases c18 : (t275 ++ (⟨#[13, 10]⟩ : BA)).size + (x0_1.extract 0 ((ji13) : Int).toNat).size ≤ 9223372036854775807
            ·rw [if_pos c18] at H; have c18b0 := eq_true c18; have c18b1 := decide_eq_true c18; try have c18b2 : (9223372036854775807 < (t275 ++ (⟨#[13, 10]⟩ : BA)).size + (x0_1.extract 0 ((ji13) : Int).toNat).size) = False := eq_false (Nat.not_lt.2 c18)
             have c18s : t275.size + 2 + (x0_1.extract 0 ((ji13) : Int).toNat).size ≤ 9223372036854775807 := by have h_ := c18; simp only [ByteArray.size_append] at h_; exact h_
             have c18s0 := eq_true c18s; have c18s1 : decide (t275.size + 2 + (x0_1.extract 0 ((ji13) : Int).toNat).size ≤ 9223372036854775807) = true := decide_eq_true c18s; have c18s2 : (9223372036854775807 < t275.size + 2 + (x0_1.extract 0 ((ji13) : Int).toNat).size) = False := eq_false (Nat.not_lt.2 c18s); have c18t : t275.size + 2 + ji13.toNat ≤ 9223372036854775807 := by have h_ := c18s; have dc17_ := of_decide_eq_true c17b1; simp only [ByteArray.size_extract] at h_; omega
             have c18t0 := eq_true c18t; have c18t1 : decide (t275.size + 2 + ji13.toNat ≤ 9223372036854775807) = true := decide_eq_true c18t; have c18t2 : (9223372036854775807 < t275.size + 2 + ji13.toNat) = False := eq_false (Nat.not_lt.2 c18t); by_cases c19 : ((t275 ++ (⟨#[13, 10]⟩ : BA)) ++ (x0_1.extract 0 ((ji13) : Int).toNat)).size + 2 ≤ 9223372036854775807
             ·rw [if_pos c19] at H; have c19b0 := eq_true c19; have c19b1 := decide_eq_true c19; try have c19b2 : (9223372036854775807 < ((t275 ++ (⟨#[13, 10]⟩ : BA)) ++ (x0_1.extract 0 ((ji13) : Int).toNat)).size + 2) = False := eq_false (Nat.not_lt.2 c19)
              have c19s : t275.size + 2 + (x0_1.extract 0 ((ji13) : Int).toNat).size + 2 ≤ 9223372036854775807 := by have h_ := c19; simp only [ByteArray.size_append] at h_; exact h_
              have c19s0 := eq_true c19s; have c19s1 : decide (t275.size + 2 + (x0_1.extract 0 ((ji13) : Int).toNat).size + 2 ≤ 9223372036854775807) = true := decide_eq_true c19s; have c19s2 : (9223372036854775807 < t275.size + 2 + (x0_1.extract 0 ((ji13) : Int).toNat).size + 2) = False := eq_false (Nat.not_lt.2 c19s); have c19t : t275.size + 2 + ji13.toNat + 2 ≤ 9223372036854775807 := by have h_ := c19s; have dc17_ := of_decide_eq_true c17b1; simp only [ByteArray.size_extract] at h_; omega
              have c19t0 := eq_true c19t; have c19t1 : decide (t275.size + 2 + ji13.toNat + 2 ≤ 9223372036854775807) = true := decide_eq_true c19t; have c19t2 : (9223372036854775807 < t275.size + 2 + ji13.toNat + 2) = False := eq_false (Nat.not_lt.2 c19t); by_cases c20 : x5_1.size + (((t275 ++ (⟨#[13, 10]⟩ : BA)) ++ (x0_1.extract 0 ((ji13) : Int).toNat)) ++ (⟨#[13, 10]⟩ : BA)).size ≤ 9223372036854775807
              ·rw [if_pos c20] at H; have c20b0 := eq_true c20; have c20b1 := decide_eq_true c20; try have c20b2 : (9223372036854775807 < x5_1.size + (((t275 ++ (⟨#[13, 10]⟩ : BA)) ++ (x0_1.extract 0 ((ji13) : Int).toNat)) ++ (⟨#[13, 10]⟩ : BA)).size) = False := eq_false (Nat.not_lt.2 c20)
               have c20s : x5_1.size + (t275.size + 2 + (x0_1.extract 0 ((ji13) : Int).toNat).size + 2) ≤ 9223372036854775807 := by have h_ := c20; simp only [ByteArray.size_append] at h_; exact h_
               have c20s0 := eq_true c20s; have c20s1 : decide (x5_1.size + (t275.size + 2 + (x0_1.extract 0 ((ji13) : Int).toNat).size + 2) ≤ 9223372036854775807) = true := decide_eq_true c20s; have c20s2 : (9223372036854775807 < x5_1.size + (t275.size + 2 + (x0_1.extract 0 ((ji13) : Int).toNat).size + 2)) = False := eq_false (Nat.not_lt.2 c20s); have c20t : x5_1.size + (t275.size + 2 + ji13.toNat + 2) ≤ 9223372036854775807 := by have h_ := c20s; have dc17_ := of_decide_eq_true c17b1; simp only [ByteArray.size_extract] at h_; omega
               have c20t0 := eq_true c20t; have c20t1 : decide (x5_1.size + (t275.size + 2 + ji13.toNat + 2) ≤ 9223372036854775807) = true := decide_eq_true c20t; have c20t2 : (9223372036854775807 < x5_1.size + (t275.size + 2 + ji13.toNat + 2)) = False := eq_false (Nat.not_lt.2 c20t); have c21b0 := eq_true (of_decide_eq_true q4_ : 0 ≤ (ji13)); have c22b0 := eq_true (of_decide_eq_true q4_ : (ji13) ≤ (x0_1.size : Int)); have H' := aK H; clear H; have p274 : 0 ≤ (x15_1 : Int) := of_decide_eq_true q4_; have q274 : x15_1 < (y271.length : Int) := of_decide_eq_true q4_; obtain ⟨ad274, e274, hx274_0⟩ := Kd.at_int (Kd.R_reads' HO_13.1).2.2 x15_1 p274 q274; cases e274
               replace p274 := eq_true p274; replace q274 := eq_true q274; try go_wp2
               replace HO_13 := aK (rD_ HO_13.1); replace HB := aK (dB_ HB.1); refine start_ (n := 11) (S := fun w' => True) (ds := []) #[Z, Z, Z, Z, Z, Z, Z, Z, Z, Z, Z] (by kernel_rfl) rfl rfl trivial (fun hHeld => ?_); refine with_tabW impl_PutChunks.tab7 impl_PutChunks.bits7 (fun HT_ HW_ => ?_); generalize wr.drew = w23 at HO_13 HB hHeld ⊢; refine pz_ 0 (some 29) HT_.1 ?_; refine pz_ 1 (some 30) HT_.1 ?_; refine pz_ 4 (some 33) HT_.1 ?_; refine pz_ 5 (some 34) HT_.1 ?_; refine pz_ 6 (some 35) HT_.1 ?_; refine oz_ 2 (some 31) HT_.1 (fun K hK => ?_); refine goes_ Tryz.func79 (by kernel_rfl) rfl #[.int .i64 ji13] (by rfl) rfl rfl (by (try simp only [List.map_toArray, List.map_cons, List.map_nil]); first | done | (simp only [hji13]; rfl) | rfl | (simp only [List.length_drop, List.length_take]; rfl)) ?_; with_reducible refine (impl_Hex.calls ji13 t275 _ A14.1 ?side99).mono ?_
               (case side99 => exact q19_); rintro e w24 ⟨rfl, hb⟩; refine ⟨_, rfl, ?_⟩; replace HO_13 := aK (Kd.R_below (by (with_reducible repeat (first | apply rA_ | apply rN_ | apply rD_)); exact HO_13.1) hb); replace HB := aK (below_step q1_ hb); clear hb; refine hK.out _ _ trivial (fun hHeld => ?_); clear hK K; refine nz_ (some 31) ?_; refine pz_ 3 (some 32) HT_.1 ?_; refine pz_ 7 (some 36) HT_.1 ?_; refine pz_ 8 (some 37) HT_.1 ?_; refine pz_ 9 (some 38) HT_.1 ?_; refine pz_ 10 (some 5) HT_.1 ?_; refine done_ (done_of HT_.1 (by kernel_rfl)) ?_; try go_wp2
               go_roundg k1
               case measure => have := HK1.1; omega
               case rel => exact ⟨(x0_1.extract ((ji13) : Int).toNat x0_1.size), (x5_1 ++ (((t275 ++ (⟨#[13, 10]⟩ : BA)) ++ (x0_1.extract 0 ((ji13) : Int).toNat)) ++ (⟨#[13, 10]⟩ : BA))), (wrap64 (x15_1 + 1)), q166_, q166_, q3_, H', ⟨q82_⟩, ⟨q115_⟩, ⟨q1_⟩⟩
              ·rw [if_neg c20] at H; exact absurd H (by simp)
             ·rw [if_neg c19] at H; exact absurd H (by simp)
            ·rw [if_neg c18] at H; exact absurd H (by simp)
           ·rw [if_neg c17] at H; exact absurd H (by simp)
          ·rw [if_neg c16] at H; exact absurd H (by simp)
         ·rw [if_neg c15] at H; exact absurd H (by simp)
      ·rw [if_neg c10] at H; exact absurd H (by simp)
     ·rw [if_neg c9] at H; exact absurd H (by simp)
    ·rw [if_neg c8] at H; have c8b0 := decide_eq_false c8; clear c8; by_cases c25 : x5_1.size + 1 ≤ 9223372036854775807
     ·rw [if_pos c25] at H; have c25b0 := eq_true c25; have c25b1 := decide_eq_true c25; try have c25b2 : (9223372036854775807 < x5_1.size + 1) = False := eq_false (Nat.not_lt.2 c25)
      by_cases c26 : (x5_1 ++ (⟨#[48]⟩ : BA)).size + 2 ≤ 9223372036854775807
      ·rw [if_pos c26] at H; have c26b0 := eq_true c26; have c26b1 := decide_eq_true c26; try have c26b2 : (9223372036854775807 < (x5_1 ++ (⟨#[48]⟩ : BA)).size + 2) = False := eq_false (Nat.not_lt.2 c26)
       have c26s : x5_1.size + 1 + 2 ≤ 9223372036854775807 := by have h_ := c26; simp only [ByteArray.size_append] at h_; exact h_
       have c26s0 := eq_true c26s; have c26s1 : decide (x5_1.size + 1 + 2 ≤ 9223372036854775807) = true := decide_eq_true c26s; have c26s2 : (9223372036854775807 < x5_1.size + 1 + 2) = False := eq_false (Nat.not_lt.2 c26s); by_cases c27 : ((x5_1 ++ (⟨#[48]⟩ : BA)) ++ (⟨#[13, 10]⟩ : BA)).size + 2 ≤ 9223372036854775807
       ·rw [if_pos c27] at H; have c27b0 := eq_true c27; have c27b1 := decide_eq_true c27; try have c27b2 : (9223372036854775807 < ((x5_1 ++ (⟨#[48]⟩ : BA)) ++ (⟨#[13, 10]⟩ : BA)).size + 2) = False := eq_false (Nat.not_lt.2 c27)
        have c27s : x5_1.size + 1 + 2 + 2 ≤ 9223372036854775807 := by have h_ := c27; simp only [ByteArray.size_append] at h_; exact h_
        have c27s0 := eq_true c27s; have c27s1 : decide (x5_1.size + 1 + 2 + 2 ≤ 9223372036854775807) = true := decide_eq_true c27s; have c27s2 : (9223372036854775807 < x5_1.size + 1 + 2 + 2) = False := eq_false (Nat.not_lt.2 c27s); by_cases c28 : (((x5_1 ++ (⟨#[48]⟩ : BA)) ++ (⟨#[13, 10]⟩ : BA)) ++ (⟨#[13, 10]⟩ : BA)).size < 140737488355328
        ·rw [if_pos c28] at H; have LMc28 := aK c28; clear c28; (first | (with_reducible replace H := oS H; obtain ⟨y276, Ny276, H⟩ := H) | (generalize hy_ : (bytesOf (((x5_1 ++ (⟨#[48]⟩ : BA)) ++ (⟨#[13, 10]⟩ : BA)) ++ (⟨#[13, 10]⟩ : BA)) : List Int) = y276 at H; have Ny276 := aK hy_.symm; clear hy_)); (try dsimp only at H); obtain rfl := Option.some.inj H; go_wp2_with (first | ((with_reducible refine gate_ (.convert 9 22 _) rfl ?_); refine Kd.R_conv_str (w0 := w) w.heap.size rfl 9 22 5 _ rfl Tryz.underlying9 Tryz.underlying22 Tryz.underlying5 (((x5_1 ++ (⟨#[48]⟩ : BA)) ++ (⟨#[13, 10]⟩ : BA)) ++ (⟨#[13, 10]⟩ : BA)) (fun _ => True) rfl ?aF ?aO ?aB ?aS ?aL ?_; (case aB => exact q1_); (case aF => exact q120_); (case aO => exact q133_); (case aS => exact (below_size q1_)); (case aL => have := LMc28.1; omega); intro v277 w29 ho hb hg hat; rw [← Ny276.1] at ho; replace HO_13 := aK (Kd.R_grown (by (with_reducible repeat (first | apply rA_ | apply rN_ | apply rD_)); exact HO_13.1) hg (fun _ _ => by simp [Value.ownBlock])); replace HB := aK (hb); have HO278 := aK (ho); clear ho hb hg hat))
         go_ret
         exact ⟨_, q8_, by (with_reducible repeat (first | apply rA_ | apply rN_ | apply rD_)); exact HO278.1, q1_⟩
        ·rw [if_neg c28] at H; exact absurd H (by simp)
       ·rw [if_neg c27] at H; exact absurd H (by simp)
      ·rw [if_neg c26] at H; exact absurd H (by simp)
     ·rw [if_neg c25] at H; exact absurd H (by simp)
 ·rw [if_neg c4] at H; exact absurd H (by simp)

def impl_in.f (a0 : Int) (a1 : Int) (a2 : Int) : Option (Bool) := if a0 ≥ a1 then (some (decide (a0 ≤ a2))) else (some false)
theorem impl_in.calls (a0 : Int) (a1 : Int) (a2 : Int) (r : Bool) (w : World) (h : impl_in.f a0 a1 a2 = some r) :
  Calls Tryz.prog 80 #[.int .i64 a0, .int .i64 a1, .int .i64 a2] w fun e w' => e = .returned (.bool r) ∧ Drawn0 w w' := by
 have H : (if a0 ≥ a1 then (some (decide (a0 ≤ a2))) else (some false)) = some r := h; clear h; by_cases c4 : a0 ≥ a1
 ·rw [if_pos c4] at H; have c4b0 : decide (a1 ≤ a0) = true := decide_eq_true c4; clear c4; obtain rfl := Option.some.inj H; go_enter Tryz.func80, Tryz.ntmps80
  go_wp2
  go_ret
  exact ⟨q3_, q10_⟩
 ·rw [if_neg c4] at H; have c4b0 : decide (a1 ≤ a0) = false := decide_eq_false c4; clear c4; obtain rfl := Option.some.inj H; go_enter Tryz.func80, Tryz.ntmps80
  go_wp2
  go_ret
  exact ⟨q3_, q10_⟩

def impl_isLarge.f (a0 : Int) : Option (Bool) := if a0 ≥ 65 then (some (decide (a0 ≤ 90))) else (some false)
theorem impl_isLarge.calls (a0 : Int) (r : Bool) (w : World) (h : impl_isLarge.f a0 = some r) :
  Calls Tryz.prog 113 #[.int .u8 a0] w fun e w' => e = .returned (.bool r) ∧ Drawn0 w w' := by
 have H : (if a0 ≥ 65 then (some (decide (a0 ≤ 90))) else (some false)) = some r := h; clear h; by_cases c2 : a0 ≥ 65
 ·rw [if_pos c2] at H; have c2b0 : decide (65 ≤ a0) = true := decide_eq_true c2; clear c2; obtain rfl := Option.some.inj H; go_enter Tryz.func113, Tryz.ntmps113
  go_wp2
  go_ret
  exact ⟨q3_, q10_⟩
 ·rw [if_neg c2] at H; have c2b0 : decide (65 ≤ a0) = false := decide_eq_false c2; clear c2; obtain rfl := Option.some.inj H; go_enter Tryz.func113, Tryz.ntmps113
  go_wp2
  go_ret
  exact ⟨q3_, q10_⟩

def impl_isPlain.f (a0 : Int) : Option (Bool) := if a0 ≥ 32 then (some (decide (a0 ≤ 126))) else (some false)
theorem impl_isPlain.calls (a0 : Int) (r : Bool) (w : World) (h : impl_isPlain.f a0 = some r) :
  Calls Tryz.prog 142 #[.int .u8 a0] w fun e w' => e = .returned (.bool r) ∧ Drawn0 w w' := by
 have H : (if a0 ≥ 32 then (some (decide (a0 ≤ 126))) else (some false)) = some r := h; clear h; by_cases c2 : a0 ≥ 32
 ·rw [if_pos c2] at H; have c2b0 : decide (32 ≤ a0) = true := decide_eq_true c2; clear c2; obtain rfl := Option.some.inj H; go_enter Tryz.func142, Tryz.ntmps142
  go_wp2
  go_ret
  exact ⟨q3_, q10_⟩
 ·rw [if_neg c2] at H; have c2b0 : decide (32 ≤ a0) = false := decide_eq_false c2; clear c2; obtain rfl := Option.some.inj H; go_enter Tryz.func142, Tryz.ntmps142
  go_wp2
  go_ret
  exact ⟨q3_, q10_⟩

def impl_Plain.l0 : Nat → ByteArray → Int → Option (Bool)
 | 0, _, _ => none
 | k + 1, x0, x3 => if x3 < (x0.size : Int) then (if 0 ≤ x3 then ((impl_isPlain.f (bt x0 x3)).bind fun t279 => (if t279 = true then (impl_Plain.l0 k x0 (wrap64 (x3 + 1))) else (some false))) else (none)) else (some true)
def impl_Plain.f (k : Nat) (a0 : ByteArray) : Option (Bool) := impl_Plain.l0 k a0 0

theorem impl_Plain.calls (k : Nat) (a0 : ByteArray) (r : Bool) (w : World) (h : impl_Plain.f k a0 = some r) :
  Calls Tryz.prog 114 #[.string a0] w fun e w' => e = .returned (.bool r) ∧ Drawn0 w w' := by
 have H : (impl_Plain.l0 k a0 0) = some r := h; clear h; have H' := aK H; clear H; go_enter Tryz.func114, Tryz.ntmps114
 go_wp2
 go_loopg [3] k (fun kq v3 w' => ∃ (x3_1 : Int), v3 = .int .i64 x3_1 ∧ Aside0 (impl_Plain.l0 kq a0 x3_1 = some r) ∧ Aside0 (kq ≤ k) ∧ Drawn0 w w')
 case atStart => exact ⟨(0), q3_, H', ⟨Nat.le_refl _⟩, q10_⟩
 case round =>
  clear H'; (try clear c1); obtain ⟨x3_1, rfl, HA, HK1, ⟨m1, rfl⟩⟩ := hrel; cases gk with
  | zero => exact absurd HA.1 (by simp [impl_Plain.l0])
  | succ k1 =>
   have H := HA.1; clear HA; simp only [impl_Plain.l0] at H; by_cases c2 : x3_1 < (a0.size : Int)
   ·rw [if_pos c2] at H; have c2b0 := decide_eq_true c2; clear c2; by_cases c3 : 0 ≤ x3_1
    ·rw [if_pos c3] at H; have c3b0 := decide_eq_true c3; clear c3; replace H := oB H; obtain ⟨t279, A5, H⟩ := H; (try dsimp only at H); have HC6 := aK H; clear H; have p4 : 0 ≤ (x3_1 : Int) := of_decide_eq_true q4_; have q4 : x3_1 < (a0.size : Int) := of_decide_eq_true q4_; have hx4 := bt_at a0 x3_1; replace p4 := eq_true p4; replace q4 := eq_true q4; go_upto_if 14 with (first | ((with_reducible refine gate_callee (f := 142) rfl ?_); refine goesL_ (some 13) rfl rfl Tryz.func142 (by kernel_rfl) rfl #[.int .u8 (bt a0 x3_1)] rfl q2_ ?_; (with_reducible refine (impl_isPlain.calls (bt a0 x3_1) t279 _ A5.1).mono ?_); rintro e w' ⟨rfl, ⟨nd, rfl⟩⟩; refine ⟨_, rfl, ?_⟩))
     (try simp only [Act.put, sI, sZ, sS]); have H := HC6.1; clear HC6; by_cases c7 : t279 = true
     ·subst c7; rw [if_pos rfl] at H; have H' := aK H; clear H; go_wp2
      go_roundg k1
      case measure => have := HK1.1; omega
      case rel => exact ⟨(wrap64 (x3_1 + 1)), q3_, H', ⟨q82_⟩, q10_⟩
     ·replace c7 := Bool.eq_false_iff.mpr c7; subst c7; rw [if_neg (show ¬ (false = true) by decide)] at H; obtain rfl := Option.some.inj H; go_wp2
      go_ret
      exact ⟨q3_, q10_⟩
    ·rw [if_neg c3] at H; exact absurd H (by simp)
   ·rw [if_neg c2] at H; have c2b0 := decide_eq_false c2; clear c2; obtain rfl := Option.some.inj H; go_wp2
    go_ret
    exact ⟨q3_, q10_⟩


def strings_Contains.f (a0 : ByteArray) (a1 : ByteArray) : Option Bool := match a1.data.toList with | [c] => some (decide (0 ≤ Lib.indexByte a0.data.toList c)) | _ => none
theorem strings_Contains.calls (a0 : ByteArray) (a1 : ByteArray) (r : Bool) (w : World) (h : strings_Contains.f a0 a1 = some r) :
  Calls Tryz.prog 115 #[.string a0, .string a1] w fun e w' => e = .returned (.bool r) ∧ Drawn0 w w' := by
 unfold strings_Contains.f at h
 split at h
 ·rename_i c hc
  obtain rfl := Option.some.inj h; obtain rfl : a1 = ⟨#[c]⟩ := by cases a1; simp only [ByteArray.mk.injEq]; exact Array.toList_inj.mp hc
  exact (Go.Proofs.YtaajhdljdmbhhaaGreatDoor.Shelf.Tryz.strings_Contains_one a0 c w).mono fun e w' ⟨he, hw⟩ => ⟨he, by subst hw; exact Drawn0.refl _⟩
 ·cases h

end Go.Proofs.YtaajhdljdmbhhaaGreatDoor.GFnChunks
