-- by gprint.py (this session's program over the kit's print.py) (a twelfth state) out of the translation. Not trusted: Lean checks it.
import Derived.Test.YtfncjddolbghlaaGreatDoorGFnMorex0
import Derived.Test.YtfncjddolbghlaaGreatDoorGFnMorex2
import Derived.Test.YtfncjddolbghlaaGreatDoorGFnMorex4
import Derived.Test.YtfncjddolbghlaaGreatDoorGFnMorex5
namespace Go.Proofs.YtfncjddolbghlaaGreatDoor.GFnMore
open Go.RowKit Go.Proofs.YtfncjddolbghlaaGreatDoorW.PrintWords Go.Proofs.YtfncjddolbghlaaGreatDoorW.PrintLast Go.Proofs.YtfncjddolbghlaaGreatDoorW.PrintMore
attribute [local go_sem] max2_int min2_int max_two min_two max_three min_three max_four min_four   -- for this text's walks alone
set_option linter.unusedVariables false
set_option linter.unusedSimpArgs false
set_option maxRecDepth 100000
set_option maxHeartbeats 8000000

def spec_l3Bytes.j0 : Nat → List Int → List Int → Int → Int → Option (List Int × Int × Int)
 | 0, _, _, _, _ => none
 | k + 1, x4, x1000, x1001, x1002 => (spec_l1Below.f x1000 x1001 x1002 8).bind fun bt271 => (if bt271.1 = 0 then ((spec_l1Str.f x1000 bt271.2.1 bt271.2.2 (([(⟨#[71, 69, 84, 32, 47, 32, 72, 84, 84, 80, 47, 49, 46, 49, 13, 10, 13, 10]⟩ : ByteArray), (⟨#[71, 69, 84, 32, 47, 32, 72, 84, 84, 80, 47, 49, 46, 48, 13, 10, 13, 10]⟩ : ByteArray), (⟨#[71, 69, 84, 32, 47, 13, 10, 13, 10]⟩ : ByteArray), (⟨#[80, 85, 84, 32, 47, 32, 72, 84, 84, 80, 47, 49, 46, 49, 13, 10, 67, 111, 110, 116, 101, 110, 116, 45, 76, 101, 110, 103, 116, 104, 58, 32, 51, 13, 10, 13, 10, 97, 98, 99]⟩ : ByteArray), (⟨#[80, 85, 84, 32, 47, 32, 72, 84, 84, 80, 47, 49, 46, 49, 13, 10, 99, 111, 110, 116, 101, 110, 116, 45, 108, 101, 110, 103, 116, 104, 58, 32, 50, 48, 49, 13, 10, 13, 10]⟩ : ByteArray), (⟨#[80, 85, 84, 32, 47, 32, 72, 84, 84, 80, 47, 49, 46, 49, 13, 10, 99, 111, 110, 116, 101, 110, 116, 45, 108, 101, 110, 103, 116, 104, 58, 32, 49, 13, 10, 99, 111, 110, 116, 101, 110, 116, 45, 108, 101, 110, 103, 116, 104, 58, 32, 49, 13, 10, 13, 10, 97]⟩ : ByteArray), (⟨#[80, 85, 84, 32, 47, 32, 72, 84, 84, 80, 47, 49, 46, 49, 13, 10, 116, 114, 97, 110, 115, 102, 101, 114, 45, 101, 110, 99, 111, 100, 105, 110, 103, 58, 32, 103, 122, 105, 112, 13, 10, 13, 10]⟩ : ByteArray), (⟨#[80, 85, 84, 32, 47, 32, 72, 84, 84, 80, 47, 49, 46, 49, 13, 10, 84, 114, 97, 110, 115, 102, 101, 114, 45, 69, 110, 99, 111, 100, 105, 110, 103, 58, 32, 67, 72, 85, 78, 75, 69, 68, 13, 10, 13, 10, 49, 13, 10, 97, 13, 10, 48, 13, 10, 13, 10]⟩ : ByteArray), (⟨#[65, 32, 47, 32, 72, 84, 84, 80, 47, 49, 46, 49, 13, 10, 120, 13, 10, 13, 10]⟩ : ByteArray), (⟨#[65, 32, 47, 32, 72, 84, 84, 80, 47, 49, 46, 49, 13, 10, 32, 88, 32, 58, 32, 121, 32, 13, 10, 13, 10]⟩ : ByteArray), (⟨#[65, 32, 47, 32, 72, 84, 84, 80, 47, 49, 46, 49, 13, 10, 88, 58, 9, 32, 121, 32, 13, 10, 13, 10]⟩ : ByteArray), (⟨#[13, 10, 13, 10]⟩ : ByteArray), (⟨#[80, 85, 84, 32, 47, 32, 72, 84, 84, 80, 47, 49, 46, 49, 13, 10, 99, 111, 110, 116, 101, 110, 116, 45, 108, 101, 110, 103, 116, 104, 58, 32, 48, 51, 13, 10, 13, 10, 97, 98, 99]⟩ : ByteArray)] : List ByteArray))).bind fun bt277 => (if bt277.1.size < 140737488355328 then (some ((bytesOf bt277.1), bt277.2.1, bt277.2.2)) else (none))) else (if bt271.1 = 1 then ((spec_l1Below.f x1000 bt271.2.1 bt271.2.2 (wrap64 ((x4.length : Int) + 1))).bind fun bt283 => ((some (([] : List Int) : List Int)).bind fun y286 => (if 0 ≤ bt283.1 then (if bt283.1 ≤ (x4.length : Int) then ((some (x4.take (bt283.1 : Int).toNat : List Int)).bind fun y289 => (if y286.length + y289.length < 140737488355328 then ((some (y286 ++ y289 : List Int)).bind fun y293 => ((spec_l1Int.f x1000 bt283.2.1 bt283.2.2 (([0, 13, 10, 32, 58, 65, 255] : List Int))).bind fun bt299 => (if y293.length < 140737488355328 then ((some (y293 ++ [(bt299.1) % 256] : List Int)).bind fun y302 => ((some (x4.drop (bt283.1 : Int).toNat : List Int)).bind fun y305 => (if y302.length + y305.length < 140737488355328 then (some ((y302 ++ y305), bt299.2.1, bt299.2.2)) else (none)))) else (none)))) else (none))) else (none)) else (none)))) else (if bt271.1 = 2 then ((spec_l1Below.f x1000 bt271.2.1 bt271.2.2 (wrap64 ((x4.length : Int) + 1))).bind fun bt312 => (if 0 ≤ bt312.1 then (if bt312.1 ≤ (x4.length : Int) then (some ((x4.take (bt312.1 : Int).toNat), bt312.2.1, bt312.2.2)) else (none)) else (none))) else (if bt271.1 = 3 then ((spec_l1Once.f x1000 bt271.2.1 bt271.2.2 4).bind fun bt318 => (if bt318.1 = true then ((spec_l1Below.f x1000 bt318.2.1 bt318.2.2 4).bind fun bt321 => (if 0 ≤ (wrap64 (399 + bt321.1)) then (if (wrap64 (399 + bt321.1) : Int).toNat ≤ 281474976710656 then (some ((List.replicate (wrap64 (399 + bt321.1) : Int).toNat 0), bt321.2.1, bt321.2.2)) else (none)) else (none))) else (some (x4, bt318.2.1, bt318.2.2)))) else (some (x4, bt271.2.1, bt271.2.2))))))
def spec_l3Bytes.f (k : Nat) (s0_0 : List Int) (s0_1 : Int) (s0_2 : Int) : Option (List Int × Int × Int) := (spec_l3Draw.f k s0_0 s0_1 s0_2).bind fun bt247 => ((spec_PutReq.f k bt247.1 bt247.2.1 bt247.2.2.1 bt247.2.2.2.1).bind fun t256 => ((spec_l1Once.f s0_0 bt247.2.2.2.2.1 bt247.2.2.2.2.2 3).bind fun bt259 => (if bt259.1 = true then ((spec_l1Below.f s0_0 bt259.2.1 bt259.2.2 4).bind fun bt262 => ((spec_PutChunked.f k bt247.1 bt247.2.1 bt247.2.2.1 bt247.2.2.2.1 (([bt262.1, 1, 2] : List Int))).bind fun t268 => (spec_l3Bytes.j0 k t268 s0_0 bt262.2.1 bt262.2.2))) else (spec_l3Bytes.j0 k t256 s0_0 bt259.2.1 bt259.2.2))))

def spec_l3Bytes.T10 : Bool × List (List Nat × List Nat) := (true, [([], []), ([], []), ([], []), ([1, 2], [1, 2]), ([0, 3], [0, 3]), ([], []), ([], []), ([5, 6, 4], [5, 6]), ([7], [7]), ([8], [8]), ([4, 9, 7], [4, 9]), ([], []), ([], []), ([11, 12], [11, 12]), ([10, 13, 10], [10, 13]), ([14, 14, 0, 1, 2, 3, 4, 5, 6, 7, 8, 9, 10, 11, 12, 13, 14], [14])])
def spec_l3Bytes.B10 : List Nat := [0, 0, 0, 6, 15, 0, 0, 127, 255, 511, 1023, 0, 0, 6144, 16383, 32767]
theorem spec_l3Bytes.tab10 : rtab .any (opsOf Tryz.f107 10) = spec_l3Bytes.T10 := by kernel_rfl
theorem spec_l3Bytes.bits10 : waitsOk spec_l3Bytes.T10.2 spec_l3Bytes.B10 = true := by kernel_rfl
theorem spec_l3Bytes.calls (k : Nat) (g : Nat) (s0_0 : List Int) (s0_1 : Int) (s0_2 : Int) (r1 : List Int) (r2 : Int) (r3 : Int) (w0 w : World) (hI : IsS143 w0 w g s0_0 s0_1 s0_2) (hB : Below w0.heap.size w0 w) (h : spec_l3Bytes.f k s0_0 s0_1 s0_2 = some (r1, r2, r3)) :
  Calls Tryz.prog 107 #[.pointer (some ⟨g, 0, none⟩)] w fun e w' => ∃ v0_ : Value, e = .returned (v0_) ∧ Kd.R (Kd.int .u8) 5 w' w.heap.size (fun _ => True) v0_ r1 ∧ IsS143 w0 w' g s0_0 r2 r3 ∧ Below w0.heap.size w0 w' ∧ KeepBut w w' g none := by
 have hu64 := Tryz.underlying64
 have HI0 := Aside0.mk hI
 have HK := Aside0.mk (KeepBut.refl w g none)
 have HL := Aside0.mk hB.size
 clear hI
 have HW0 := Aside0.mk hB.size
 have HB := Aside0.mk hB
 clear hB
 have H : ((spec_l3Draw.f k s0_0 s0_1 s0_2).bind fun bt247 => ((spec_PutReq.f k bt247.1 bt247.2.1 bt247.2.2.1 bt247.2.2.2.1).bind fun t256 => ((spec_l1Once.f s0_0 bt247.2.2.2.2.1 bt247.2.2.2.2.2 3).bind fun bt259 => (if bt259.1 = true then ((spec_l1Below.f s0_0 bt259.2.1 bt259.2.2 4).bind fun bt262 => ((spec_PutChunked.f k bt247.1 bt247.2.1 bt247.2.2.1 bt247.2.2.2.1 (([bt262.1, 1, 2] : List Int))).bind fun t268 => (spec_l3Bytes.j0 k t268 s0_0 bt262.2.1 bt262.2.2))) else (spec_l3Bytes.j0 k t256 s0_0 bt259.2.1 bt259.2.2))))) = some (r1, r2, r3) := h
 clear h
 replace H := Option.bind_eq_some_iff.mp H
 obtain ⟨⟨t247, t248, t249, t252, t253, t254⟩, A20, H⟩ := H
 replace H : ((spec_PutReq.f k t247 t248 t249 t252).bind fun t256 => ((spec_l1Once.f s0_0 t253 t254 3).bind fun bt259 => (if bt259.1 = true then ((spec_l1Below.f s0_0 bt259.2.1 bt259.2.2 4).bind fun bt262 => ((spec_PutChunked.f k t247 t248 t249 t252 (([bt262.1, 1, 2] : List Int))).bind fun t268 => (spec_l3Bytes.j0 k t268 s0_0 bt262.2.1 bt262.2.2))) else (spec_l3Bytes.j0 k t256 s0_0 bt259.2.1 bt259.2.2)))) = some (r1, r2, r3) := H
 have A2 := Aside0.mk A20
 clear A20
 replace H := Option.bind_eq_some_iff.mp H
 obtain ⟨t256, A30, H⟩ := H
 replace H : ((spec_l1Once.f s0_0 t253 t254 3).bind fun bt259 => (if bt259.1 = true then ((spec_l1Below.f s0_0 bt259.2.1 bt259.2.2 4).bind fun bt262 => ((spec_PutChunked.f k t247 t248 t249 t252 (([bt262.1, 1, 2] : List Int))).bind fun t268 => (spec_l3Bytes.j0 k t268 s0_0 bt262.2.1 bt262.2.2))) else (spec_l3Bytes.j0 k t256 s0_0 bt259.2.1 bt259.2.2))) = some (r1, r2, r3) := H
 have A3 := Aside0.mk A30
 clear A30
 replace H := Option.bind_eq_some_iff.mp H
 obtain ⟨⟨t259, t260, t261⟩, A40, H⟩ := H
 replace H : (if t259 = true then ((spec_l1Below.f s0_0 t260 t261 4).bind fun bt262 => ((spec_PutChunked.f k t247 t248 t249 t252 (([bt262.1, 1, 2] : List Int))).bind fun t268 => (spec_l3Bytes.j0 k t268 s0_0 bt262.2.1 bt262.2.2))) else (spec_l3Bytes.j0 k t256 s0_0 t260 t261)) = some (r1, r2, r3) := H
 have A4 := Aside0.mk A40
 clear A40
 have HC5 := Aside0.mk H
 clear H
 go_enter Tryz.func107, Tryz.ntmps107
 go_upto_if 11 with (first | ((with_reducible refine gate_callee (f := 142) rfl ?_); refine goesL_ (some 7) rfl rfl Tryz.func142 (by kernel_rfl) rfl #[.pointer (some ⟨g, 0, none⟩)] rfl q2_ ?_; (with_reducible refine (spec_l3Draw.calls k g s0_0 s0_1 s0_2 t247 t248 t249 t252 t253 t254 w0 _ ?side1 ?side2 A2.1).mono ?_); (case side1 => exact q16_); (case side2 => exact q15_); rintro e w6 ⟨v250, rfl, ho0, hi, hb, hk⟩; refine ⟨_, rfl, ?_⟩; have n0_ := Aside0.mk (Kd.R_lower ho0 (keep_size (w := w) (g := g) (row := none) q6_)); have n1_ := Aside0.mk (KeepBut.trans q6_ hk (.inl rfl)); have n2_ := Aside0.mk (hb); have n3_ := Aside0.mk (hi); clear HK HB HI0; have HO251 := n0_; have HK := n1_; have HB := n2_; have HI0 := n3_; clear n0_ n1_ n2_ n3_; (try clear hb); (try clear hb2); (try clear hk); (try clear hi); (try clear ho0)) | ((with_reducible refine gate_dst (N := 3) rfl ?_); refine box_event ?hg (N := 3) ?hd (cs := #[.string (⟨#[]⟩ : ByteArray), .string (⟨#[]⟩ : ByteArray), .slice none 0 0, .string (⟨#[]⟩ : ByteArray)]) (t := 64) ?hr ?_; (case hd => rfl); (case hg => rfl); (case hr => exact q26_); intro gb255 hg w7 hbox hb; have n0_ := Aside0.mk (Kd.R_below q89_ hb); have n1_ := Aside0.mk (IsS143.below q16_ hb); have n2_ := Aside0.mk (KeepBut.trans q6_ (KeepBut.of_below hb g none) (.inl rfl)); have n3_ := Aside0.mk (below_step q15_ hb); have n4_ := Aside0.mk (hbox); have n5_ := Aside0.mk ((q116_ : w.heap.size ≤ gb255)); have n6_ := Aside0.mk ((Nat.le_trans HW0.1 (q116_ : w.heap.size ≤ gb255) : w0.heap.size ≤ gb255)); have n7_ := Aside0.mk ((by rw [hg]; exact Nat.ne_of_lt (IsS143.lt (show IsS143 w0 _ g s0_0 t253 t254 from by repeat (first | (with_reducible first | exact HI0.1 | apply IsS143.alloc | apply IsS143.drewN | apply IsS143.drew | apply IsS143.set_1 | apply IsS143.set_2) | exact HI0.1))) : g ≠ gb255)); have n8_ := Aside0.mk ((by rw [hg]; exact Nat.ne_of_gt (IsS143.lt (show IsS143 w0 _ g s0_0 t253 t254 from by repeat (first | (with_reducible first | exact HI0.1 | apply IsS143.alloc | apply IsS143.drewN | apply IsS143.drew | apply IsS143.set_1 | apply IsS143.set_2) | exact HI0.1))) : gb255 ≠ g)); clear HO251 HI0; clear HK HB; have HO251 := n0_; have HI0 := n1_; have HK := n2_; have HB := n3_; have BK255 := n4_; have GW255 := n5_; have GE255 := n6_; have NB0_255 := n7_; have NB255_0 := n8_; clear n0_ n1_ n2_ n3_ n4_ n5_ n6_ n7_ n8_; clear hb hbox hg; have hnb8 := NB255_0.1; have hnc8 := NB0_255.1; have hcz9_0 : w7.cell? ⟨gb255, 0, none⟩ = some (.string (⟨#[]⟩ : ByteArray)) := (bc_ BK255.1 0).trans rfl; have hcz9_1 : w7.cell? ⟨gb255, 1, none⟩ = some (.string (⟨#[]⟩ : ByteArray)) := (bc_ BK255.1 1).trans rfl; have hcz9_2 : w7.cell? ⟨gb255, 2, none⟩ = some (.slice none 0 0) := (bc_ BK255.1 2).trans rfl; have hcz9_3 : w7.cell? ⟨gb255, 3, none⟩ = some (.string (⟨#[]⟩ : ByteArray)) := (bc_ BK255.1 3).trans rfl; have hfz9_0 := bF_ BK255.1 0; have hfz9_1 := bF_ BK255.1 1; have hfz9_2 := bF_ BK255.1 2; have hfz9_3 := bF_ BK255.1 3; obtain ⟨Ao10, co10, eo10⟩ := Kd.R_slice HO251.1; subst eo10) | ((with_reducible refine gate_callee (f := 62) rfl ?_); refine goesL_ (some 9) rfl rfl Tryz.func62 (by kernel_rfl) rfl #[.agg #[.string t247, .string t248, .slice Ao10 t249.length co10, .string t252]] rfl q2_ ?_; (with_reducible refine (spec_PutReq.calls k t247 t248 _ _ t249 t252 t256 _ ?side1 ?side2 A3.1).mono ?_); (case side1 => refine (Kd.R_reads' (e := 88) (base := w.heap.size) (ok := fun k_ => True) (n := t249.length) (c := co10) ?_).2.2; exact q81_); (case side2 => exact (Kd.R_reads' HO251.1).2.1); rintro e w11 ⟨v257, rfl, ho0, hb⟩; refine ⟨_, rfl, ?_⟩; have n0_ := Aside0.mk (Kd.R_below q81_ hb); have n1_ := Aside0.mk (Kd.R_lower ho0 (keep_size (w := w) (g := g) (row := none) q5_)); have n2_ := Aside0.mk (IsS143.below (show IsS143 w0 ((((w7.setCell ⟨gb255, 0, none⟩ (.string t247)).setCell ⟨gb255, 1, none⟩ (.string t248)).setCell ⟨gb255, 2, none⟩ (.slice Ao10 t249.length co10)).setCell ⟨gb255, 3, none⟩ (.string t252)) g s0_0 t253 t254 from by repeat (first | (with_reducible first | exact HI0.1 | apply IsS143.alloc | apply IsS143.drewN | apply IsS143.drew | apply IsS143.set_1 | apply IsS143.set_2 | refine IsS143.far ?_ NB0_255.1 _) | exact HI0.1)) hb); have n3_ := Aside0.mk (bB_ (g := gb255) (o := .cells #[.string t247, .string t248, .slice Ao10 t249.length co10, .string t252] 64 (0, 0)) (by (with_reducible repeat (first | refine bN_ ?_ _ | refine bD_ ?_ | refine bA_ ?_ _)); refine blk_put (cs := #[.string t247, .string t248, .slice Ao10 t249.length co10, .string (⟨#[]⟩ : ByteArray)]) ?_ 3 _ rfl; (with_reducible repeat (first | refine bN_ ?_ _ | refine bD_ ?_ | refine bA_ ?_ _)); refine blk_put (cs := #[.string t247, .string t248, .slice none 0 0, .string (⟨#[]⟩ : ByteArray)]) ?_ 2 _ rfl; (with_reducible repeat (first | refine bN_ ?_ _ | refine bD_ ?_ | refine bA_ ?_ _)); refine blk_put (cs := #[.string t247, .string (⟨#[]⟩ : ByteArray), .slice none 0 0, .string (⟨#[]⟩ : ByteArray)]) ?_ 1 _ rfl; (with_reducible repeat (first | refine bN_ ?_ _ | refine bD_ ?_ | refine bA_ ?_ _)); refine blk_put (cs := #[.string (⟨#[]⟩ : ByteArray), .string (⟨#[]⟩ : ByteArray), .slice none 0 0, .string (⟨#[]⟩ : ByteArray)]) ?_ 0 _ rfl; (with_reducible repeat (first | refine bN_ ?_ _ | refine bD_ ?_ | refine bA_ ?_ _)); exact BK255.1) hb); have n4_ := Aside0.mk (KeepBut.trans q5_ (KeepBut.of_below hb g none) (.inl rfl)); have n5_ := Aside0.mk (below_step q7_ hb); clear HO251 HI0; clear BK255 HK HB; have HO251 := n0_; have HO258 := n1_; have HI0 := n2_; have BK255 := n3_; have HK := n4_; have HB := n5_; clear n0_ n1_ n2_ n3_ n4_ n5_; (try clear hb); (try clear hb2); (try clear hk); (try clear hi); (try clear ho0)) | ((with_reducible refine gate_callee (f := 92) rfl ?_); refine goesL_ (some 11) rfl rfl Tryz.func92 (by kernel_rfl) rfl #[.pointer (some ⟨g, 0, none⟩), .int .i64 3] rfl q2_ ?_; (with_reducible refine (spec_l1Once.calls g s0_0 t253 t254 3 t259 t260 t261 w0 _ ?side1 ?side2 A4.1).mono ?_); (case side1 => exact q8_); (case side2 => exact q7_); rintro e w12 ⟨rfl, hi, hb, hk⟩; refine ⟨_, rfl, ?_⟩; have n0_ := Aside0.mk (Kd.R_mono (Kd.R_keep (IsS143.apart (show IsS143 w0 _ g s0_0 t253 t254 from by repeat (first | (with_reducible first | exact HI0.1 | apply IsS143.alloc | apply IsS143.drewN | apply IsS143.drew | apply IsS143.set_1 | apply IsS143.set_2 | refine IsS143.far ?_ NB0_255.1 _) | exact HI0.1)) q89_ (by decide)) hk (fun _ h => h.2)) (fun _ h => h.1)); have n1_ := Aside0.mk (KeepBut.blk hk (g' := gb255) (o := .cells #[.string t247, .string t248, .slice Ao10 t249.length co10, .string t252] 64 (0, 0)) q18_ NB255_0.1 (by simp)); have n2_ := Aside0.mk (Kd.R_mono (Kd.R_keep (IsS143.apart (show IsS143 w0 _ g s0_0 t253 t254 from by repeat (first | (with_reducible first | exact HI0.1 | apply IsS143.alloc | apply IsS143.drewN | apply IsS143.drew | apply IsS143.set_1 | apply IsS143.set_2 | refine IsS143.far ?_ NB0_255.1 _) | exact HI0.1)) q88_ (by decide)) hk (fun _ h => h.2)) (fun _ h => h.1)); have n3_ := Aside0.mk (KeepBut.trans q5_ hk (.inl rfl)); have n4_ := Aside0.mk (hb); have n5_ := Aside0.mk (hi); clear HO251 BK255; clear HO258 HK; clear HB HI0; have HO251 := n0_; have BK255 := n1_; have HO258 := n2_; have HK := n3_; have HB := n4_; have HI0 := n5_; clear n0_ n1_ n2_ n3_ n4_ n5_; (try clear hb); (try clear hb2); (try clear hk); (try clear hi)))
 (try simp only [Act.put, List.setIfInBounds_toArray, List.set_cons_zero, List.set_cons_succ])
 go_cut [4] (fun v4 wc => ∃ (kq : Nat) (x4_4 : List Int) (x1001_4 : Int) (x1002_4 : Int), Aside0 (spec_l3Bytes.j0 kq x4_4 s0_0 x1001_4 x1002_4 = some (r1, r2, r3)) ∧ Aside0 (kq ≤ k) ∧ Aside0 (Kd.R (Kd.int .u8) 5 wc w.heap.size (fun _ => True) v4 x4_4) ∧ Aside0 (Kd.R k88 88 wc w.heap.size (fun _ => True) (.slice Ao10 t249.length co10) t249) ∧ Aside0 (wc.heap[gb255]? = some (.cells #[.string t247, .string t248, (.slice Ao10 t249.length co10), .string t252] 64 (0, 0))) ∧ Aside0 (IsS143 w0 wc g s0_0 x1001_4 x1002_4) ∧ Aside0 (KeepBut w wc g none) ∧ Aside0 (Below w0.heap.size w0 wc))
 case first =>
  have H := HC5.1
  clear HC5
  by_cases c13 : t259 = true
  ·subst c13
   rw [if_pos rfl] at H
   replace H := Option.bind_eq_some_iff.mp H
   obtain ⟨⟨t262, t263, t264⟩, A140, H⟩ := H
   replace H : ((spec_PutChunked.f k t247 t248 t249 t252 (([t262, 1, 2] : List Int))).bind fun t268 => (spec_l3Bytes.j0 k t268 s0_0 t263 t264)) = some (r1, r2, r3) := H
   have A14 := Aside0.mk A140
   clear A140
   obtain ⟨y265, hy265⟩ : ∃ y_ : List Int, y_ = (([t262, 1, 2] : List Int)) := ⟨_, rfl⟩
   replace H : ((spec_PutChunked.f k t247 t248 t249 t252 y265).bind fun t268 => (spec_l3Bytes.j0 k t268 s0_0 t263 t264)) = some (r1, r2, r3) := by first | (rw [hy265]; with_reducible exact H) | (have H2_ := (Option.bind_some _ _).symm.trans H; rw [hy265]; with_reducible exact H2_) | (have H2_ := (Option.bind_some _ _).symm.trans H; with_reducible exact H2_) | with_reducible exact H | (rw [hy265]; exact H) | exact H
   have Ny265 := Aside0.mk hy265
   clear hy265
   replace H := Option.bind_eq_some_iff.mp H
   obtain ⟨t268, A150, H⟩ := H
   replace H : (spec_l3Bytes.j0 k t268 s0_0 t263 t264) = some (r1, r2, r3) := H
   have A15 := Aside0.mk A150
   clear A150
   have H' := Aside0.mk H
   clear H
   try go_wp2
   have n0_ := Aside0.mk (rD_ HO251.1)
   have n1_ := Aside0.mk (rD_ HO258.1)
   have n2_ := Aside0.mk (bD_ BK255.1)
   have n3_ := Aside0.mk (IsS143.drew HI0.1)
   have n4_ := Aside0.mk (keep_drew HK.1)
   have n5_ := Aside0.mk (dB_ HB.1)
   clear HO251 HO258 BK255 HI0 HK HB
   have HO251 := n0_
   have HO258 := n1_
   have BK255 := n2_
   have HI0 := n3_
   have HK := n4_
   have HB := n5_
   clear n0_ n1_ n2_ n3_ n4_ n5_
   refine start_ (n := 6) (S := fun w' => w'.cell? ⟨gb255, 0, none⟩ = some (.string t247) ∧ w'.cell? ⟨gb255, 1, none⟩ = some (.string t248) ∧ w'.cell? ⟨gb255, 2, none⟩ = some (.slice Ao10 t249.length co10) ∧ w'.cell? ⟨gb255, 3, none⟩ = some (.string t252)) (ds := []) #[false, false, false, false, false, false] (by kernel_rfl) rfl rfl ⟨(bc_ BK255.1 0).trans rfl, (bc_ BK255.1 1).trans rfl, (bc_ BK255.1 2).trans rfl, (bc_ BK255.1 3).trans rfl⟩ (fun hHeld => ?_)
   generalize w12.drew = w16 at HO251 HO258 BK255 HI0 HK HB hHeld ⊢
   refine pure_ (i := 1) (N := some 13) (v := ?_) (a' := ?_) #[false, true, false, false, false, false] rfl rfl (by kernel_rfl) (fun _ _ _ h => h) (Or.inl ⟨by rfl, ?_⟩) ?_ ?_
   rotate_left
   ·intro w'
    go_simp
    with_reducible rfl
   rotate_left
   ·simp only [Act.put, List.setIfInBounds_toArray, List.set_cons_zero, List.set_cons_succ, i64_w, i32_w]
    rfl
   refine take_ (i := 0) (N := some 12) (v := ?_) (a' := ?_) #[true, true, false, false, false, false] rfl rfl (by kernel_rfl) (fun _ _ _ h => h) (Or.inl ⟨by rfl, ?_⟩) hHeld ?_ ?_
   rotate_left
   ·rintro w' ⟨s0, s1, s2, s3⟩
    go_simp
    with_reducible rfl
   rotate_left
   ·simp only [Act.put, List.setIfInBounds_toArray, List.set_cons_zero, List.set_cons_succ, i64_w, i32_w]
    rfl
   refine one_ (i := 2) (N := some 14) #[true, true, true, false, false, false] rfl rfl (by kernel_rfl) (by decide) (fun K hK => ?_)
   refine goes_ Tryz.func90 (by kernel_rfl) rfl #[.pointer (some ⟨g, 0, none⟩), .int .i64 4] (by rfl) rfl rfl q2_ ?_
   with_reducible refine (spec_l1Below.calls g s0_0 t260 t261 4 t262 t263 t264 w0 _ ?side1 ?side2 A14.1).mono ?_
   (case side1 => exact q8_)
   (case side2 => exact q7_)
   rintro e w17 ⟨rfl, hi, hb, hk⟩
   refine ⟨_, rfl, ?_⟩
   have n0_ := Aside0.mk (Kd.R_mono (Kd.R_keep (IsS143.apart (show IsS143 w0 _ g s0_0 t260 t261 from by repeat (first | (with_reducible first | exact HI0.1 | apply IsS143.alloc | apply IsS143.drewN | apply IsS143.drew | apply IsS143.set_1 | apply IsS143.set_2 | refine IsS143.far ?_ NB0_255.1 _) | exact HI0.1)) q89_ (by decide)) hk (fun _ h => h.2)) (fun _ h => h.1))
   have n1_ := Aside0.mk (KeepBut.blk hk (g' := gb255) (o := .cells #[.string t247, .string t248, .slice Ao10 t249.length co10, .string t252] 64 (0, 0)) q18_ NB255_0.1 (by simp))
   have n2_ := Aside0.mk (Kd.R_mono (Kd.R_keep (IsS143.apart (show IsS143 w0 _ g s0_0 t260 t261 from by repeat (first | (with_reducible first | exact HI0.1 | apply IsS143.alloc | apply IsS143.drewN | apply IsS143.drew | apply IsS143.set_1 | apply IsS143.set_2 | refine IsS143.far ?_ NB0_255.1 _) | exact HI0.1)) q88_ (by decide)) hk (fun _ h => h.2)) (fun _ h => h.1))
   have n3_ := Aside0.mk (KeepBut.trans q5_ hk (.inl rfl))
   have n4_ := Aside0.mk (hb)
   have n5_ := Aside0.mk (hi)
   clear HO251 BK255 HO258 HK HB HI0
   have HO251 := n0_
   have BK255 := n1_
   have HO258 := n2_
   have HK := n3_
   have HB := n4_
   have HI0 := n5_
   clear n0_ n1_ n2_ n3_ n4_ n5_
   (try clear hb)
   (try clear hb2)
   (try clear hk)
   (try clear hi)
   refine hK.out _ _ ⟨(bc_ BK255.1 0).trans rfl, (bc_ BK255.1 1).trans rfl, (bc_ BK255.1 2).trans rfl, (bc_ BK255.1 3).trans rfl⟩ (fun hHeld => ?_)
   clear hK K
   refine norm_ (a' := ?_) ?_ ?_
   rotate_left
   ·show Act.put _ (some 14) _ = _
    simp only [Act.put, List.setIfInBounds_toArray, List.set_cons_zero, List.set_cons_succ, i64_w, i32_w]
    rfl
   refine one_ (i := 3) (N := some 15) #[true, true, true, true, false, false] rfl rfl (by kernel_rfl) (by decide) (fun K hK => ?_)
   refine Kd.R_lit_step (Kd.int .i64) _ 3 ?hg (N := 15) ?hd (xs := ([t262, 1, 2] : List Int)) (inner := [.int .i64 t262, .int .i64 1, .int .i64 2]) (ok := fun _ => True) (okp := fun _ => True) ?hr ?hp (fun _ hk => hk) trivial (Below.refl _ _) (Nat.le_refl _) (by simp) ?_; (case hd => rfl); (case hg => rfl); (case hr => exact q26_); (case hp => exact (Reps.one (show Kd.M (Kd.int .i64) _ _ _ t262 [.int .i64 t262] from rfl) (Reps.one (show Kd.M (Kd.int .i64) _ _ _ 1 [.int .i64 1] from rfl) (Reps.one (show Kd.M (Kd.int .i64) _ _ _ 2 [.int .i64 2] from rfl) (Reps.none _ _)))))
   intro v266 w18 ho19 hb hg_ hnew_
   clear hg_ hnew_
   (first | rw [← Ny265.1] at ho19 | (simp only [Int.reduceToNat] at ho19; rw [← Ny265.1] at ho19))
   have n0_ := Aside0.mk (Kd.R_below q89_ hb)
   have n1_ := Aside0.mk (Kd.R_below q88_ hb)
   have n2_ := Aside0.mk (Kd.R_lower ho19 (keep_size (w := w) (g := g) (row := none) q5_))
   have n3_ := Aside0.mk (IsS143.below q8_ hb)
   have n4_ := Aside0.mk (bB_ (g := gb255) (o := .cells #[.string t247, .string t248, .slice Ao10 t249.length co10, .string t252] 64 (0, 0)) q18_ hb)
   have n5_ := Aside0.mk (KeepBut.trans q5_ (KeepBut.of_below hb g none) (.inl rfl))
   have n6_ := Aside0.mk (below_step q7_ hb)
   clear HO251 HO258 HI0 BK255 HK HB
   have HO251 := n0_
   have HO258 := n1_
   have HO267 := n2_
   have HI0 := n3_
   have BK255 := n4_
   have HK := n5_
   have HB := n6_
   clear n0_ n1_ n2_ n3_ n4_ n5_ n6_ hb ho19
   obtain ⟨Ao20, co20, eo20⟩ := Kd.R_slice HO267.1
   (first | subst eo20 | (injection eo20 with f1_ f2_ f3_; have f4_ := f1_.symm; have f5_ := f3_.symm; clear f1_ f2_ f3_; subst f4_; subst f5_))
   refine hK.out _ _ ⟨(bc_ BK255.1 0).trans rfl, (bc_ BK255.1 1).trans rfl, (bc_ BK255.1 2).trans rfl, (bc_ BK255.1 3).trans rfl⟩ (fun hHeld => ?_)
   clear hK K
   refine norm_ (a' := ?_) ?_ ?_
   rotate_left
   ·show Act.put _ (some 15) _ = _
    simp only [Act.put, List.setIfInBounds_toArray, List.set_cons_zero, List.set_cons_succ, i64_w, i32_w]
    rfl
   refine one_ (i := 4) (N := some 16) #[true, true, true, true, true, false] rfl rfl (by kernel_rfl) (by decide) (fun K hK => ?_)
   refine goes_ Tryz.func63 (by kernel_rfl) rfl #[.agg #[.string t247, .string t248, .slice Ao10 t249.length co10, .string t252], .slice Ao20 y265.length co20] (by rfl) rfl rfl q2_ ?_
   with_reducible refine (spec_PutChunked.calls k t247 t248 _ _ t249 t252 _ _ y265 t268 _ ?side1 ?side2 ?side3 ?side4 A15.1).mono ?_
   (case side1 => repeat (first | exact (Kd.R_reads' HO251.1).2.2 | (with_reducible refine Kd.C_alloc ?_ _) | (with_reducible refine Kd.C_drewN ?_ _) | (with_reducible refine Kd.C_drew ?_)))
   (case side2 => exact (Kd.R_reads' HO251.1).2.1)
   (case side3 => repeat (first | exact (Kd.R_reads' HO267.1).2.2 | (with_reducible refine Kd.C_alloc ?_ _) | (with_reducible refine Kd.C_drewN ?_ _) | (with_reducible refine Kd.C_drew ?_)))
   (case side4 => exact (Kd.R_reads' HO267.1).2.1)
   rintro e w21 ⟨v269, rfl, ho0, hb⟩
   refine ⟨_, rfl, ?_⟩
   have n0_ := Aside0.mk (Kd.R_below q89_ hb)
   have n1_ := Aside0.mk (Kd.R_elder' q88_ (Kd.R_base ho0) hb)
   have n2_ := Aside0.mk (Kd.R_below (by (with_reducible repeat (first | apply rA_ | apply rN_ | apply rD_)); exact HO267.1) hb)
   have n3_ := Aside0.mk (Kd.R_lower (Kd.R_new' ho0 (Kd.R_lt q88_)) (keep_size (w := w) (g := g) (row := none) q5_))
   have n4_ := Aside0.mk (IsS143.below q8_ hb)
   have n5_ := Aside0.mk (bB_ (g := gb255) (o := .cells #[.string t247, .string t248, .slice Ao10 t249.length co10, .string t252] 64 (0, 0)) q18_ hb)
   have n6_ := Aside0.mk (KeepBut.trans q5_ (KeepBut.of_below hb g none) (.inl rfl))
   have n7_ := Aside0.mk (below_step q7_ hb)
   clear HO251 HO258 HO267 HI0 BK255 HK HB
   have HO251 := n0_
   have HO258 := n1_
   have HO267 := n2_
   have HO270 := n3_
   have HI0 := n4_
   have BK255 := n5_
   have HK := n6_
   have HB := n7_
   clear n0_ n1_ n2_ n3_ n4_ n5_ n6_ n7_
   (try clear hb)
   (try clear hb2)
   (try clear hk)
   (try clear hi)
   (try clear ho0)
   refine hK.out _ _ ⟨(bc_ BK255.1 0).trans rfl, (bc_ BK255.1 1).trans rfl, (bc_ BK255.1 2).trans rfl, (bc_ BK255.1 3).trans rfl⟩ (fun hHeld => ?_)
   clear hK K
   refine norm_ (a' := ?_) ?_ ?_
   rotate_left
   ·show Act.put _ (some 16) _ = _
    simp only [Act.put, List.setIfInBounds_toArray, List.set_cons_zero, List.set_cons_succ, i64_w, i32_w]
    rfl
   refine pure_ (i := 5) (N := some 4) (v := ?_) (a' := ?_) #[true, true, true, true, true, true] rfl rfl (by kernel_rfl) (fun _ _ _ h => h) (Or.inl ⟨by rfl, ?_⟩) ?_ ?_
   rotate_left
   ·intro w'
    go_simp
    with_reducible rfl
   rotate_left
   ·simp only [Act.put, List.setIfInBounds_toArray, List.set_cons_zero, List.set_cons_succ, i64_w, i32_w]
    rfl
   refine done_ (by kernel_rfl) ?_
   try go_wp2
   go_meet
   case rel => exact ⟨_, (t268), (t263), (t264), H', ⟨q73_⟩, ⟨by (with_reducible repeat (first | apply rA_ | apply rN_ | apply rD_)); exact Kd.R_mono HO270.1 (fun _ hk => trivial)⟩, ⟨q115_⟩, ⟨q18_⟩, ⟨q8_⟩, ⟨q5_⟩, ⟨q7_⟩⟩
  ·replace c13 := Bool.eq_false_iff.mpr c13
   subst c13
   rw [if_neg (show ¬ (false = true) by decide)] at H
   have H' := Aside0.mk H
   clear H
   go_wp2
   go_meet
   case rel => exact ⟨_, (t256), (t260), (t261), H', ⟨q73_⟩, ⟨by (with_reducible repeat (first | apply rA_ | apply rN_ | apply rD_)); first | exact HO258.1 | exact Kd.R_mono HO258.1 (fun k_ h_ e_ => h_ (e_.trans (ob_len _ _ _ _ _)))⟩, ⟨q115_⟩, ⟨q18_⟩, ⟨q8_⟩, ⟨q5_⟩, ⟨q7_⟩⟩
 case rest =>
  clear HC5
  try clear c1
  try clear p2
  try clear c6
  try clear c8
  try clear c9
  try clear c10
  try clear c13
  try clear c14
  try clear hcz9_0
  try clear hcz9_1
  try clear hcz9_2
  try clear hcz9_3
  try clear hfz9_0
  try clear hfz9_1
  try clear hfz9_2
  try clear hfz9_3
  obtain ⟨kq, x4_4, x1001_4, x1002_4, HA, HJ4, HO_4, HO_256002, BK255, HI0, HK, HB⟩ := hcut
  cases kq with
  | zero => exact absurd HA.1 (by simp [spec_l3Bytes.j0])
  | succ kj4 =>
   have H := HA.1
   clear HA
   simp only [spec_l3Bytes.j0] at H
   replace H := Option.bind_eq_some_iff.mp H
   obtain ⟨⟨t271, t272, t273⟩, A220, H⟩ := H
   replace H : (if t271 = 0 then ((spec_l1Str.f s0_0 t272 t273 (([(⟨#[71, 69, 84, 32, 47, 32, 72, 84, 84, 80, 47, 49, 46, 49, 13, 10, 13, 10]⟩ : ByteArray), (⟨#[71, 69, 84, 32, 47, 32, 72, 84, 84, 80, 47, 49, 46, 48, 13, 10, 13, 10]⟩ : ByteArray), (⟨#[71, 69, 84, 32, 47, 13, 10, 13, 10]⟩ : ByteArray), (⟨#[80, 85, 84, 32, 47, 32, 72, 84, 84, 80, 47, 49, 46, 49, 13, 10, 67, 111, 110, 116, 101, 110, 116, 45, 76, 101, 110, 103, 116, 104, 58, 32, 51, 13, 10, 13, 10, 97, 98, 99]⟩ : ByteArray), (⟨#[80, 85, 84, 32, 47, 32, 72, 84, 84, 80, 47, 49, 46, 49, 13, 10, 99, 111, 110, 116, 101, 110, 116, 45, 108, 101, 110, 103, 116, 104, 58, 32, 50, 48, 49, 13, 10, 13, 10]⟩ : ByteArray), (⟨#[80, 85, 84, 32, 47, 32, 72, 84, 84, 80, 47, 49, 46, 49, 13, 10, 99, 111, 110, 116, 101, 110, 116, 45, 108, 101, 110, 103, 116, 104, 58, 32, 49, 13, 10, 99, 111, 110, 116, 101, 110, 116, 45, 108, 101, 110, 103, 116, 104, 58, 32, 49, 13, 10, 13, 10, 97]⟩ : ByteArray), (⟨#[80, 85, 84, 32, 47, 32, 72, 84, 84, 80, 47, 49, 46, 49, 13, 10, 116, 114, 97, 110, 115, 102, 101, 114, 45, 101, 110, 99, 111, 100, 105, 110, 103, 58, 32, 103, 122, 105, 112, 13, 10, 13, 10]⟩ : ByteArray), (⟨#[80, 85, 84, 32, 47, 32, 72, 84, 84, 80, 47, 49, 46, 49, 13, 10, 84, 114, 97, 110, 115, 102, 101, 114, 45, 69, 110, 99, 111, 100, 105, 110, 103, 58, 32, 67, 72, 85, 78, 75, 69, 68, 13, 10, 13, 10, 49, 13, 10, 97, 13, 10, 48, 13, 10, 13, 10]⟩ : ByteArray), (⟨#[65, 32, 47, 32, 72, 84, 84, 80, 47, 49, 46, 49, 13, 10, 120, 13, 10, 13, 10]⟩ : ByteArray), (⟨#[65, 32, 47, 32, 72, 84, 84, 80, 47, 49, 46, 49, 13, 10, 32, 88, 32, 58, 32, 121, 32, 13, 10, 13, 10]⟩ : ByteArray), (⟨#[65, 32, 47, 32, 72, 84, 84, 80, 47, 49, 46, 49, 13, 10, 88, 58, 9, 32, 121, 32, 13, 10, 13, 10]⟩ : ByteArray), (⟨#[13, 10, 13, 10]⟩ : ByteArray), (⟨#[80, 85, 84, 32, 47, 32, 72, 84, 84, 80, 47, 49, 46, 49, 13, 10, 99, 111, 110, 116, 101, 110, 116, 45, 108, 101, 110, 103, 116, 104, 58, 32, 48, 51, 13, 10, 13, 10, 97, 98, 99]⟩ : ByteArray)] : List ByteArray))).bind fun bt277 => (if bt277.1.size < 140737488355328 then (some ((bytesOf bt277.1), bt277.2.1, bt277.2.2)) else (none))) else (if t271 = 1 then ((spec_l1Below.f s0_0 t272 t273 (wrap64 ((x4_4.length : Int) + 1))).bind fun bt283 => ((some (([] : List Int) : List Int)).bind fun y286 => (if 0 ≤ bt283.1 then (if bt283.1 ≤ (x4_4.length : Int) then ((some (x4_4.take (bt283.1 : Int).toNat : List Int)).bind fun y289 => (if y286.length + y289.length < 140737488355328 then ((some (y286 ++ y289 : List Int)).bind fun y293 => ((spec_l1Int.f s0_0 bt283.2.1 bt283.2.2 (([0, 13, 10, 32, 58, 65, 255] : List Int))).bind fun bt299 => (if y293.length < 140737488355328 then ((some (y293 ++ [(bt299.1) % 256] : List Int)).bind fun y302 => ((some (x4_4.drop (bt283.1 : Int).toNat : List Int)).bind fun y305 => (if y302.length + y305.length < 140737488355328 then (some ((y302 ++ y305), bt299.2.1, bt299.2.2)) else (none)))) else (none)))) else (none))) else (none)) else (none)))) else (if t271 = 2 then ((spec_l1Below.f s0_0 t272 t273 (wrap64 ((x4_4.length : Int) + 1))).bind fun bt312 => (if 0 ≤ bt312.1 then (if bt312.1 ≤ (x4_4.length : Int) then (some ((x4_4.take (bt312.1 : Int).toNat), bt312.2.1, bt312.2.2)) else (none)) else (none))) else (if t271 = 3 then ((spec_l1Once.f s0_0 t272 t273 4).bind fun bt318 => (if bt318.1 = true then ((spec_l1Below.f s0_0 bt318.2.1 bt318.2.2 4).bind fun bt321 => (if 0 ≤ (wrap64 (399 + bt321.1)) then (if (wrap64 (399 + bt321.1) : Int).toNat ≤ 281474976710656 then (some ((List.replicate (wrap64 (399 + bt321.1) : Int).toNat 0), bt321.2.1, bt321.2.2)) else (none)) else (none))) else (some (x4_4, bt318.2.1, bt318.2.2)))) else (some (x4_4, t272, t273)))))) = some (r1, r2, r3) := H
   have A22 := Aside0.mk A220
   clear A220
   by_cases c23 : t271 = 0
   ·rw [if_pos c23] at H
    have c23b0 : (t271 == 0) = true := beq_iff_eq.mpr c23
    have c23b1 : (t271 != 0) = false := bne_eq_false_iff_eq.mpr c23
    clear c23
    obtain ⟨y274, hy274⟩ : ∃ y_ : List ByteArray, y_ = (([(⟨#[71, 69, 84, 32, 47, 32, 72, 84, 84, 80, 47, 49, 46, 49, 13, 10, 13, 10]⟩ : ByteArray), (⟨#[71, 69, 84, 32, 47, 32, 72, 84, 84, 80, 47, 49, 46, 48, 13, 10, 13, 10]⟩ : ByteArray), (⟨#[71, 69, 84, 32, 47, 13, 10, 13, 10]⟩ : ByteArray), (⟨#[80, 85, 84, 32, 47, 32, 72, 84, 84, 80, 47, 49, 46, 49, 13, 10, 67, 111, 110, 116, 101, 110, 116, 45, 76, 101, 110, 103, 116, 104, 58, 32, 51, 13, 10, 13, 10, 97, 98, 99]⟩ : ByteArray), (⟨#[80, 85, 84, 32, 47, 32, 72, 84, 84, 80, 47, 49, 46, 49, 13, 10, 99, 111, 110, 116, 101, 110, 116, 45, 108, 101, 110, 103, 116, 104, 58, 32, 50, 48, 49, 13, 10, 13, 10]⟩ : ByteArray), (⟨#[80, 85, 84, 32, 47, 32, 72, 84, 84, 80, 47, 49, 46, 49, 13, 10, 99, 111, 110, 116, 101, 110, 116, 45, 108, 101, 110, 103, 116, 104, 58, 32, 49, 13, 10, 99, 111, 110, 116, 101, 110, 116, 45, 108, 101, 110, 103, 116, 104, 58, 32, 49, 13, 10, 13, 10, 97]⟩ : ByteArray), (⟨#[80, 85, 84, 32, 47, 32, 72, 84, 84, 80, 47, 49, 46, 49, 13, 10, 116, 114, 97, 110, 115, 102, 101, 114, 45, 101, 110, 99, 111, 100, 105, 110, 103, 58, 32, 103, 122, 105, 112, 13, 10, 13, 10]⟩ : ByteArray), (⟨#[80, 85, 84, 32, 47, 32, 72, 84, 84, 80, 47, 49, 46, 49, 13, 10, 84, 114, 97, 110, 115, 102, 101, 114, 45, 69, 110, 99, 111, 100, 105, 110, 103, 58, 32, 67, 72, 85, 78, 75, 69, 68, 13, 10, 13, 10, 49, 13, 10, 97, 13, 10, 48, 13, 10, 13, 10]⟩ : ByteArray), (⟨#[65, 32, 47, 32, 72, 84, 84, 80, 47, 49, 46, 49, 13, 10, 120, 13, 10, 13, 10]⟩ : ByteArray), (⟨#[65, 32, 47, 32, 72, 84, 84, 80, 47, 49, 46, 49, 13, 10, 32, 88, 32, 58, 32, 121, 32, 13, 10, 13, 10]⟩ : ByteArray), (⟨#[65, 32, 47, 32, 72, 84, 84, 80, 47, 49, 46, 49, 13, 10, 88, 58, 9, 32, 121, 32, 13, 10, 13, 10]⟩ : ByteArray), (⟨#[13, 10, 13, 10]⟩ : ByteArray), (⟨#[80, 85, 84, 32, 47, 32, 72, 84, 84, 80, 47, 49, 46, 49, 13, 10, 99, 111, 110, 116, 101, 110, 116, 45, 108, 101, 110, 103, 116, 104, 58, 32, 48, 51, 13, 10, 13, 10, 97, 98, 99]⟩ : ByteArray)] : List ByteArray)) := ⟨_, rfl⟩
    replace H : ((spec_l1Str.f s0_0 t272 t273 y274).bind fun bt277 => (if bt277.1.size < 140737488355328 then (some ((bytesOf bt277.1), bt277.2.1, bt277.2.2)) else (none))) = some (r1, r2, r3) := by first | (rw [hy274]; with_reducible exact H) | (have H2_ := (Option.bind_some _ _).symm.trans H; rw [hy274]; with_reducible exact H2_) | (have H2_ := (Option.bind_some _ _).symm.trans H; with_reducible exact H2_) | with_reducible exact H | (rw [hy274]; exact H) | exact H
    have Ny274 := Aside0.mk hy274
    clear hy274
    replace H := Option.bind_eq_some_iff.mp H
    obtain ⟨⟨t277, t278, t279⟩, A240, H⟩ := H
    replace H : (if t277.size < 140737488355328 then (some ((bytesOf t277), t278, t279)) else (none)) = some (r1, r2, r3) := H
    have A24 := Aside0.mk A240
    clear A240
    by_cases c25 : t277.size < 140737488355328
    ·rw [if_pos c25] at H
     have LMc25 := Aside0.mk c25
     clear c25
     obtain ⟨y280, hy280⟩ : ∃ y_ : List Int, y_ = (bytesOf t277) := ⟨_, rfl⟩
     replace H : (some (y280, t278, t279)) = some (r1, r2, r3) := by first | (rw [hy280]; with_reducible exact H) | (have H2_ := (Option.bind_some _ _).symm.trans H; rw [hy280]; with_reducible exact H2_) | (have H2_ := (Option.bind_some _ _).symm.trans H; with_reducible exact H2_) | with_reducible exact H | (rw [hy280]; exact H) | exact H
     have Ny280 := Aside0.mk hy280
     clear hy280
     simp only [Option.some.injEq, Prod.mk.injEq] at H
     obtain ⟨rfl, rfl, rfl⟩ := H
     go_wp2_with (first | ((with_reducible refine gate_callee (f := 90) rfl ?_); refine goesL_ (some 18) rfl rfl Tryz.func90 (by kernel_rfl) rfl #[.pointer (some ⟨g, 0, none⟩), .int .i64 8] rfl q2_ ?_; (with_reducible refine (spec_l1Below.calls g s0_0 x1001_4 x1002_4 8 t271 t272 t273 w0 _ ?side1 ?side2 A22.1).mono ?_); (case side1 => exact q8_); (case side2 => exact q7_); rintro e w26 ⟨rfl, hi, hb, hk⟩; refine ⟨_, rfl, ?_⟩; have n0_ := Aside0.mk (Kd.R_mono (Kd.R_keep (IsS143.apart (show IsS143 w0 _ g s0_0 x1001_4 x1002_4 from by repeat (first | (with_reducible first | exact HI0.1 | apply IsS143.alloc | apply IsS143.drewN | apply IsS143.drew | apply IsS143.set_1 | apply IsS143.set_2 | refine IsS143.far ?_ NB0_255.1 _) | exact HI0.1)) q12_ (by decide)) hk (fun _ h => h.2)) (fun _ h => h.1)); have n1_ := Aside0.mk (Kd.R_mono (Kd.R_keep (IsS143.apart (show IsS143 w0 _ g s0_0 x1001_4 x1002_4 from by repeat (first | (with_reducible first | exact HI0.1 | apply IsS143.alloc | apply IsS143.drewN | apply IsS143.drew | apply IsS143.set_1 | apply IsS143.set_2 | refine IsS143.far ?_ NB0_255.1 _) | exact HI0.1)) q24_ (by decide)) hk (fun _ h => h.2)) (fun _ h => h.1)); have n2_ := Aside0.mk (KeepBut.blk hk (g' := gb255) (o := .cells #[.string t247, .string t248, .slice Ao10 t249.length co10, .string t252] 64 (0, 0)) q18_ NB255_0.1 (by simp)); have n3_ := Aside0.mk (KeepBut.trans q5_ hk (.inl rfl)); have n4_ := Aside0.mk (hb); have n5_ := Aside0.mk (hi); clear HO_4 HO_256002; clear BK255 HK; clear HB HI0; have HO_4 := n0_; have HO_256002 := n1_; have BK255 := n2_; have HK := n3_; have HB := n4_; have HI0 := n5_; clear n0_ n1_ n2_ n3_ n4_ n5_; (try clear hb); (try clear hb2); (try clear hk); (try clear hi)) | ((with_reducible refine gate_dst (N := 22) rfl ?_); refine Kd.R_lit Kd.string _ 9 ?hg (N := 22) ?hd (xs := ([(⟨#[71, 69, 84, 32, 47, 32, 72, 84, 84, 80, 47, 49, 46, 49, 13, 10, 13, 10]⟩ : ByteArray), (⟨#[71, 69, 84, 32, 47, 32, 72, 84, 84, 80, 47, 49, 46, 48, 13, 10, 13, 10]⟩ : ByteArray), (⟨#[71, 69, 84, 32, 47, 13, 10, 13, 10]⟩ : ByteArray), (⟨#[80, 85, 84, 32, 47, 32, 72, 84, 84, 80, 47, 49, 46, 49, 13, 10, 67, 111, 110, 116, 101, 110, 116, 45, 76, 101, 110, 103, 116, 104, 58, 32, 51, 13, 10, 13, 10, 97, 98, 99]⟩ : ByteArray), (⟨#[80, 85, 84, 32, 47, 32, 72, 84, 84, 80, 47, 49, 46, 49, 13, 10, 99, 111, 110, 116, 101, 110, 116, 45, 108, 101, 110, 103, 116, 104, 58, 32, 50, 48, 49, 13, 10, 13, 10]⟩ : ByteArray), (⟨#[80, 85, 84, 32, 47, 32, 72, 84, 84, 80, 47, 49, 46, 49, 13, 10, 99, 111, 110, 116, 101, 110, 116, 45, 108, 101, 110, 103, 116, 104, 58, 32, 49, 13, 10, 99, 111, 110, 116, 101, 110, 116, 45, 108, 101, 110, 103, 116, 104, 58, 32, 49, 13, 10, 13, 10, 97]⟩ : ByteArray), (⟨#[80, 85, 84, 32, 47, 32, 72, 84, 84, 80, 47, 49, 46, 49, 13, 10, 116, 114, 97, 110, 115, 102, 101, 114, 45, 101, 110, 99, 111, 100, 105, 110, 103, 58, 32, 103, 122, 105, 112, 13, 10, 13, 10]⟩ : ByteArray), (⟨#[80, 85, 84, 32, 47, 32, 72, 84, 84, 80, 47, 49, 46, 49, 13, 10, 84, 114, 97, 110, 115, 102, 101, 114, 45, 69, 110, 99, 111, 100, 105, 110, 103, 58, 32, 67, 72, 85, 78, 75, 69, 68, 13, 10, 13, 10, 49, 13, 10, 97, 13, 10, 48, 13, 10, 13, 10]⟩ : ByteArray), (⟨#[65, 32, 47, 32, 72, 84, 84, 80, 47, 49, 46, 49, 13, 10, 120, 13, 10, 13, 10]⟩ : ByteArray), (⟨#[65, 32, 47, 32, 72, 84, 84, 80, 47, 49, 46, 49, 13, 10, 32, 88, 32, 58, 32, 121, 32, 13, 10, 13, 10]⟩ : ByteArray), (⟨#[65, 32, 47, 32, 72, 84, 84, 80, 47, 49, 46, 49, 13, 10, 88, 58, 9, 32, 121, 32, 13, 10, 13, 10]⟩ : ByteArray), (⟨#[13, 10, 13, 10]⟩ : ByteArray), (⟨#[80, 85, 84, 32, 47, 32, 72, 84, 84, 80, 47, 49, 46, 49, 13, 10, 99, 111, 110, 116, 101, 110, 116, 45, 108, 101, 110, 103, 116, 104, 58, 32, 48, 51, 13, 10, 13, 10, 97, 98, 99]⟩ : ByteArray)] : List ByteArray)) (inner := [.string (⟨#[71, 69, 84, 32, 47, 32, 72, 84, 84, 80, 47, 49, 46, 49, 13, 10, 13, 10]⟩ : ByteArray), .string (⟨#[71, 69, 84, 32, 47, 32, 72, 84, 84, 80, 47, 49, 46, 48, 13, 10, 13, 10]⟩ : ByteArray), .string (⟨#[71, 69, 84, 32, 47, 13, 10, 13, 10]⟩ : ByteArray), .string (⟨#[80, 85, 84, 32, 47, 32, 72, 84, 84, 80, 47, 49, 46, 49, 13, 10, 67, 111, 110, 116, 101, 110, 116, 45, 76, 101, 110, 103, 116, 104, 58, 32, 51, 13, 10, 13, 10, 97, 98, 99]⟩ : ByteArray), .string (⟨#[80, 85, 84, 32, 47, 32, 72, 84, 84, 80, 47, 49, 46, 49, 13, 10, 99, 111, 110, 116, 101, 110, 116, 45, 108, 101, 110, 103, 116, 104, 58, 32, 50, 48, 49, 13, 10, 13, 10]⟩ : ByteArray), .string (⟨#[80, 85, 84, 32, 47, 32, 72, 84, 84, 80, 47, 49, 46, 49, 13, 10, 99, 111, 110, 116, 101, 110, 116, 45, 108, 101, 110, 103, 116, 104, 58, 32, 49, 13, 10, 99, 111, 110, 116, 101, 110, 116, 45, 108, 101, 110, 103, 116, 104, 58, 32, 49, 13, 10, 13, 10, 97]⟩ : ByteArray), .string (⟨#[80, 85, 84, 32, 47, 32, 72, 84, 84, 80, 47, 49, 46, 49, 13, 10, 116, 114, 97, 110, 115, 102, 101, 114, 45, 101, 110, 99, 111, 100, 105, 110, 103, 58, 32, 103, 122, 105, 112, 13, 10, 13, 10]⟩ : ByteArray), .string (⟨#[80, 85, 84, 32, 47, 32, 72, 84, 84, 80, 47, 49, 46, 49, 13, 10, 84, 114, 97, 110, 115, 102, 101, 114, 45, 69, 110, 99, 111, 100, 105, 110, 103, 58, 32, 67, 72, 85, 78, 75, 69, 68, 13, 10, 13, 10, 49, 13, 10, 97, 13, 10, 48, 13, 10, 13, 10]⟩ : ByteArray), .string (⟨#[65, 32, 47, 32, 72, 84, 84, 80, 47, 49, 46, 49, 13, 10, 120, 13, 10, 13, 10]⟩ : ByteArray), .string (⟨#[65, 32, 47, 32, 72, 84, 84, 80, 47, 49, 46, 49, 13, 10, 32, 88, 32, 58, 32, 121, 32, 13, 10, 13, 10]⟩ : ByteArray), .string (⟨#[65, 32, 47, 32, 72, 84, 84, 80, 47, 49, 46, 49, 13, 10, 88, 58, 9, 32, 121, 32, 13, 10, 13, 10]⟩ : ByteArray), .string (⟨#[13, 10, 13, 10]⟩ : ByteArray), .string (⟨#[80, 85, 84, 32, 47, 32, 72, 84, 84, 80, 47, 49, 46, 49, 13, 10, 99, 111, 110, 116, 101, 110, 116, 45, 108, 101, 110, 103, 116, 104, 58, 32, 48, 51, 13, 10, 13, 10, 97, 98, 99]⟩ : ByteArray)]) (ok := fun _ => True) (okp := fun _ => True) ?hr ?hp (fun _ hk => hk) trivial (Below.refl _ _) (Nat.le_refl _) (by simp) ?_; (case hd => rfl); (case hg => rfl); (case hr => exact q26_); (case hp => exact (Reps.one (show Kd.M Kd.string _ _ _ (⟨#[71, 69, 84, 32, 47, 32, 72, 84, 84, 80, 47, 49, 46, 49, 13, 10, 13, 10]⟩ : ByteArray) [.string (⟨#[71, 69, 84, 32, 47, 32, 72, 84, 84, 80, 47, 49, 46, 49, 13, 10, 13, 10]⟩ : ByteArray)] from rfl) (Reps.one (show Kd.M Kd.string _ _ _ (⟨#[71, 69, 84, 32, 47, 32, 72, 84, 84, 80, 47, 49, 46, 48, 13, 10, 13, 10]⟩ : ByteArray) [.string (⟨#[71, 69, 84, 32, 47, 32, 72, 84, 84, 80, 47, 49, 46, 48, 13, 10, 13, 10]⟩ : ByteArray)] from rfl) (Reps.one (show Kd.M Kd.string _ _ _ (⟨#[71, 69, 84, 32, 47, 13, 10, 13, 10]⟩ : ByteArray) [.string (⟨#[71, 69, 84, 32, 47, 13, 10, 13, 10]⟩ : ByteArray)] from rfl) (Reps.one (show Kd.M Kd.string _ _ _ (⟨#[80, 85, 84, 32, 47, 32, 72, 84, 84, 80, 47, 49, 46, 49, 13, 10, 67, 111, 110, 116, 101, 110, 116, 45, 76, 101, 110, 103, 116, 104, 58, 32, 51, 13, 10, 13, 10, 97, 98, 99]⟩ : ByteArray) [.string (⟨#[80, 85, 84, 32, 47, 32, 72, 84, 84, 80, 47, 49, 46, 49, 13, 10, 67, 111, 110, 116, 101, 110, 116, 45, 76, 101, 110, 103, 116, 104, 58, 32, 51, 13, 10, 13, 10, 97, 98, 99]⟩ : ByteArray)] from rfl) (Reps.one (show Kd.M Kd.string _ _ _ (⟨#[80, 85, 84, 32, 47, 32, 72, 84, 84, 80, 47, 49, 46, 49, 13, 10, 99, 111, 110, 116, 101, 110, 116, 45, 108, 101, 110, 103, 116, 104, 58, 32, 50, 48, 49, 13, 10, 13, 10]⟩ : ByteArray) [.string (⟨#[80, 85, 84, 32, 47, 32, 72, 84, 84, 80, 47, 49, 46, 49, 13, 10, 99, 111, 110, 116, 101, 110, 116, 45, 108, 101, 110, 103, 116, 104, 58, 32, 50, 48, 49, 13, 10, 13, 10]⟩ : ByteArray)] from rfl) (Reps.one (show Kd.M Kd.string _ _ _ (⟨#[80, 85, 84, 32, 47, 32, 72, 84, 84, 80, 47, 49, 46, 49, 13, 10, 99, 111, 110, 116, 101, 110, 116, 45, 108, 101, 110, 103, 116, 104, 58, 32, 49, 13, 10, 99, 111, 110, 116, 101, 110, 116, 45, 108, 101, 110, 103, 116, 104, 58, 32, 49, 13, 10, 13, 10, 97]⟩ : ByteArray) [.string (⟨#[80, 85, 84, 32, 47, 32, 72, 84, 84, 80, 47, 49, 46, 49, 13, 10, 99, 111, 110, 116, 101, 110, 116, 45, 108, 101, 110, 103, 116, 104, 58, 32, 49, 13, 10, 99, 111, 110, 116, 101, 110, 116, 45, 108, 101, 110, 103, 116, 104, 58, 32, 49, 13, 10, 13, 10, 97]⟩ : ByteArray)] from rfl) (Reps.one (show Kd.M Kd.string _ _ _ (⟨#[80, 85, 84, 32, 47, 32, 72, 84, 84, 80, 47, 49, 46, 49, 13, 10, 116, 114, 97, 110, 115, 102, 101, 114, 45, 101, 110, 99, 111, 100, 105, 110, 103, 58, 32, 103, 122, 105, 112, 13, 10, 13, 10]⟩ : ByteArray) [.string (⟨#[80, 85, 84, 32, 47, 32, 72, 84, 84, 80, 47, 49, 46, 49, 13, 10, 116, 114, 97, 110, 115, 102, 101, 114, 45, 101, 110, 99, 111, 100, 105, 110, 103, 58, 32, 103, 122, 105, 112, 13, 10, 13, 10]⟩ : ByteArray)] from rfl) (Reps.one (show Kd.M Kd.string _ _ _ (⟨#[80, 85, 84, 32, 47, 32, 72, 84, 84, 80, 47, 49, 46, 49, 13, 10, 84, 114, 97, 110, 115, 102, 101, 114, 45, 69, 110, 99, 111, 100, 105, 110, 103, 58, 32, 67, 72, 85, 78, 75, 69, 68, 13, 10, 13, 10, 49, 13, 10, 97, 13, 10, 48, 13, 10, 13, 10]⟩ : ByteArray) [.string (⟨#[80, 85, 84, 32, 47, 32, 72, 84, 84, 80, 47, 49, 46, 49, 13, 10, 84, 114, 97, 110, 115, 102, 101, 114, 45, 69, 110, 99, 111, 100, 105, 110, 103, 58, 32, 67, 72, 85, 78, 75, 69, 68, 13, 10, 13, 10, 49, 13, 10, 97, 13, 10, 48, 13, 10, 13, 10]⟩ : ByteArray)] from rfl) (Reps.one (show Kd.M Kd.string _ _ _ (⟨#[65, 32, 47, 32, 72, 84, 84, 80, 47, 49, 46, 49, 13, 10, 120, 13, 10, 13, 10]⟩ : ByteArray) [.string (⟨#[65, 32, 47, 32, 72, 84, 84, 80, 47, 49, 46, 49, 13, 10, 120, 13, 10, 13, 10]⟩ : ByteArray)] from rfl) (Reps.one (show Kd.M Kd.string _ _ _ (⟨#[65, 32, 47, 32, 72, 84, 84, 80, 47, 49, 46, 49, 13, 10, 32, 88, 32, 58, 32, 121, 32, 13, 10, 13, 10]⟩ : ByteArray) [.string (⟨#[65, 32, 47, 32, 72, 84, 84, 80, 47, 49, 46, 49, 13, 10, 32, 88, 32, 58, 32, 121, 32, 13, 10, 13, 10]⟩ : ByteArray)] from rfl) (Reps.one (show Kd.M Kd.string _ _ _ (⟨#[65, 32, 47, 32, 72, 84, 84, 80, 47, 49, 46, 49, 13, 10, 88, 58, 9, 32, 121, 32, 13, 10, 13, 10]⟩ : ByteArray) [.string (⟨#[65, 32, 47, 32, 72, 84, 84, 80, 47, 49, 46, 49, 13, 10, 88, 58, 9, 32, 121, 32, 13, 10, 13, 10]⟩ : ByteArray)] from rfl) (Reps.one (show Kd.M Kd.string _ _ _ (⟨#[13, 10, 13, 10]⟩ : ByteArray) [.string (⟨#[13, 10, 13, 10]⟩ : ByteArray)] from rfl) (Reps.one (show Kd.M Kd.string _ _ _ (⟨#[80, 85, 84, 32, 47, 32, 72, 84, 84, 80, 47, 49, 46, 49, 13, 10, 99, 111, 110, 116, 101, 110, 116, 45, 108, 101, 110, 103, 116, 104, 58, 32, 48, 51, 13, 10, 13, 10, 97, 98, 99]⟩ : ByteArray) [.string (⟨#[80, 85, 84, 32, 47, 32, 72, 84, 84, 80, 47, 49, 46, 49, 13, 10, 99, 111, 110, 116, 101, 110, 116, 45, 108, 101, 110, 103, 116, 104, 58, 32, 48, 51, 13, 10, 13, 10, 97, 98, 99]⟩ : ByteArray)] from rfl) (Reps.none _ _))))))))))))))); intro v275 w27 ho28 hb hg_ hnew_; clear hg_ hnew_; (first | rw [← Ny274.1] at ho28 | (simp only [Int.reduceToNat] at ho28; rw [← Ny274.1] at ho28)); have n0_ := Aside0.mk (Kd.R_below q12_ hb); have n1_ := Aside0.mk (Kd.R_below q24_ hb); have n2_ := Aside0.mk (Kd.R_lower ho28 (keep_size (w := w) (g := g) (row := none) q5_)); have n3_ := Aside0.mk (bB_ (g := gb255) (o := .cells #[.string t247, .string t248, .slice Ao10 t249.length co10, .string t252] 64 (0, 0)) q18_ hb); have n4_ := Aside0.mk (IsS143.below q8_ hb); have n5_ := Aside0.mk (KeepBut.trans q5_ (KeepBut.of_below hb g none) (.inl rfl)); have n6_ := Aside0.mk (below_step q7_ hb); clear HO_4 HO_256002; clear BK255 HI0; clear HK HB; have HO_4 := n0_; have HO_256002 := n1_; have HO276 := n2_; have BK255 := n3_; have HI0 := n4_; have HK := n5_; have HB := n6_; clear n0_ n1_ n2_ n3_ n4_ n5_ n6_; clear hb ho28; obtain ⟨Ao29, co29, eo29⟩ := Kd.R_slice HO276.1; subst eo29) | ((with_reducible refine gate_callee (f := 117) rfl ?_); refine goesL_ (some 23) rfl rfl Tryz.func117 (by kernel_rfl) rfl #[.pointer (some ⟨g, 0, none⟩), .slice Ao29 y274.length co29] rfl q2_ ?_; (with_reducible refine (spec_l1Str.calls g s0_0 t272 t273 _ _ y274 t277 t278 t279 w0 _ ?side1 ?side2 ?side3 ?side4 ?side5 A24.1).mono ?_); (case side1 => exact q8_); (case side2 => exact q7_); (case side3 => repeat (first | exact (Kd.R_reads' HO276.1).2.2 | (with_reducible refine Kd.C_alloc ?_ _) | (with_reducible refine Kd.C_drewN ?_ _) | (with_reducible refine Kd.C_drew ?_))); (case side4 => exact (Kd.R_reads' HO276.1).2.1); (case side5 => exact far_slice (IsS143.own_ne HI0.1 HO276.1 (by decide))); rintro e w30 ⟨rfl, hi, hb, hk⟩; refine ⟨_, rfl, ?_⟩; have n0_ := Aside0.mk (Kd.R_mono (Kd.R_keep (IsS143.apart (show IsS143 w0 _ g s0_0 t272 t273 from by repeat (first | (with_reducible first | exact HI0.1 | apply IsS143.alloc | apply IsS143.drewN | apply IsS143.drew | apply IsS143.set_1 | apply IsS143.set_2 | refine IsS143.far ?_ NB0_255.1 _) | exact HI0.1)) q12_ (by decide)) hk (fun _ h => h.2)) (fun _ h => h.1)); have n1_ := Aside0.mk (Kd.R_mono (Kd.R_keep (IsS143.apart (show IsS143 w0 _ g s0_0 t272 t273 from by repeat (first | (with_reducible first | exact HI0.1 | apply IsS143.alloc | apply IsS143.drewN | apply IsS143.drew | apply IsS143.set_1 | apply IsS143.set_2 | refine IsS143.far ?_ NB0_255.1 _) | exact HI0.1)) q24_ (by decide)) hk (fun _ h => h.2)) (fun _ h => h.1)); have n2_ := Aside0.mk (KeepBut.blk hk (g' := gb255) (o := .cells #[.string t247, .string t248, .slice Ao10 t249.length co10, .string t252] 64 (0, 0)) q18_ NB255_0.1 (by simp)); have n3_ := Aside0.mk (Kd.R_mono (Kd.R_keep (IsS143.apart (show IsS143 w0 _ g s0_0 t272 t273 from by repeat (first | (with_reducible first | exact HI0.1 | apply IsS143.alloc | apply IsS143.drewN | apply IsS143.drew | apply IsS143.set_1 | apply IsS143.set_2 | refine IsS143.far ?_ NB0_255.1 _) | exact HI0.1)) (by (with_reducible repeat (first | apply rA_ | apply rN_ | apply rD_)); exact HO276.1) (by decide)) hk (fun _ h => h.2)) (fun _ h => h.1)); have n4_ := Aside0.mk (KeepBut.trans q5_ hk (.inl rfl)); have n5_ := Aside0.mk (hb); have n6_ := Aside0.mk (hi); clear HO_4 HO_256002; clear BK255 HO276; clear HK HB HI0; have HO_4 := n0_; have HO_256002 := n1_; have BK255 := n2_; have HO276 := n3_; have HK := n4_; have HB := n5_; have HI0 := n6_; clear n0_ n1_ n2_ n3_ n4_ n5_ n6_; (try clear hb); (try clear hb2); (try clear hk); (try clear hi)) | ((with_reducible refine gate_ (.convert 9 22 _) rfl ?_); refine Kd.R_conv_str w.heap.size rfl 9 22 5 _ rfl Tryz.underlying9 Tryz.underlying22 Tryz.underlying5 t277 (fun k_ => some k_ ≠ (u4 : Value).ownBlock) rfl ?aF ?aO (Below.refl _ _) ?aS ?aL ?_; (case aF => exact q106_); (case aO => exact ((Kd.R_nil _ _ _ _ (fun k_ => some k_ ≠ (u4 : Value).ownBlock)))); (case aS => exact q104_); (case aL => have := LMc25.1; omega); intro v281 w31 ho hb hg hat; rw [← Ny280.1] at ho; have n0_ := Aside0.mk (Kd.R_after (Kd.R_apart_nil q12_) hg hat); have n1_ := Aside0.mk (Kd.R_grown q24_ hg (fun _ _ => by simp [Value.ownBlock])); have n2_ := Aside0.mk (blk_grown (g := gb255) (o := .cells #[.string t247, .string t248, .slice Ao10 t249.length co10, .string t252] 64 (0, 0)) q18_ hg (by simp [Value.ownBlock])); have n3_ := Aside0.mk (IsS143.grown (show IsS143 w0 _ g s0_0 t278 t279 from by repeat (first | (with_reducible first | exact HI0.1 | apply IsS143.alloc | apply IsS143.drewN | apply IsS143.drew | apply IsS143.set_1 | apply IsS143.set_2 | refine IsS143.far ?_ NB0_255.1 _) | exact HI0.1)) hg (by simp [Value.ownBlock])); have n4_ := Aside0.mk (Kd.R_grown (by (with_reducible repeat (first | apply rA_ | apply rN_ | apply rD_)); exact HO276.1) hg (fun _ _ => by simp [Value.ownBlock])); have n5_ := Aside0.mk (below_weaken q7_ HL.1 hb); have n6_ := Aside0.mk (KeepBut.trans q5_ (KeepBut.of_grown hg g) (.inl (by simp [Value.ownBlock]))); have n7_ := Aside0.mk (ho); clear HO_4 HO_256002; clear BK255 HI0; clear HO276 HB HK; have HO_4 := n0_; have HO_256002 := n1_; have BK255 := n2_; have HI0 := n3_; have HO276 := n4_; have HB := n5_; have HK := n6_; have HO282 := n7_; clear n0_ n1_ n2_ n3_ n4_ n5_ n6_ n7_; clear ho hb hg hat))
     go_ret
     exact ⟨_, q10_, by (with_reducible repeat (first | apply rA_ | apply rN_ | apply rD_)); exact Kd.R_mono HO282.1 (fun _ hk => trivial), q8_, q7_, q5_⟩
    ·rw [if_neg c25] at H
     exact absurd H (by simp)
   ·rw [if_neg c23] at H
    have c23b0 : (t271 == 0) = false := beq_eq_false_iff_ne.mpr c23
    have c23b1 : (t271 != 0) = true := bne_iff_ne.mpr c23
    by_cases c32 : t271 = 1
    ·rw [if_pos c32] at H
     have c32b0 : (t271 == 1) = true := beq_iff_eq.mpr c32
     have c32b1 : (t271 != 1) = false := bne_eq_false_iff_eq.mpr c32
     clear c32
     replace H := Option.bind_eq_some_iff.mp H
     obtain ⟨⟨t283, t284, t285⟩, A330, H⟩ := H
     replace H : ((some (([] : List Int) : List Int)).bind fun y286 => (if 0 ≤ t283 then (if t283 ≤ (x4_4.length : Int) then ((some (x4_4.take (t283 : Int).toNat : List Int)).bind fun y289 => (if y286.length + y289.length < 140737488355328 then ((some (y286 ++ y289 : List Int)).bind fun y293 => ((spec_l1Int.f s0_0 t284 t285 (([0, 13, 10, 32, 58, 65, 255] : List Int))).bind fun bt299 => (if y293.length < 140737488355328 then ((some (y293 ++ [(bt299.1) % 256] : List Int)).bind fun y302 => ((some (x4_4.drop (t283 : Int).toNat : List Int)).bind fun y305 => (if y302.length + y305.length < 140737488355328 then (some ((y302 ++ y305), bt299.2.1, bt299.2.2)) else (none)))) else (none)))) else (none))) else (none)) else (none))) = some (r1, r2, r3) := H
     have A33 := Aside0.mk A330
     clear A330
     obtain ⟨y286, hy286⟩ : ∃ y_ : List Int, y_ = (([] : List Int)) := ⟨_, rfl⟩
     replace H : (if 0 ≤ t283 then (if t283 ≤ (x4_4.length : Int) then ((some (x4_4.take (t283 : Int).toNat : List Int)).bind fun y289 => (if y286.length + y289.length < 140737488355328 then ((some (y286 ++ y289 : List Int)).bind fun y293 => ((spec_l1Int.f s0_0 t284 t285 (([0, 13, 10, 32, 58, 65, 255] : List Int))).bind fun bt299 => (if y293.length < 140737488355328 then ((some (y293 ++ [(bt299.1) % 256] : List Int)).bind fun y302 => ((some (x4_4.drop (t283 : Int).toNat : List Int)).bind fun y305 => (if y302.length + y305.length < 140737488355328 then (some ((y302 ++ y305), bt299.2.1, bt299.2.2)) else (none)))) else (none)))) else (none))) else (none)) else (none)) = some (r1, r2, r3) := by first | (rw [hy286]; with_reducible exact H) | (have H2_ := (Option.bind_some _ _).symm.trans H; rw [hy286]; with_reducible exact H2_) | (have H2_ := (Option.bind_some _ _).symm.trans H; with_reducible exact H2_) | with_reducible exact H | (rw [hy286]; exact H) | exact H
     have Ny286 := Aside0.mk hy286
     clear hy286
     by_cases c34 : 0 ≤ t283
     ·rw [if_pos c34] at H
      have c34b0 := eq_true c34
      have c34b1 : decide (0 ≤ t283) = true := decide_eq_true c34
      clear c34
      by_cases c35 : t283 ≤ (x4_4.length : Int)
      ·rw [if_pos c35] at H
       have c35b0 := eq_true c35
       have c35b1 : decide (t283 ≤ (x4_4.length : Int)) = true := decide_eq_true c35
       clear c35
       obtain ⟨y289, hy289⟩ : ∃ y_ : List Int, y_ = (x4_4.take (t283 : Int).toNat) := ⟨_, rfl⟩
       replace H : (if y286.length + y289.length < 140737488355328 then ((some (y286 ++ y289 : List Int)).bind fun y293 => ((spec_l1Int.f s0_0 t284 t285 (([0, 13, 10, 32, 58, 65, 255] : List Int))).bind fun bt299 => (if y293.length < 140737488355328 then ((some (y293 ++ [(bt299.1) % 256] : List Int)).bind fun y302 => ((some (x4_4.drop (t283 : Int).toNat : List Int)).bind fun y305 => (if y302.length + y305.length < 140737488355328 then (some ((y302 ++ y305), bt299.2.1, bt299.2.2)) else (none)))) else (none)))) else (none)) = some (r1, r2, r3) := by first | (rw [hy289]; with_reducible exact H) | (have H2_ := (Option.bind_some _ _).symm.trans H; rw [hy289]; with_reducible exact H2_) | (have H2_ := (Option.bind_some _ _).symm.trans H; with_reducible exact H2_) | with_reducible exact H | (rw [hy289]; exact H) | exact H
       have Ny289 := Aside0.mk hy289
       clear hy289
       by_cases c36 : y286.length + y289.length < 140737488355328
       ·rw [if_pos c36] at H
        have LMc36 := Aside0.mk c36
        clear c36
        obtain ⟨y293, hy293⟩ : ∃ y_ : List Int, y_ = (y286 ++ y289) := ⟨_, rfl⟩
        replace H : ((spec_l1Int.f s0_0 t284 t285 (([0, 13, 10, 32, 58, 65, 255] : List Int))).bind fun bt299 => (if y293.length < 140737488355328 then ((some (y293 ++ [(bt299.1) % 256] : List Int)).bind fun y302 => ((some (x4_4.drop (t283 : Int).toNat : List Int)).bind fun y305 => (if y302.length + y305.length < 140737488355328 then (some ((y302 ++ y305), bt299.2.1, bt299.2.2)) else (none)))) else (none))) = some (r1, r2, r3) := by first | (rw [hy293]; with_reducible exact H) | (have H2_ := (Option.bind_some _ _).symm.trans H; rw [hy293]; with_reducible exact H2_) | (have H2_ := (Option.bind_some _ _).symm.trans H; with_reducible exact H2_) | with_reducible exact H | (rw [hy293]; exact H) | exact H
        have Ny293 := Aside0.mk hy293
        clear hy293
        obtain ⟨y296, hy296⟩ : ∃ y_ : List Int, y_ = (([0, 13, 10, 32, 58, 65, 255] : List Int)) := ⟨_, rfl⟩
        replace H : ((spec_l1Int.f s0_0 t284 t285 y296).bind fun bt299 => (if y293.length < 140737488355328 then ((some (y293 ++ [(bt299.1) % 256] : List Int)).bind fun y302 => ((some (x4_4.drop (t283 : Int).toNat : List Int)).bind fun y305 => (if y302.length + y305.length < 140737488355328 then (some ((y302 ++ y305), bt299.2.1, bt299.2.2)) else (none)))) else (none))) = some (r1, r2, r3) := by first | (rw [hy296]; with_reducible exact H) | (have H2_ := (Option.bind_some _ _).symm.trans H; rw [hy296]; with_reducible exact H2_) | (have H2_ := (Option.bind_some _ _).symm.trans H; with_reducible exact H2_) | with_reducible exact H | (rw [hy296]; exact H) | exact H
        have Ny296 := Aside0.mk hy296
        clear hy296
        replace H := Option.bind_eq_some_iff.mp H
        obtain ⟨⟨t299, t300, t301⟩, A370, H⟩ := H
        replace H : (if y293.length < 140737488355328 then ((some (y293 ++ [(t299) % 256] : List Int)).bind fun y302 => ((some (x4_4.drop (t283 : Int).toNat : List Int)).bind fun y305 => (if y302.length + y305.length < 140737488355328 then (some ((y302 ++ y305), t300, t301)) else (none)))) else (none)) = some (r1, r2, r3) := H
        have A37 := Aside0.mk A370
        clear A370
        by_cases c38 : y293.length < 140737488355328
        ·rw [if_pos c38] at H
         have LMc38 := Aside0.mk c38
         clear c38
         obtain ⟨y302, hy302⟩ : ∃ y_ : List Int, y_ = (y293 ++ [(t299) % 256]) := ⟨_, rfl⟩
         replace H : ((some (x4_4.drop (t283 : Int).toNat : List Int)).bind fun y305 => (if y302.length + y305.length < 140737488355328 then (some ((y302 ++ y305), t300, t301)) else (none))) = some (r1, r2, r3) := by first | (rw [hy302]; with_reducible exact H) | (have H2_ := (Option.bind_some _ _).symm.trans H; rw [hy302]; with_reducible exact H2_) | (have H2_ := (Option.bind_some _ _).symm.trans H; with_reducible exact H2_) | with_reducible exact H | (rw [hy302]; exact H) | exact H
         have Ny302 := Aside0.mk hy302
         clear hy302
         have c39b0 := eq_true (of_decide_eq_true q4_ : 0 ≤ t283)
         have c40b0 := eq_true (of_decide_eq_true q4_ : t283 ≤ (x4_4.length : Int))
         obtain ⟨y305, hy305⟩ : ∃ y_ : List Int, y_ = (x4_4.drop (t283 : Int).toNat) := ⟨_, rfl⟩
         replace H : (if y302.length + y305.length < 140737488355328 then (some ((y302 ++ y305), t300, t301)) else (none)) = some (r1, r2, r3) := by first | (rw [hy305]; with_reducible exact H) | (have H2_ := (Option.bind_some _ _).symm.trans H; rw [hy305]; with_reducible exact H2_) | (have H2_ := (Option.bind_some _ _).symm.trans H; with_reducible exact H2_) | with_reducible exact H | (rw [hy305]; exact H) | exact H
         have Ny305 := Aside0.mk hy305
         clear hy305
         by_cases c41 : y302.length + y305.length < 140737488355328
         ·rw [if_pos c41] at H
          have LMc41 := Aside0.mk c41
          clear c41
          obtain ⟨y309, hy309⟩ : ∃ y_ : List Int, y_ = (y302 ++ y305) := ⟨_, rfl⟩
          replace H : (some (y309, t300, t301)) = some (r1, r2, r3) := by first | (rw [hy309]; with_reducible exact H) | (have H2_ := (Option.bind_some _ _).symm.trans H; rw [hy309]; with_reducible exact H2_) | (have H2_ := (Option.bind_some _ _).symm.trans H; with_reducible exact H2_) | with_reducible exact H | (rw [hy309]; exact H) | exact H
          have Ny309 := Aside0.mk hy309
          clear hy309
          simp only [Option.some.injEq, Prod.mk.injEq] at H
          obtain ⟨rfl, rfl, rfl⟩ := H
          try go_wp2_with (first | ((with_reducible refine gate_callee (f := 90) rfl ?_); refine goesL_ (some 18) rfl rfl Tryz.func90 (by kernel_rfl) rfl #[.pointer (some ⟨g, 0, none⟩), .int .i64 8] rfl q2_ ?_; (with_reducible refine (spec_l1Below.calls g s0_0 x1001_4 x1002_4 8 t271 t272 t273 w0 _ ?side1 ?side2 A22.1).mono ?_); (case side1 => exact q8_); (case side2 => exact q7_); rintro e w42 ⟨rfl, hi, hb, hk⟩; refine ⟨_, rfl, ?_⟩; have n0_ := Aside0.mk (Kd.R_mono (Kd.R_keep (IsS143.apart (show IsS143 w0 _ g s0_0 x1001_4 x1002_4 from by repeat (first | (with_reducible first | exact HI0.1 | apply IsS143.alloc | apply IsS143.drewN | apply IsS143.drew | apply IsS143.set_1 | apply IsS143.set_2 | refine IsS143.far ?_ NB0_255.1 _) | exact HI0.1)) q12_ (by decide)) hk (fun _ h => h.2)) (fun _ h => h.1)); have n1_ := Aside0.mk (Kd.R_mono (Kd.R_keep (IsS143.apart (show IsS143 w0 _ g s0_0 x1001_4 x1002_4 from by repeat (first | (with_reducible first | exact HI0.1 | apply IsS143.alloc | apply IsS143.drewN | apply IsS143.drew | apply IsS143.set_1 | apply IsS143.set_2 | refine IsS143.far ?_ NB0_255.1 _) | exact HI0.1)) q24_ (by decide)) hk (fun _ h => h.2)) (fun _ h => h.1)); have n2_ := Aside0.mk (KeepBut.blk hk (g' := gb255) (o := .cells #[.string t247, .string t248, .slice Ao10 t249.length co10, .string t252] 64 (0, 0)) q18_ NB255_0.1 (by simp)); have n3_ := Aside0.mk (KeepBut.trans q5_ hk (.inl rfl)); have n4_ := Aside0.mk (hb); have n5_ := Aside0.mk (hi); clear HO_4 HO_256002; clear BK255 HK; clear HB HI0; have HO_4 := n0_; have HO_256002 := n1_; have BK255 := n2_; have HK := n3_; have HB := n4_; have HI0 := n5_; clear n0_ n1_ n2_ n3_ n4_ n5_; (try clear hb); (try clear hb2); (try clear hk); (try clear hi); obtain ⟨Ao43, co43, eo43⟩ := Kd.R_slice HO_4.1; subst eo43) | ((with_reducible refine gate_callee (f := 90) rfl ?_); refine goesL_ (some 31) rfl rfl Tryz.func90 (by kernel_rfl) rfl #[.pointer (some ⟨g, 0, none⟩), .int .i64 (wrap64 ((x4_4.length : Int) + 1))] rfl q2_ ?_; (with_reducible refine (spec_l1Below.calls g s0_0 t272 t273 (wrap64 ((x4_4.length : Int) + 1)) t283 t284 t285 w0 _ ?side1 ?side2 A33.1).mono ?_); (case side1 => exact q8_); (case side2 => exact q7_); rintro e w44 ⟨rfl, hi, hb, hk⟩; refine ⟨_, rfl, ?_⟩; have n0_ := Aside0.mk (Kd.R_mono (Kd.R_keep (IsS143.apart (show IsS143 w0 _ g s0_0 t272 t273 from by repeat (first | (with_reducible first | exact HI0.1 | apply IsS143.alloc | apply IsS143.drewN | apply IsS143.drew | apply IsS143.set_1 | apply IsS143.set_2 | refine IsS143.far ?_ NB0_255.1 _) | exact HI0.1)) q12_ (by decide)) hk (fun _ h => h.2)) (fun _ h => h.1)); have n1_ := Aside0.mk (Kd.R_mono (Kd.R_keep (IsS143.apart (show IsS143 w0 _ g s0_0 t272 t273 from by repeat (first | (with_reducible first | exact HI0.1 | apply IsS143.alloc | apply IsS143.drewN | apply IsS143.drew | apply IsS143.set_1 | apply IsS143.set_2 | refine IsS143.far ?_ NB0_255.1 _) | exact HI0.1)) q24_ (by decide)) hk (fun _ h => h.2)) (fun _ h => h.1)); have n2_ := Aside0.mk (KeepBut.blk hk (g' := gb255) (o := .cells #[.string t247, .string t248, .slice Ao10 t249.length co10, .string t252] 64 (0, 0)) q18_ NB255_0.1 (by simp)); have n3_ := Aside0.mk (KeepBut.trans q5_ hk (.inl rfl)); have n4_ := Aside0.mk (hb); have n5_ := Aside0.mk (hi); clear HO_4 HO_256002; clear BK255 HK; clear HB HI0; have HO_4 := n0_; have HO_256002 := n1_; have BK255 := n2_; have HK := n3_; have HB := n4_; have HI0 := n5_; clear n0_ n1_ n2_ n3_ n4_ n5_; (try clear hb); (try clear hb2); (try clear hk); (try clear hi)))
          have n0_ := Aside0.mk (rD_ HO_4.1)
          have n1_ := Aside0.mk (rD_ HO_256002.1)
          have n2_ := Aside0.mk (bD_ BK255.1)
          have n3_ := Aside0.mk (IsS143.drew HI0.1)
          have n4_ := Aside0.mk (keep_drew HK.1)
          have n5_ := Aside0.mk (dB_ HB.1)
          clear HO_4 HO_256002 BK255 HI0 HK HB
          have HO_4 := n0_
          have HO_256002 := n1_
          have BK255 := n2_
          have HI0 := n3_
          have HK := n4_
          have HB := n5_
          clear n0_ n1_ n2_ n3_ n4_ n5_
          have q46 : (t283 : Int) ≤ ((x4_4.length : Int) : Int) := of_decide_eq_true q4_
          obtain ⟨i046, hi046, _, hsz46, _⟩ := info_parts info5
          have hroom46 : x4_4.length ≤ co43 := (Kd.R_reads' HO_4.1).2.1
          have hC46 : Kd.C (Kd.int .u8) _ Ao43 x4_4.length x4_4 := (Kd.R_reads' HO_4.1).2.2
          have hcut46 := cut_to (P := Tryz.prog) 22 5 .i64 Tryz.underlying22 hi046 Ao43 x4_4.length co43 t283 (of_decide_eq_true q4_) q46 hroom46
          have hr46 := Kd.C_take (m := (t283 : Int).toNat) hC46 (by omega)
          have hy46 : y289.length = (t283 : Int).toNat := (by rw [Ny289.1, List.length_take]; omega)
          rw [← Ny289.1] at hr46
          rw [← hy46] at hcut46
          have HR292 := Aside0.mk hr46
          have HC292 := Aside0.mk (show y289.length ≤ co43 from by omega)
          clear hr46 hC46 hroom46 hi046 hsz46
          have KY46 := Aside0.mk hy46
          clear hy46
          have KL46 := Aside0.mk (show (t283 : Int).toNat ≤ x4_4.length from by omega)
          replace q46 := eq_true q46
          have q47 : (t283 : Int) ≤ ((x4_4.length : Int) : Int) := of_decide_eq_true q4_
          obtain ⟨i047, hi047, _, hsz47, _⟩ := info_parts info5
          have hroom47 : x4_4.length ≤ co43 := (Kd.R_reads' HO_4.1).2.1
          have hC47 : Kd.C (Kd.int .u8) _ Ao43 x4_4.length x4_4 := (Kd.R_reads' HO_4.1).2.2
          have q047 : (0 : Int) ≤ (t283 : Int) := of_decide_eq_true q4_
          have hcut47 := cut_from (P := Tryz.prog) 22 5 .i64 Tryz.underlying22 hi047 1 hsz47 Ao43 x4_4.length co43 t283 q047 q47
          have hr47 := Kd.C_drop (m := (t283 : Int).toNat) (c := co43) hC47 (by omega) hroom47
          obtain ⟨A47, hA47⟩ : ∃ A1, A1 = (if co43 = (t283 : Int).toNat then Ao43 else (Ao43 : Option Addr).map (·.add ((t283 : Int).toNat * 1))) := ⟨_, rfl⟩
          obtain ⟨c47, hc47⟩ : ∃ c1, c1 = co43 - (t283 : Int).toNat := ⟨_, rfl⟩
          have hy47 : y305.length = x4_4.length - (t283 : Int).toNat := (by rw [Ny305.1, List.length_drop] <;> omega)
          rw [show (x4_4).drop (t283 : Int).toNat = y305 from Ny305.1.symm] at hr47
          replace hr47 : Kd.C (Kd.int .u8) _ A47 y305.length y305 := (by rw [hA47]; exact hr47)
          rw [← hy47, ← hA47, ← hc47] at hcut47
          have HR308 := Aside0.mk hr47
          have HC308 := Aside0.mk (show y305.length ≤ c47 from by rw [hy47, hc47]; exact Nat.sub_le_sub_right hroom47 _)
          clear hr47 hC47 hroom47 hi047 hsz47 hc47
          have KY47 := Aside0.mk hy47
          have KA47 := Aside0.mk hA47
          clear hy47 hA47
          have KL47 := Aside0.mk (show (t283 : Int).toNat ≤ x4_4.length from by omega)
          replace q47 := eq_true q47
          refine start_ (n := 16) (S := fun w' => True) (ds := []) #[false, false, false, false, false, false, false, false, false, false, false, false, false, false, false, false] (by kernel_rfl) rfl rfl trivial (fun hHeld => ?_); refine with_tabW spec_l3Bytes.tab10 spec_l3Bytes.bits10 (fun HT_ HW_ => ?_)
          generalize w44.drew = w45 at HO_4 HO_256002 BK255 HI0 HK HB HR292 HR308 hHeld ⊢
          refine pure_ (i := 1) (N := some 33) (v := ?_) (a' := ?_) #[false, true, false, false, false, false, false, false, false, false, false, false, false, false, false, false] rfl rfl (any_of HT_.1 (by kernel_rfl)) (fun _ _ _ h => h) (Or.inl ⟨by rfl, ?_⟩) ?_ ?_
          rotate_left
          ·intro w'
           go_simp
           with_reducible rfl
          rotate_left
          ·simp only [Act.put, List.setIfInBounds_toArray, List.set_cons_zero, List.set_cons_succ, i64_w, i32_w]
           rfl
          refine pure_ (i := 2) (N := some 34) (v := ?_) (a' := ?_) #[false, true, true, false, false, false, false, false, false, false, false, false, false, false, false, false] rfl rfl (any_of HT_.1 (by kernel_rfl)) (fun _ _ _ h => h) (Or.inl ⟨by rfl, ?_⟩) ?_ ?_
          rotate_left
          ·intro w'
           go_simp
           with_reducible rfl
          rotate_left
          ·simp only [Act.put, List.setIfInBounds_toArray, List.set_cons_zero, List.set_cons_succ, i64_w, i32_w]
           rfl
          refine pure_ (i := 3) (N := some 35) (v := ?_) (a' := ?_) #[false, true, true, true, false, false, false, false, false, false, false, false, false, false, false, false] rfl rfl (any_of HT_.1 (by kernel_rfl)) (fun _ _ _ h => h) (Or.inl ⟨by rfl, ?_⟩) ?_ ?_
          rotate_left
          ·intro w'
           go_simp
           with_reducible rfl
          rotate_left
          ·simp only [Act.put, List.setIfInBounds_toArray, List.set_cons_zero, List.set_cons_succ, i64_w, i32_w]
           rfl
          refine pure_ (i := 5) (N := some 37) (v := ?_) (a' := ?_) #[false, true, true, true, false, true, false, false, false, false, false, false, false, false, false, false] rfl rfl (any_of HT_.1 (by kernel_rfl)) (fun _ _ _ h => h) (Or.inl ⟨by rfl, ?_⟩) ?_ ?_
          rotate_left
          ·intro w'
           go_simp
           with_reducible rfl
          rotate_left
          ·simp only [Act.put, List.setIfInBounds_toArray, List.set_cons_zero, List.set_cons_succ, i64_w, i32_w]
           rfl
          refine pure_ (i := 11) (N := some 43) (v := ?_) (a' := ?_) #[false, true, true, true, false, true, false, false, false, false, false, true, false, false, false, false] rfl rfl (any_of HT_.1 (by kernel_rfl)) (fun _ _ _ h => h) (Or.inl ⟨by rfl, ?_⟩) ?_ ?_
          rotate_left
          ·intro w'
           go_simp
           with_reducible rfl
          rotate_left
          ·simp only [Act.put, List.setIfInBounds_toArray, List.set_cons_zero, List.set_cons_succ, i64_w, i32_w]
           rfl
          refine pure_ (i := 12) (N := some 44) (v := ?_) (a' := ?_) #[false, true, true, true, false, true, false, false, false, false, false, true, true, false, false, false] rfl rfl (any_of HT_.1 (by kernel_rfl)) (fun _ _ _ h => h) (Or.inl ⟨by rfl, ?_⟩) ?_ ?_
          rotate_left
          ·intro w'
           go_simp
           with_reducible rfl
          rotate_left
          ·simp only [Act.put, List.setIfInBounds_toArray, List.set_cons_zero, List.set_cons_succ, i64_w, i32_w]
           rfl
          refine pure_ (i := 13) (N := some 45) (v := ?_) (a' := ?_) #[false, true, true, true, false, true, false, false, false, false, false, true, true, true, false, false] rfl rfl (any_of HT_.1 (by kernel_rfl)) (fun _ _ _ h => h) (Or.inl ⟨by rfl, ?_⟩) ?_ ?_
          rotate_left
          ·intro w'
           go_simp
           with_reducible rfl
          rotate_left
          ·simp only [Act.put, List.setIfInBounds_toArray, List.set_cons_zero, List.set_cons_succ, i64_w, i32_w]
           rfl
          refine join_ (σ := Value × Value × Value) 6 #[true, true, true, true, true, true, true, false, false, false, false, true, true, true, false, false] (fun s_ => [(32, s_.1), (36, s_.2.1), (38, s_.2.2)]) (fun s_ w' => (Kd.R (Kd.int .u8) 5 w' w.heap.size (fun k_ => some k_ ≠ (.slice Ao43 x4_4.length co43 : Value).ownBlock) s_.2.1 y293) ∧ (Kd.R (Kd.int .i64) 3 w' w.heap.size (fun _ => True) s_.2.2 y296) ∧ (Kd.R k88 88 w' w.heap.size (fun _ => True) (.slice Ao10 t249.length co10) t249) ∧ (Kd.R (Kd.int .u8) 5 w' w.heap.size (fun k_ => some k_ ≠ (s_.2.1 : Value).ownBlock) (.slice Ao43 x4_4.length co43) x4_4) ∧ (w'.heap[gb255]? = some (.cells #[.string t247, .string t248, .slice Ao10 t249.length co10, .string t252] 64 (0, 0))) ∧ (IsS143 w0 w' g s0_0 t284 t285) ∧ (KeepBut w w' g none) ∧ (Below w0.heap.size w0 w')) ?_ ?_
          rotate_left
          ·intro hCont
           refine two_ (i := 0) (j := 6) (Ni := some 32) (Nj := some 38) #[true, true, true, true, false, true, false, false, false, false, false, true, true, true, false, false] #[false, true, true, true, false, true, true, false, false, false, false, true, true, true, false, false] rfl rfl rfl rfl (two_of HT_.1 (by kernel_rfl)) (by decide) (by decide) (fun K hK => ?_) (fun K hK => ?_)
           ·skip
            refine Kd.R_lit_step (Kd.int .u8) _ 5 ?hg (N := 32) ?hd (xs := ([] : List Int)) (inner := []) (ok := fun _ => True) (okp := fun _ => True) ?hr ?hp (fun _ hk => hk) trivial (Below.refl _ _) (Nat.le_refl _) (by simp) ?_; (case hd => rfl); (case hg => rfl); (case hr => exact q26_); (case hp => exact q123_)
            intro v287 w48 ho49 hb hg_ hnew_
            clear hg_ hnew_
            (first | rw [← Ny286.1] at ho49 | (simp only [Int.reduceToNat] at ho49; rw [← Ny286.1] at ho49))
            have n0_ := Aside0.mk (Kd.R_elder' q12_ (Kd.R_base ho49) hb)
            have n1_ := Aside0.mk (Kd.R_below q24_ hb)
            have n2_ := Aside0.mk (Kd.R_lower (Kd.R_new' ho49 (Kd.R_lt q12_)) (keep_size (w := w) (g := g) (row := none) q5_))
            have n3_ := Aside0.mk (bB_ (g := gb255) (o := .cells #[.string t247, .string t248, .slice Ao10 t249.length co10, .string t252] 64 (0, 0)) q18_ hb)
            have n4_ := Aside0.mk (IsS143.below q8_ hb)
            have n5_ := Aside0.mk (Kd.C_below q45_ hb)
            have n6_ := Aside0.mk (Kd.C_below q55_ hb)
            have n7_ := Aside0.mk (KeepBut.trans q5_ (KeepBut.of_below hb g none) (.inl rfl))
            have n8_ := Aside0.mk (below_step q7_ hb)
            clear HO_4 HO_256002 BK255 HI0 HR292 HR308 HK HB
            have HO_4 := n0_
            have HO_256002 := n1_
            have HO288 := n2_
            have BK255 := n3_
            have HI0 := n4_
            have HR292 := n5_
            have HR308 := n6_
            have HK := n7_
            have HB := n8_
            clear n0_ n1_ n2_ n3_ n4_ n5_ n6_ n7_ n8_ hb ho49
            refine hK.out _ _ trivial (fun hHeld => ?_)
            clear hK K
            refine norm_ (a' := ?_) ?_ ?_
            rotate_left
            ·show Act.put _ (some 32) _ = _
             simp only [Act.put, List.setIfInBounds_toArray, List.set_cons_zero, List.set_cons_succ, i64_w, i32_w]
             rfl
            refine two_ (i := 4) (j := 6) (Ni := some 36) (Nj := some 38) #[true, true, true, true, true, true, false, false, false, false, false, true, true, true, false, false] #[true, true, true, true, false, true, true, false, false, false, false, true, true, true, false, false] rfl rfl rfl rfl (two_of HT_.1 (by kernel_rfl)) (by decide) (by decide) (fun K hK => ?_) (fun K hK => ?_)
            ·skip
             refine Kd.R_append_rows_step (Kd.int .u8) w.heap.size (by rfl) (.tmp 32) (.tmp 35) 22 5 (.int .u8 0) 1 rfl Tryz.underlying22 info5 rfl (by decide) (by omega) v287 y286 y289 _ _ _ (fun k_ => some k_ ≠ (.slice Ao43 x4_4.length co43 : Value).ownBlock) (fun _ => False) rfl rfl ?aO ?aR (fun _ _ h => h) (fun _ h => h.elim) ?aF (Below.refl _ _) ?aS ?aL ?_
             (case aR => exact q97_)
             (case aF => exact q106_)
             (case aO => exact q98_)
             (case aS => exact q104_)
             (case aL => have := LMc36.1; omega)
             intro v294 w50 ho hb hg hat
             rw [← Ny293.1] at ho
             have n0_ := Aside0.mk (Kd.R_after (ok := (fun _ => True)) q12_ hg hat)
             have n1_ := Aside0.mk (Kd.R_over' q24_ (Kd.R_typed q78_) (by decide) hg)
             have n2_ := Aside0.mk (blk_grown (g := gb255) (o := .cells #[.string t247, .string t248, .slice Ao10 t249.length co10, .string t252] 64 (0, 0)) q18_ hg (Kd.R_ne HO288.1 BK255.1 (by decide)))
             have n3_ := Aside0.mk (IsS143.grown (show IsS143 w0 _ g s0_0 t284 t285 from by repeat (first | (with_reducible first | exact HI0.1 | apply IsS143.alloc | apply IsS143.drewN | apply IsS143.drew | apply IsS143.set_1 | apply IsS143.set_2 | refine IsS143.far ?_ NB0_255.1 _) | exact HI0.1)) hg (IsS143.own_ne HI0.1 HO288.1 (by decide)))
             have n4_ := Aside0.mk (below_weaken q7_ HL.1 hb)
             have n5_ := Aside0.mk (KeepBut.trans q5_ (KeepBut.of_grown hg g) (Kd.R_base2 HO288.1))
             have n6_ := Aside0.mk ((show Kd.C (Kd.int .u8) w50 Ao43 y289.length y289 from by rw [Ny289.1]; exact Kd.C_take (m := (t283 : Int).toNat) ((Kd.R_reads' (Kd.R_after (ok := (fun _ => True)) q12_ hg hat)).2.2) KL46.1))
             have n7_ := Aside0.mk ((show Kd.C (Kd.int .u8) w50 A47 y305.length y305 from by rw [Ny305.1, KA47.1]; exact Kd.C_drop (m := (t283 : Int).toNat) (c := co43) ((Kd.R_reads' (Kd.R_after (ok := (fun _ => True)) q12_ hg hat)).2.2) KL47.1 ((Kd.R_reads' (Kd.R_after (ok := (fun _ => True)) q12_ hg hat)).2.1)))
             have n8_ := Aside0.mk (ho)
             clear HO_4 HO_256002 BK255 HI0 HB HK HR292 HR308 HO288
             have HO_4 := n0_
             have HO_256002 := n1_
             have BK255 := n2_
             have HI0 := n3_
             have HB := n4_
             have HK := n5_
             have HR292 := n6_
             have HR308 := n7_
             have HO295 := n8_
             clear n0_ n1_ n2_ n3_ n4_ n5_ n6_ n7_ n8_ ho hb hg hat
             refine hK.out _ _ trivial (fun hHeld => ?_)
             clear hK K
             refine norm_ (a' := ?_) ?_ ?_
             rotate_left
             ·show Act.put _ (some 36) _ = _
              simp only [Act.put, List.setIfInBounds_toArray, List.set_cons_zero, List.set_cons_succ, i64_w, i32_w]
              rfl
             refine one_ (i := 6) (N := some 38) #[true, true, true, true, true, true, true, false, false, false, false, true, true, true, false, false] rfl rfl (one_of HT_.1 (by kernel_rfl)) (by decide) (fun K hK => ?_)
             refine Kd.R_lit_step (Kd.int .i64) _ 3 ?hg (N := 38) ?hd (xs := ([0, 13, 10, 32, 58, 65, 255] : List Int)) (inner := [.int .i64 0, .int .i64 13, .int .i64 10, .int .i64 32, .int .i64 58, .int .i64 65, .int .i64 255]) (ok := fun _ => True) (okp := fun _ => True) ?hr ?hp (fun _ hk => hk) trivial (Below.refl _ _) (Nat.le_refl _) (by simp) ?_; (case hd => rfl); (case hg => rfl); (case hr => exact q26_); (case hp => exact q53_)
             intro v297 w51 ho52 hb hg_ hnew_
             clear hg_ hnew_
             (first | rw [← Ny296.1] at ho52 | (simp only [Int.reduceToNat] at ho52; rw [← Ny296.1] at ho52))
             have n0_ := Aside0.mk (Kd.R_below q12_ hb)
             have n1_ := Aside0.mk (Kd.R_below q24_ hb)
             have n2_ := Aside0.mk (Kd.R_below q65_ hb)
             have n3_ := Aside0.mk (Kd.R_lower ho52 (keep_size (w := w) (g := g) (row := none) q5_))
             have n4_ := Aside0.mk (bB_ (g := gb255) (o := .cells #[.string t247, .string t248, .slice Ao10 t249.length co10, .string t252] 64 (0, 0)) q18_ hb)
             have n5_ := Aside0.mk (IsS143.below q8_ hb)
             have n6_ := Aside0.mk (Kd.C_below q45_ hb)
             have n7_ := Aside0.mk (Kd.C_below q55_ hb)
             have n8_ := Aside0.mk (KeepBut.trans q5_ (KeepBut.of_below hb g none) (.inl rfl))
             have n9_ := Aside0.mk (below_step q7_ hb)
             clear HO_4 HO_256002 HO295 BK255 HI0 HR292 HR308 HK HB
             have HO_4 := n0_
             have HO_256002 := n1_
             have HO295 := n2_
             have HO298 := n3_
             have BK255 := n4_
             have HI0 := n5_
             have HR292 := n6_
             have HR308 := n7_
             have HK := n8_
             have HB := n9_
             clear n0_ n1_ n2_ n3_ n4_ n5_ n6_ n7_ n8_ n9_ hb ho52
             refine hK.out _ _ trivial (fun hHeld => ?_)
             clear hK K
             refine norm_ (a' := ?_) ?_ ?_
             rotate_left
             ·show Act.put _ (some 38) _ = _
              simp only [Act.put, List.setIfInBounds_toArray, List.set_cons_zero, List.set_cons_succ, i64_w, i32_w]
              rfl
             exact norm_ q114_ (hCont (v287, v294, v297) _ ⟨q65_, q59_, q24_, q100_, q18_, q8_, q5_, q7_⟩)
            ·skip
             refine Kd.R_lit_step (Kd.int .i64) _ 3 ?hg (N := 38) ?hd (xs := ([0, 13, 10, 32, 58, 65, 255] : List Int)) (inner := [.int .i64 0, .int .i64 13, .int .i64 10, .int .i64 32, .int .i64 58, .int .i64 65, .int .i64 255]) (ok := fun _ => True) (okp := fun _ => True) ?hr ?hp (fun _ hk => hk) trivial (Below.refl _ _) (Nat.le_refl _) (by simp) ?_; (case hd => rfl); (case hg => rfl); (case hr => exact q26_); (case hp => exact q53_)
             intro v297 w50 ho51 hb hg_ hnew_
             clear hg_ hnew_
             (first | rw [← Ny296.1] at ho51 | (simp only [Int.reduceToNat] at ho51; rw [← Ny296.1] at ho51))
             have n0_ := Aside0.mk (Kd.R_below q12_ hb)
             have n1_ := Aside0.mk (Kd.R_below q24_ hb)
             have n2_ := Aside0.mk (Kd.R_below q78_ hb)
             have n3_ := Aside0.mk (Kd.R_lower ho51 (keep_size (w := w) (g := g) (row := none) q5_))
             have n4_ := Aside0.mk (bB_ (g := gb255) (o := .cells #[.string t247, .string t248, .slice Ao10 t249.length co10, .string t252] 64 (0, 0)) q18_ hb)
             have n5_ := Aside0.mk (IsS143.below q8_ hb)
             have n6_ := Aside0.mk (Kd.C_below q45_ hb)
             have n7_ := Aside0.mk (Kd.C_below q55_ hb)
             have n8_ := Aside0.mk (KeepBut.trans q5_ (KeepBut.of_below hb g none) (.inl rfl))
             have n9_ := Aside0.mk (below_step q7_ hb)
             clear HO_4 HO_256002 HO288 BK255 HI0 HR292 HR308 HK HB
             have HO_4 := n0_
             have HO_256002 := n1_
             have HO288 := n2_
             have HO298 := n3_
             have BK255 := n4_
             have HI0 := n5_
             have HR292 := n6_
             have HR308 := n7_
             have HK := n8_
             have HB := n9_
             clear n0_ n1_ n2_ n3_ n4_ n5_ n6_ n7_ n8_ n9_ hb ho51
             refine hK.out _ _ trivial (fun hHeld => ?_)
             clear hK K
             refine norm_ (a' := ?_) ?_ ?_
             rotate_left
             ·show Act.put _ (some 38) _ = _
              simp only [Act.put, List.setIfInBounds_toArray, List.set_cons_zero, List.set_cons_succ, i64_w, i32_w]
              rfl
             refine one_ (i := 4) (N := some 36) #[true, true, true, true, true, true, true, false, false, false, false, true, true, true, false, false] rfl rfl (one_of HT_.1 (by kernel_rfl)) (by decide) (fun K hK => ?_)
             refine Kd.R_append_rows_step (Kd.int .u8) w.heap.size (by rfl) (.tmp 32) (.tmp 35) 22 5 (.int .u8 0) 1 rfl Tryz.underlying22 info5 rfl (by decide) (by omega) v287 y286 y289 _ _ _ (fun k_ => some k_ ≠ (.slice Ao43 x4_4.length co43 : Value).ownBlock) (fun _ => False) rfl rfl ?aO ?aR (fun _ _ h => h) (fun _ h => h.elim) ?aF (Below.refl _ _) ?aS ?aL ?_
             (case aR => exact q97_)
             (case aF => exact q106_)
             (case aO => exact q98_)
             (case aS => exact q104_)
             (case aL => have := LMc36.1; omega)
             intro v294 w52 ho hb hg hat
             rw [← Ny293.1] at ho
             have n0_ := Aside0.mk (Kd.R_after (ok := (fun _ => True)) q12_ hg hat)
             have n1_ := Aside0.mk (Kd.R_over' q24_ (Kd.R_typed q78_) (by decide) hg)
             have n2_ := Aside0.mk (blk_grown (g := gb255) (o := .cells #[.string t247, .string t248, .slice Ao10 t249.length co10, .string t252] 64 (0, 0)) q18_ hg (Kd.R_ne HO288.1 BK255.1 (by decide)))
             have n3_ := Aside0.mk (IsS143.grown (show IsS143 w0 _ g s0_0 t284 t285 from by repeat (first | (with_reducible first | exact HI0.1 | apply IsS143.alloc | apply IsS143.drewN | apply IsS143.drew | apply IsS143.set_1 | apply IsS143.set_2 | refine IsS143.far ?_ NB0_255.1 _) | exact HI0.1)) hg (IsS143.own_ne HI0.1 HO288.1 (by decide)))
             have n4_ := Aside0.mk (Kd.R_over' q59_ (Kd.R_typed q78_) (by decide) hg)
             have n5_ := Aside0.mk (below_weaken q7_ HL.1 hb)
             have n6_ := Aside0.mk (KeepBut.trans q5_ (KeepBut.of_grown hg g) (Kd.R_base2 HO288.1))
             have n7_ := Aside0.mk ((show Kd.C (Kd.int .u8) w52 Ao43 y289.length y289 from by rw [Ny289.1]; exact Kd.C_take (m := (t283 : Int).toNat) ((Kd.R_reads' (Kd.R_after (ok := (fun _ => True)) q12_ hg hat)).2.2) KL46.1))
             have n8_ := Aside0.mk ((show Kd.C (Kd.int .u8) w52 A47 y305.length y305 from by rw [Ny305.1, KA47.1]; exact Kd.C_drop (m := (t283 : Int).toNat) (c := co43) ((Kd.R_reads' (Kd.R_after (ok := (fun _ => True)) q12_ hg hat)).2.2) KL47.1 ((Kd.R_reads' (Kd.R_after (ok := (fun _ => True)) q12_ hg hat)).2.1)))
             have n9_ := Aside0.mk (ho)
             clear HO_4 HO_256002 BK255 HI0 HO298 HB HK HR292 HR308 HO288
             have HO_4 := n0_
             have HO_256002 := n1_
             have BK255 := n2_
             have HI0 := n3_
             have HO298 := n4_
             have HB := n5_
             have HK := n6_
             have HR292 := n7_
             have HR308 := n8_
             have HO295 := n9_
             clear n0_ n1_ n2_ n3_ n4_ n5_ n6_ n7_ n8_ n9_ ho hb hg hat
             refine hK.out _ _ trivial (fun hHeld => ?_)
             clear hK K
             refine norm_ (a' := ?_) ?_ ?_
             rotate_left
             ·show Act.put _ (some 36) _ = _
              simp only [Act.put, List.setIfInBounds_toArray, List.set_cons_zero, List.set_cons_succ, i64_w, i32_w]
              rfl
             exact norm_ q114_ (hCont (v287, v294, v297) _ ⟨q65_, q59_, q24_, q100_, q18_, q8_, q5_, q7_⟩)
           ·skip
            refine Kd.R_lit_step (Kd.int .i64) _ 3 ?hg (N := 38) ?hd (xs := ([0, 13, 10, 32, 58, 65, 255] : List Int)) (inner := [.int .i64 0, .int .i64 13, .int .i64 10, .int .i64 32, .int .i64 58, .int .i64 65, .int .i64 255]) (ok := fun _ => True) (okp := fun _ => True) ?hr ?hp (fun _ hk => hk) trivial (Below.refl _ _) (Nat.le_refl _) (by simp) ?_; (case hd => rfl); (case hg => rfl); (case hr => exact q26_); (case hp => exact q53_)
            intro v297 w48 ho49 hb hg_ hnew_
            clear hg_ hnew_
            (first | rw [← Ny296.1] at ho49 | (simp only [Int.reduceToNat] at ho49; rw [← Ny296.1] at ho49))
            have n0_ := Aside0.mk (Kd.R_below q12_ hb)
            have n1_ := Aside0.mk (Kd.R_below q24_ hb)
            have n2_ := Aside0.mk (Kd.R_lower ho49 (keep_size (w := w) (g := g) (row := none) q5_))
            have n3_ := Aside0.mk (bB_ (g := gb255) (o := .cells #[.string t247, .string t248, .slice Ao10 t249.length co10, .string t252] 64 (0, 0)) q18_ hb)
            have n4_ := Aside0.mk (IsS143.below q8_ hb)
            have n5_ := Aside0.mk (Kd.C_below q45_ hb)
            have n6_ := Aside0.mk (Kd.C_below q55_ hb)
            have n7_ := Aside0.mk (KeepBut.trans q5_ (KeepBut.of_below hb g none) (.inl rfl))
            have n8_ := Aside0.mk (below_step q7_ hb)
            clear HO_4 HO_256002 BK255 HI0 HR292 HR308 HK HB
            have HO_4 := n0_
            have HO_256002 := n1_
            have HO298 := n2_
            have BK255 := n3_
            have HI0 := n4_
            have HR292 := n5_
            have HR308 := n6_
            have HK := n7_
            have HB := n8_
            clear n0_ n1_ n2_ n3_ n4_ n5_ n6_ n7_ n8_ hb ho49
            refine hK.out _ _ trivial (fun hHeld => ?_)
            clear hK K
            refine norm_ (a' := ?_) ?_ ?_
            rotate_left
            ·show Act.put _ (some 38) _ = _
             simp only [Act.put, List.setIfInBounds_toArray, List.set_cons_zero, List.set_cons_succ, i64_w, i32_w]
             rfl
            refine one_ (i := 0) (N := some 32) #[true, true, true, true, false, true, true, false, false, false, false, true, true, true, false, false] rfl rfl (one_of HT_.1 (by kernel_rfl)) (by decide) (fun K hK => ?_)
            refine Kd.R_lit_step (Kd.int .u8) _ 5 ?hg (N := 32) ?hd (xs := ([] : List Int)) (inner := []) (ok := fun _ => True) (okp := fun _ => True) ?hr ?hp (fun _ hk => hk) trivial (Below.refl _ _) (Nat.le_refl _) (by simp) ?_; (case hd => rfl); (case hg => rfl); (case hr => exact q26_); (case hp => exact q123_)
            intro v287 w50 ho51 hb hg_ hnew_
            clear hg_ hnew_
            (first | rw [← Ny286.1] at ho51 | (simp only [Int.reduceToNat] at ho51; rw [← Ny286.1] at ho51))
            have n0_ := Aside0.mk (Kd.R_elder' q12_ (Kd.R_base ho51) hb)
            have n1_ := Aside0.mk (Kd.R_below q24_ hb)
            have n2_ := Aside0.mk (Kd.R_below q59_ hb)
            have n3_ := Aside0.mk (Kd.R_lower (Kd.R_new' ho51 (Kd.R_lt q12_)) (keep_size (w := w) (g := g) (row := none) q5_))
            have n4_ := Aside0.mk (bB_ (g := gb255) (o := .cells #[.string t247, .string t248, .slice Ao10 t249.length co10, .string t252] 64 (0, 0)) q18_ hb)
            have n5_ := Aside0.mk (IsS143.below q8_ hb)
            have n6_ := Aside0.mk (Kd.C_below q45_ hb)
            have n7_ := Aside0.mk (Kd.C_below q55_ hb)
            have n8_ := Aside0.mk (KeepBut.trans q5_ (KeepBut.of_below hb g none) (.inl rfl))
            have n9_ := Aside0.mk (below_step q7_ hb)
            clear HO_4 HO_256002 HO298 BK255 HI0 HR292 HR308 HK HB
            have HO_4 := n0_
            have HO_256002 := n1_
            have HO298 := n2_
            have HO288 := n3_
            have BK255 := n4_
            have HI0 := n5_
            have HR292 := n6_
            have HR308 := n7_
            have HK := n8_
            have HB := n9_
            clear n0_ n1_ n2_ n3_ n4_ n5_ n6_ n7_ n8_ n9_ hb ho51
            refine hK.out _ _ trivial (fun hHeld => ?_)
            clear hK K
            refine norm_ (a' := ?_) ?_ ?_
            rotate_left
            ·show Act.put _ (some 32) _ = _
             simp only [Act.put, List.setIfInBounds_toArray, List.set_cons_zero, List.set_cons_succ, i64_w, i32_w]
             rfl
            refine one_ (i := 4) (N := some 36) #[true, true, true, true, true, true, true, false, false, false, false, true, true, true, false, false] rfl rfl (one_of HT_.1 (by kernel_rfl)) (by decide) (fun K hK => ?_)
            refine Kd.R_append_rows_step (Kd.int .u8) w.heap.size (by rfl) (.tmp 32) (.tmp 35) 22 5 (.int .u8 0) 1 rfl Tryz.underlying22 info5 rfl (by decide) (by omega) v287 y286 y289 _ _ _ (fun k_ => some k_ ≠ (.slice Ao43 x4_4.length co43 : Value).ownBlock) (fun _ => False) rfl rfl ?aO ?aR (fun _ _ h => h) (fun _ h => h.elim) ?aF (Below.refl _ _) ?aS ?aL ?_
            (case aR => exact q97_)
            (case aF => exact q106_)
            (case aO => exact q98_)
            (case aS => exact q104_)
            (case aL => have := LMc36.1; omega)
            intro v294 w52 ho hb hg hat
            rw [← Ny293.1] at ho
            have n0_ := Aside0.mk (Kd.R_after (ok := (fun _ => True)) q12_ hg hat)
            have n1_ := Aside0.mk (Kd.R_over' q24_ (Kd.R_typed q78_) (by decide) hg)
            have n2_ := Aside0.mk (blk_grown (g := gb255) (o := .cells #[.string t247, .string t248, .slice Ao10 t249.length co10, .string t252] 64 (0, 0)) q18_ hg (Kd.R_ne HO288.1 BK255.1 (by decide)))
            have n3_ := Aside0.mk (IsS143.grown (show IsS143 w0 _ g s0_0 t284 t285 from by repeat (first | (with_reducible first | exact HI0.1 | apply IsS143.alloc | apply IsS143.drewN | apply IsS143.drew | apply IsS143.set_1 | apply IsS143.set_2 | refine IsS143.far ?_ NB0_255.1 _) | exact HI0.1)) hg (IsS143.own_ne HI0.1 HO288.1 (by decide)))
            have n4_ := Aside0.mk (Kd.R_over' q59_ (Kd.R_typed q78_) (by decide) hg)
            have n5_ := Aside0.mk (below_weaken q7_ HL.1 hb)
            have n6_ := Aside0.mk (KeepBut.trans q5_ (KeepBut.of_grown hg g) (Kd.R_base2 HO288.1))
            have n7_ := Aside0.mk ((show Kd.C (Kd.int .u8) w52 Ao43 y289.length y289 from by rw [Ny289.1]; exact Kd.C_take (m := (t283 : Int).toNat) ((Kd.R_reads' (Kd.R_after (ok := (fun _ => True)) q12_ hg hat)).2.2) KL46.1))
            have n8_ := Aside0.mk ((show Kd.C (Kd.int .u8) w52 A47 y305.length y305 from by rw [Ny305.1, KA47.1]; exact Kd.C_drop (m := (t283 : Int).toNat) (c := co43) ((Kd.R_reads' (Kd.R_after (ok := (fun _ => True)) q12_ hg hat)).2.2) KL47.1 ((Kd.R_reads' (Kd.R_after (ok := (fun _ => True)) q12_ hg hat)).2.1)))
            have n9_ := Aside0.mk (ho)
            clear HO_4 HO_256002 BK255 HI0 HO298 HB HK HR292 HR308 HO288
            have HO_4 := n0_
            have HO_256002 := n1_
            have BK255 := n2_
            have HI0 := n3_
            have HO298 := n4_
            have HB := n5_
            have HK := n6_
            have HR292 := n7_
            have HR308 := n8_
            have HO295 := n9_
            clear n0_ n1_ n2_ n3_ n4_ n5_ n6_ n7_ n8_ n9_ ho hb hg hat
            refine hK.out _ _ trivial (fun hHeld => ?_)
            clear hK K
            refine norm_ (a' := ?_) ?_ ?_
            rotate_left
            ·show Act.put _ (some 36) _ = _
             simp only [Act.put, List.setIfInBounds_toArray, List.set_cons_zero, List.set_cons_succ, i64_w, i32_w]
             rfl
            exact norm_ q114_ (hCont (v287, v294, v297) _ ⟨q65_, q59_, q24_, q100_, q18_, q8_, q5_, q7_⟩)
          rintro ⟨v287, v294, v297⟩ w53 ⟨h0_, h1_, h2_, h3_, h4_, h5_, h6_, h7_⟩
          have n0_ : Aside0 (Kd.R (Kd.int .u8) 5 w53 w.heap.size (fun k_ => some k_ ≠ (.slice Ao43 x4_4.length co43 : Value).ownBlock) v294 y293) := ⟨h0_⟩
          have n1_ : Aside0 (Kd.R (Kd.int .i64) 3 w53 w.heap.size (fun _ => True) v297 y296) := ⟨h1_⟩
          have n2_ : Aside0 (Kd.R k88 88 w53 w.heap.size (fun _ => True) (.slice Ao10 t249.length co10) t249) := ⟨h2_⟩
          have n3_ : Aside0 (Kd.R (Kd.int .u8) 5 w53 w.heap.size (fun k_ => some k_ ≠ (v294 : Value).ownBlock) (.slice Ao43 x4_4.length co43) x4_4) := ⟨h3_⟩
          have n4_ : Aside0 (w53.heap[gb255]? = some (.cells #[.string t247, .string t248, .slice Ao10 t249.length co10, .string t252] 64 (0, 0))) := ⟨h4_⟩
          have n5_ : Aside0 (IsS143 w0 w53 g s0_0 t284 t285) := ⟨h5_⟩
          have n6_ : Aside0 (KeepBut w w53 g none) := ⟨h6_⟩
          have n7_ : Aside0 (Below w0.heap.size w0 w53) := ⟨h7_⟩
          clear HO_4 HO_256002 BK255 HI0 HK HB h0_ h1_ h2_ h3_ h4_ h5_ h6_ h7_
          have HO295 := n0_
          have HO298 := n1_
          have HO_256002 := n2_
          have HO_4 := n3_
          have BK255 := n4_
          have HI0 := n5_
          have HK := n6_
          have HB := n7_
          clear n0_ n1_ n2_ n3_ n4_ n5_ n6_ n7_
          have hHeld := trivial
          (try clear HR292)
          have HR292 := Aside0.mk (show Kd.C (Kd.int .u8) w53 Ao43 y289.length y289 from by rw [Ny289.1]; exact Kd.C_take (m := (t283 : Int).toNat) ((Kd.R_reads' HO_4.1).2.2) KL46.1)
          (try clear HR308)
          have HR308 := Aside0.mk (show Kd.C (Kd.int .u8) w53 A47 y305.length y305 from by rw [Ny305.1, KA47.1]; exact Kd.C_drop (m := (t283 : Int).toNat) (c := co43) ((Kd.R_reads' HO_4.1).2.2) KL47.1 ((Kd.R_reads' HO_4.1).2.1))
          obtain ⟨Ao54, co54, eo54⟩ := Kd.R_slice HO298.1
          (first | subst eo54 | (injection eo54 with f1_ f2_ f3_; have f4_ := f1_.symm; have f5_ := f3_.symm; clear f1_ f2_ f3_; subst f4_; subst f5_))
          refine norm_ (a' := ?_) ?_ ?_
          rotate_left
          ·simp only [putAll, Act.put, List.setIfInBounds_toArray, List.set_cons_zero, List.set_cons_succ]
           rfl
          refine one_ (i := 7) (N := some 39) #[true, true, true, true, true, true, true, true, false, false, false, true, true, true, false, false] rfl rfl (one_of HT_.1 (by kernel_rfl)) (by decide) (fun K hK => ?_)
          refine goes_ Tryz.func91 (by kernel_rfl) rfl #[.pointer (some ⟨g, 0, none⟩), .slice Ao54 y296.length co54] (by rfl) rfl rfl q2_ ?_
          with_reducible refine (spec_l1Int.calls g s0_0 t284 t285 _ _ y296 t299 t300 t301 w0 _ ?side1 ?side2 ?side3 ?side4 ?side5 A37.1).mono ?_
          (case side1 => exact q8_)
          (case side2 => exact q7_)
          (case side3 => repeat (first | exact (Kd.R_reads' HO298.1).2.2 | (with_reducible refine Kd.C_alloc ?_ _) | (with_reducible refine Kd.C_drewN ?_ _) | (with_reducible refine Kd.C_drew ?_)))
          (case side4 => exact (Kd.R_reads' HO298.1).2.1)
          (case side5 => exact far_slice (IsS143.own_ne HI0.1 HO298.1 (by decide)))
          rintro e w55 ⟨rfl, hi, hb, hk⟩
          refine ⟨_, rfl, ?_⟩
          have n0_ := Aside0.mk (Kd.R_mono (Kd.R_keep (IsS143.apart (show IsS143 w0 _ g s0_0 t284 t285 from by repeat (first | (with_reducible first | exact HI0.1 | apply IsS143.alloc | apply IsS143.drewN | apply IsS143.drew | apply IsS143.set_1 | apply IsS143.set_2 | refine IsS143.far ?_ NB0_255.1 _) | exact HI0.1)) q12_ (by decide)) hk (fun _ h => h.2)) (fun _ h => h.1))
          have n1_ := Aside0.mk (Kd.R_mono (Kd.R_keep (IsS143.apart (show IsS143 w0 _ g s0_0 t284 t285 from by repeat (first | (with_reducible first | exact HI0.1 | apply IsS143.alloc | apply IsS143.drewN | apply IsS143.drew | apply IsS143.set_1 | apply IsS143.set_2 | refine IsS143.far ?_ NB0_255.1 _) | exact HI0.1)) q24_ (by decide)) hk (fun _ h => h.2)) (fun _ h => h.1))
          have n2_ := Aside0.mk (KeepBut.blk hk (g' := gb255) (o := .cells #[.string t247, .string t248, .slice Ao10 t249.length co10, .string t252] 64 (0, 0)) q18_ NB255_0.1 (by simp))
          have n3_ := Aside0.mk (Kd.R_mono (Kd.R_keep (IsS143.apart (show IsS143 w0 _ g s0_0 t284 t285 from by repeat (first | (with_reducible first | exact HI0.1 | apply IsS143.alloc | apply IsS143.drewN | apply IsS143.drew | apply IsS143.set_1 | apply IsS143.set_2 | refine IsS143.far ?_ NB0_255.1 _) | exact HI0.1)) q65_ (by decide)) hk (fun _ h => h.2)) (fun _ h => h.1))
          have n4_ := Aside0.mk (Kd.R_mono (Kd.R_keep (IsS143.apart (show IsS143 w0 _ g s0_0 t284 t285 from by repeat (first | (with_reducible first | exact HI0.1 | apply IsS143.alloc | apply IsS143.drewN | apply IsS143.drew | apply IsS143.set_1 | apply IsS143.set_2 | refine IsS143.far ?_ NB0_255.1 _) | exact HI0.1)) q59_ (by decide)) hk (fun _ h => h.2)) (fun _ h => h.1))
          have n5_ := Aside0.mk ((show Kd.C (Kd.int .u8) w55 Ao43 y289.length y289 from by rw [Ny289.1]; exact Kd.C_take (m := (t283 : Int).toNat) ((Kd.R_reads' (Kd.R_mono (Kd.R_keep (IsS143.apart (show IsS143 w0 _ g s0_0 t284 t285 from by repeat (first | (with_reducible first | exact HI0.1 | apply IsS143.alloc | apply IsS143.drewN | apply IsS143.drew | apply IsS143.set_1 | apply IsS143.set_2 | refine IsS143.far ?_ NB0_255.1 _) | exact HI0.1)) q12_ (by decide)) hk (fun _ h => h.2)) (fun _ h => h.1))).2.2) KL46.1))
          have n6_ := Aside0.mk ((show Kd.C (Kd.int .u8) w55 A47 y305.length y305 from by rw [Ny305.1, KA47.1]; exact Kd.C_drop (m := (t283 : Int).toNat) (c := co43) ((Kd.R_reads' (Kd.R_mono (Kd.R_keep (IsS143.apart (show IsS143 w0 _ g s0_0 t284 t285 from by repeat (first | (with_reducible first | exact HI0.1 | apply IsS143.alloc | apply IsS143.drewN | apply IsS143.drew | apply IsS143.set_1 | apply IsS143.set_2 | refine IsS143.far ?_ NB0_255.1 _) | exact HI0.1)) q12_ (by decide)) hk (fun _ h => h.2)) (fun _ h => h.1))).2.2) KL47.1 ((Kd.R_reads' (Kd.R_mono (Kd.R_keep (IsS143.apart (show IsS143 w0 _ g s0_0 t284 t285 from by repeat (first | (with_reducible first | exact HI0.1 | apply IsS143.alloc | apply IsS143.drewN | apply IsS143.drew | apply IsS143.set_1 | apply IsS143.set_2 | refine IsS143.far ?_ NB0_255.1 _) | exact HI0.1)) q12_ (by decide)) hk (fun _ h => h.2)) (fun _ h => h.1))).2.1)))
          have n7_ := Aside0.mk (KeepBut.trans q5_ hk (.inl rfl))
          have n8_ := Aside0.mk (hb)
          have n9_ := Aside0.mk (hi)
          clear HO_4 HO_256002 BK255 HO295 HO298 HR292 HR308 HK HB HI0
          have HO_4 := n0_
          have HO_256002 := n1_
          have BK255 := n2_
          have HO295 := n3_
          have HO298 := n4_
          have HR292 := n5_
          have HR308 := n6_
          have HK := n7_
          have HB := n8_
          have HI0 := n9_
          clear n0_ n1_ n2_ n3_ n4_ n5_ n6_ n7_ n8_ n9_
          (try clear hb)
          (try clear hb2)
          (try clear hk)
          (try clear hi)
          refine hK.out _ _ trivial (fun hHeld => ?_)
          clear hK K
          refine norm_ (a' := ?_) ?_ ?_
          rotate_left
          ·show Act.put _ (some 39) _ = _
           simp only [Act.put, List.setIfInBounds_toArray, List.set_cons_zero, List.set_cons_succ, i64_w, i32_w]
           rfl
          refine pure_ (i := 8) (N := some 40) (v := ?_) (a' := ?_) #[true, true, true, true, true, true, true, true, true, false, false, true, true, true, false, false] rfl rfl (any_of HT_.1 (by kernel_rfl)) (fun _ _ _ h => h) (Or.inl ⟨by rfl, ?_⟩) ?_ ?_
          rotate_left
          ·intro w'
           go_simp
           with_reducible rfl
          rotate_left
          ·simp only [Act.put, List.setIfInBounds_toArray, List.set_cons_zero, List.set_cons_succ, i64_w, i32_w]
           rfl
          refine one_ (i := 9) (N := some 41) #[true, true, true, true, true, true, true, true, true, true, false, true, true, true, false, false] rfl rfl (one_of HT_.1 (by kernel_rfl)) (by decide) (fun K hK => ?_)
          refine value_ (w1 := ?_) (v := ?_) (by rfl) rfl ?_ ?_
          rotate_left 2
          ·go_simp
           constructor
           ·rfl
           ·rfl
          refine hK.out _ _ trivial (fun hHeld => ?_)
          clear hK K
          refine norm_ (a' := ?_) ?_ ?_
          rotate_left
          ·show Act.put _ (some 41) _ = _
           simp only [Act.put, List.setIfInBounds_toArray, List.set_cons_zero, List.set_cons_succ, i64_w, i32_w]
           rfl
          refine one_ (i := 10) (N := some 42) #[true, true, true, true, true, true, true, true, true, true, true, true, true, true, false, false] rfl rfl (one_of HT_.1 (by kernel_rfl)) (by decide) (fun K hK => ?_)
          refine Kd.R_append_step (Kd.int .u8) w.heap.size (by rfl) (.tmp 36) (.tmp 41) 22 5 (.int .u8 0) 1 rfl Tryz.underlying22 info5 rfl (by decide) (by omega) v294 y293 ((t299) % 256) [.int .u8 ((t299) % 256)] (fun k_ => some k_ ≠ (.slice Ao43 x4_4.length co43 : Value).ownBlock) (fun _ => False) rfl rfl ?aP (fun _ hk => hk.elim) ?aF ?aO (Below.refl _ _) ?aS ?aL ?_
          (case aP => exact rfl)
          (case aF => exact q106_)
          (case aO => exact q65_)
          (case aS => exact q104_)
          (case aL => have := LMc38.1; omega)
          intro v303 w56 ho hb hg hat
          rw [← Ny302.1] at ho
          have n0_ := Aside0.mk (Kd.R_after (ok := (fun _ => True)) q86_ hg hat)
          have n1_ := Aside0.mk (Kd.R_over' q24_ (Kd.R_typed q65_) (by decide) hg)
          have n2_ := Aside0.mk (blk_grown (g := gb255) (o := .cells #[.string t247, .string t248, .slice Ao10 t249.length co10, .string t252] 64 (0, 0)) q18_ hg (Kd.R_ne HO295.1 BK255.1 (by decide)))
          have n3_ := Aside0.mk (IsS143.grown (show IsS143 w0 _ g s0_0 t300 t301 from by repeat (first | (with_reducible first | exact HI0.1 | apply IsS143.alloc | apply IsS143.drewN | apply IsS143.drew | apply IsS143.set_1 | apply IsS143.set_2 | refine IsS143.far ?_ NB0_255.1 _) | exact HI0.1)) hg (IsS143.own_ne HI0.1 HO295.1 (by decide)))
          have n4_ := Aside0.mk (Kd.R_over' q59_ (Kd.R_typed q65_) (by decide) hg)
          have n5_ := Aside0.mk (below_weaken q7_ HL.1 hb)
          have n6_ := Aside0.mk (KeepBut.trans q5_ (KeepBut.of_grown hg g) (Kd.R_base2 HO295.1))
          have n7_ := Aside0.mk ((show Kd.C (Kd.int .u8) w56 Ao43 y289.length y289 from by rw [Ny289.1]; exact Kd.C_take (m := (t283 : Int).toNat) ((Kd.R_reads' (Kd.R_after (ok := (fun _ => True)) q86_ hg hat)).2.2) KL46.1))
          have n8_ := Aside0.mk ((show Kd.C (Kd.int .u8) w56 A47 y305.length y305 from by rw [Ny305.1, KA47.1]; exact Kd.C_drop (m := (t283 : Int).toNat) (c := co43) ((Kd.R_reads' (Kd.R_after (ok := (fun _ => True)) q86_ hg hat)).2.2) KL47.1 ((Kd.R_reads' (Kd.R_after (ok := (fun _ => True)) q86_ hg hat)).2.1)))
          have n9_ := Aside0.mk (ho)
          clear HO_4 HO_256002 BK255 HI0 HO298 HB HK HR292 HR308 HO295
          have HO_4 := n0_
          have HO_256002 := n1_
          have BK255 := n2_
          have HI0 := n3_
          have HO298 := n4_
          have HB := n5_
          have HK := n6_
          have HR292 := n7_
          have HR308 := n8_
          have HO304 := n9_
          clear n0_ n1_ n2_ n3_ n4_ n5_ n6_ n7_ n8_ n9_ ho hb hg hat
          refine hK.out _ _ trivial (fun hHeld => ?_)
          clear hK K
          refine norm_ (a' := ?_) ?_ ?_
          rotate_left
          ·show Act.put _ (some 42) _ = _
           simp only [Act.put, List.setIfInBounds_toArray, List.set_cons_zero, List.set_cons_succ, i64_w, i32_w]
           rfl
          refine one_ (i := 14) (N := some 46) #[true, true, true, true, true, true, true, true, true, true, true, true, true, true, true, false] rfl rfl (one_of HT_.1 (by kernel_rfl)) (by decide) (fun K hK => ?_)
          refine Kd.R_append_rows_step (Kd.int .u8) w.heap.size (by rfl) (.tmp 42) (.tmp 45) 22 5 (.int .u8 0) 1 rfl Tryz.underlying22 info5 rfl (by decide) (by omega) v303 y302 y305 _ _ _ (fun k_ => some k_ ≠ (.slice Ao43 x4_4.length co43 : Value).ownBlock) (fun _ => False) rfl rfl ?aO ?aR (fun _ _ h => h) (fun _ h => h.elim) ?aF (Below.refl _ _) ?aS ?aL ?_
          (case aR => repeat (first | exact q55_ | (with_reducible refine Kd.C_alloc ?_ _) | (with_reducible refine Kd.C_drewN ?_ _) | (with_reducible refine Kd.C_drew ?_)))
          (case aF => exact q106_)
          (case aO => exact q111_)
          (case aS => exact q104_)
          (case aL => have := LMc41.1; omega)
          intro v310 w57 ho hb hg hat
          rw [← Ny309.1] at ho
          have n0_ := Aside0.mk (Kd.R_after (ok := (fun _ => True)) q12_ hg hat)
          have n1_ := Aside0.mk (Kd.R_over' q24_ (Kd.R_typed q111_) (by decide) hg)
          have n2_ := Aside0.mk (blk_grown (g := gb255) (o := .cells #[.string t247, .string t248, .slice Ao10 t249.length co10, .string t252] 64 (0, 0)) q18_ hg (Kd.R_ne HO304.1 BK255.1 (by decide)))
          have n3_ := Aside0.mk (IsS143.grown (show IsS143 w0 _ g s0_0 t300 t301 from by repeat (first | (with_reducible first | exact HI0.1 | apply IsS143.alloc | apply IsS143.drewN | apply IsS143.drew | apply IsS143.set_1 | apply IsS143.set_2 | refine IsS143.far ?_ NB0_255.1 _) | exact HI0.1)) hg (IsS143.own_ne HI0.1 HO304.1 (by decide)))
          have n4_ := Aside0.mk (Kd.R_over' q59_ (Kd.R_typed q111_) (by decide) hg)
          have n5_ := Aside0.mk (below_weaken q7_ HL.1 hb)
          have n6_ := Aside0.mk (KeepBut.trans q5_ (KeepBut.of_grown hg g) (Kd.R_base2 HO304.1))
          have n7_ := Aside0.mk ((show Kd.C (Kd.int .u8) w57 Ao43 y289.length y289 from by rw [Ny289.1]; exact Kd.C_take (m := (t283 : Int).toNat) ((Kd.R_reads' (Kd.R_after (ok := (fun _ => True)) q12_ hg hat)).2.2) KL46.1))
          have n8_ := Aside0.mk ((show Kd.C (Kd.int .u8) w57 A47 y305.length y305 from by rw [Ny305.1, KA47.1]; exact Kd.C_drop (m := (t283 : Int).toNat) (c := co43) ((Kd.R_reads' (Kd.R_after (ok := (fun _ => True)) q12_ hg hat)).2.2) KL47.1 ((Kd.R_reads' (Kd.R_after (ok := (fun _ => True)) q12_ hg hat)).2.1)))
          have n9_ := Aside0.mk (ho)
          clear HO_4 HO_256002 BK255 HI0 HO298 HB HK HR292 HR308 HO304
          have HO_4 := n0_
          have HO_256002 := n1_
          have BK255 := n2_
          have HI0 := n3_
          have HO298 := n4_
          have HB := n5_
          have HK := n6_
          have HR292 := n7_
          have HR308 := n8_
          have HO311 := n9_
          clear n0_ n1_ n2_ n3_ n4_ n5_ n6_ n7_ n8_ n9_ ho hb hg hat
          refine hK.out _ _ trivial (fun hHeld => ?_)
          clear hK K
          refine norm_ (a' := ?_) ?_ ?_
          rotate_left
          ·show Act.put _ (some 46) _ = _
           simp only [Act.put, List.setIfInBounds_toArray, List.set_cons_zero, List.set_cons_succ, i64_w, i32_w]
           rfl
          refine pure_ (i := 15) (N := some 2) (v := ?_) (a' := ?_) #[true, true, true, true, true, true, true, true, true, true, true, true, true, true, true, true] rfl rfl (any_of HT_.1 (by kernel_rfl)) (fun _ _ _ h => h) (Or.inl ⟨by rfl, ?_⟩) ?_ ?_
          rotate_left
          ·intro w'
           go_simp
           with_reducible rfl
          rotate_left
          ·simp only [Act.put, List.setIfInBounds_toArray, List.set_cons_zero, List.set_cons_succ, i64_w, i32_w]
           rfl
          refine done_ (done_of HT_.1 (by kernel_rfl)) ?_
          try go_wp2
          go_ret
          exact ⟨_, q10_, by (with_reducible repeat (first | apply rA_ | apply rN_ | apply rD_)); exact Kd.R_mono HO311.1 (fun _ hk => trivial), q8_, q7_, q5_⟩
         ·rw [if_neg c41] at H
          exact absurd H (by simp)
        ·rw [if_neg c38] at H
         exact absurd H (by simp)
       ·rw [if_neg c36] at H
        exact absurd H (by simp)
      ·rw [if_neg c35] at H
       exact absurd H (by simp)
     ·rw [if_neg c34] at H
      exact absurd H (by simp)
    ·rw [if_neg c32] at H
     have c32b0 : (t271 == 1) = false := beq_eq_false_iff_ne.mpr c32
     have c32b1 : (t271 != 1) = true := bne_iff_ne.mpr c32
     by_cases c58 : t271 = 2
     ·rw [if_pos c58] at H
      have c58b0 : (t271 == 2) = true := beq_iff_eq.mpr c58
      have c58b1 : (t271 != 2) = false := bne_eq_false_iff_eq.mpr c58
      clear c58
      replace H := Option.bind_eq_some_iff.mp H
      obtain ⟨⟨t312, t313, t314⟩, A590, H⟩ := H
      replace H : (if 0 ≤ t312 then (if t312 ≤ (x4_4.length : Int) then (some ((x4_4.take (t312 : Int).toNat), t313, t314)) else (none)) else (none)) = some (r1, r2, r3) := H
      have A59 := Aside0.mk A590
      clear A590
      by_cases c60 : 0 ≤ t312
      ·rw [if_pos c60] at H
       have c60b0 := eq_true c60
       have c60b1 : decide (0 ≤ t312) = true := decide_eq_true c60
       clear c60
       by_cases c61 : t312 ≤ (x4_4.length : Int)
       ·rw [if_pos c61] at H
        have c61b0 := eq_true c61
        have c61b1 : decide (t312 ≤ (x4_4.length : Int)) = true := decide_eq_true c61
        clear c61
        obtain ⟨y315, hy315⟩ : ∃ y_ : List Int, y_ = (x4_4.take (t312 : Int).toNat) := ⟨_, rfl⟩
        replace H : (some (y315, t313, t314)) = some (r1, r2, r3) := by first | (rw [hy315]; with_reducible exact H) | (have H2_ := (Option.bind_some _ _).symm.trans H; rw [hy315]; with_reducible exact H2_) | (have H2_ := (Option.bind_some _ _).symm.trans H; with_reducible exact H2_) | with_reducible exact H | (rw [hy315]; exact H) | exact H
        have Ny315 := Aside0.mk hy315
        clear hy315
        simp only [Option.some.injEq, Prod.mk.injEq] at H
        obtain ⟨rfl, rfl, rfl⟩ := H
        go_wp2_with (first | ((with_reducible refine gate_callee (f := 90) rfl ?_); refine goesL_ (some 18) rfl rfl Tryz.func90 (by kernel_rfl) rfl #[.pointer (some ⟨g, 0, none⟩), .int .i64 8] rfl q2_ ?_; (with_reducible refine (spec_l1Below.calls g s0_0 x1001_4 x1002_4 8 t271 t272 t273 w0 _ ?side1 ?side2 A22.1).mono ?_); (case side1 => exact q8_); (case side2 => exact q7_); rintro e w62 ⟨rfl, hi, hb, hk⟩; refine ⟨_, rfl, ?_⟩; have n0_ := Aside0.mk (Kd.R_mono (Kd.R_keep (IsS143.apart (show IsS143 w0 _ g s0_0 x1001_4 x1002_4 from by repeat (first | (with_reducible first | exact HI0.1 | apply IsS143.alloc | apply IsS143.drewN | apply IsS143.drew | apply IsS143.set_1 | apply IsS143.set_2 | refine IsS143.far ?_ NB0_255.1 _) | exact HI0.1)) q12_ (by decide)) hk (fun _ h => h.2)) (fun _ h => h.1)); have n1_ := Aside0.mk (Kd.R_mono (Kd.R_keep (IsS143.apart (show IsS143 w0 _ g s0_0 x1001_4 x1002_4 from by repeat (first | (with_reducible first | exact HI0.1 | apply IsS143.alloc | apply IsS143.drewN | apply IsS143.drew | apply IsS143.set_1 | apply IsS143.set_2 | refine IsS143.far ?_ NB0_255.1 _) | exact HI0.1)) q24_ (by decide)) hk (fun _ h => h.2)) (fun _ h => h.1)); have n2_ := Aside0.mk (KeepBut.blk hk (g' := gb255) (o := .cells #[.string t247, .string t248, .slice Ao10 t249.length co10, .string t252] 64 (0, 0)) q18_ NB255_0.1 (by simp)); have n3_ := Aside0.mk (KeepBut.trans q5_ hk (.inl rfl)); have n4_ := Aside0.mk (hb); have n5_ := Aside0.mk (hi); clear HO_4 HO_256002; clear BK255 HK; clear HB HI0; have HO_4 := n0_; have HO_256002 := n1_; have BK255 := n2_; have HK := n3_; have HB := n4_; have HI0 := n5_; clear n0_ n1_ n2_ n3_ n4_ n5_; (try clear hb); (try clear hb2); (try clear hk); (try clear hi); obtain ⟨Ao63, co63, eo63⟩ := Kd.R_slice HO_4.1; subst eo63) | ((with_reducible refine gate_callee (f := 90) rfl ?_); refine goesL_ (some 54) rfl rfl Tryz.func90 (by kernel_rfl) rfl #[.pointer (some ⟨g, 0, none⟩), .int .i64 (wrap64 ((x4_4.length : Int) + 1))] rfl q2_ ?_; (with_reducible refine (spec_l1Below.calls g s0_0 t272 t273 (wrap64 ((x4_4.length : Int) + 1)) t312 t313 t314 w0 _ ?side1 ?side2 A59.1).mono ?_); (case side1 => exact q8_); (case side2 => exact q7_); rintro e w64 ⟨rfl, hi, hb, hk⟩; refine ⟨_, rfl, ?_⟩; have n0_ := Aside0.mk (Kd.R_mono (Kd.R_keep (IsS143.apart (show IsS143 w0 _ g s0_0 t272 t273 from by repeat (first | (with_reducible first | exact HI0.1 | apply IsS143.alloc | apply IsS143.drewN | apply IsS143.drew | apply IsS143.set_1 | apply IsS143.set_2 | refine IsS143.far ?_ NB0_255.1 _) | exact HI0.1)) q12_ (by decide)) hk (fun _ h => h.2)) (fun _ h => h.1)); have n1_ := Aside0.mk (Kd.R_mono (Kd.R_keep (IsS143.apart (show IsS143 w0 _ g s0_0 t272 t273 from by repeat (first | (with_reducible first | exact HI0.1 | apply IsS143.alloc | apply IsS143.drewN | apply IsS143.drew | apply IsS143.set_1 | apply IsS143.set_2 | refine IsS143.far ?_ NB0_255.1 _) | exact HI0.1)) q24_ (by decide)) hk (fun _ h => h.2)) (fun _ h => h.1)); have n2_ := Aside0.mk (KeepBut.blk hk (g' := gb255) (o := .cells #[.string t247, .string t248, .slice Ao10 t249.length co10, .string t252] 64 (0, 0)) q18_ NB255_0.1 (by simp)); have n3_ := Aside0.mk (KeepBut.trans q5_ hk (.inl rfl)); have n4_ := Aside0.mk (hb); have n5_ := Aside0.mk (hi); clear HO_4 HO_256002; clear BK255 HK; clear HB HI0; have HO_4 := n0_; have HO_256002 := n1_; have BK255 := n2_; have HK := n3_; have HB := n4_; have HI0 := n5_; clear n0_ n1_ n2_ n3_ n4_ n5_; (try clear hb); (try clear hb2); (try clear hk); (try clear hi); have q65 : (t312 : Int) ≤ ((x4_4.length : Int) : Int) := of_decide_eq_true q4_; obtain ⟨i065, hi065, _, hsz65, _⟩ := info_parts info5; have hcut65 := cut_to (P := Tryz.prog) 22 5 .i64 Tryz.underlying22 hi065 Ao63 x4_4.length co63 t312 (of_decide_eq_true q4_) q65 (Kd.R_reads' HO_4.1).2.1; have hr65 := Kd.R_take (m := (t312 : Int).toNat) HO_4.1 (by omega); have hy65 : y315.length = (t312 : Int).toNat := (by rw [Ny315.1, List.length_take]; omega); rw [← Ny315.1] at hr65; rw [← hy65] at hr65 hcut65; clear hy65 hi065 hsz65 HO_4; have HO317 := Aside0.mk hr65; clear hr65; replace q65 := eq_true q65))
        go_ret
        exact ⟨_, q10_, by (with_reducible repeat (first | apply rA_ | apply rN_ | apply rD_)); exact HO317.1, q8_, q7_, q5_⟩
       ·rw [if_neg c61] at H
        exact absurd H (by simp)
      ·rw [if_neg c60] at H
       exact absurd H (by simp)
     ·rw [if_neg c58] at H
      have c58b0 : (t271 == 2) = false := beq_eq_false_iff_ne.mpr c58
      have c58b1 : (t271 != 2) = true := bne_iff_ne.mpr c58
      by_cases c66 : t271 = 3
      ·rw [if_pos c66] at H
       have c66b0 : (t271 == 3) = true := beq_iff_eq.mpr c66
       have c66b1 : (t271 != 3) = false := bne_eq_false_iff_eq.mpr c66
       clear c66
       replace H := Option.bind_eq_some_iff.mp H
       obtain ⟨⟨t318, t319, t320⟩, A670, H⟩ := H
       replace H : (if t318 = true then ((spec_l1Below.f s0_0 t319 t320 4).bind fun bt321 => (if 0 ≤ (wrap64 (399 + bt321.1)) then (if (wrap64 (399 + bt321.1) : Int).toNat ≤ 281474976710656 then (some ((List.replicate (wrap64 (399 + bt321.1) : Int).toNat 0), bt321.2.1, bt321.2.2)) else (none)) else (none))) else (some (x4_4, t319, t320))) = some (r1, r2, r3) := H
       have A67 := Aside0.mk A670
       clear A670
       by_cases c68 : t318 = true
       ·subst c68
        rw [if_pos rfl] at H
        replace H := Option.bind_eq_some_iff.mp H
        obtain ⟨⟨t321, t322, t323⟩, A690, H⟩ := H
        replace H : (if 0 ≤ (wrap64 (399 + t321)) then (if (wrap64 (399 + t321) : Int).toNat ≤ 281474976710656 then (some ((List.replicate (wrap64 (399 + t321) : Int).toNat 0), t322, t323)) else (none)) else (none)) = some (r1, r2, r3) := H
        have A69 := Aside0.mk A690
        clear A690
        obtain ⟨ji70, hji70⟩ : ∃ j_ : Int, (wrap64 (399 + t321)) = j_ := ⟨_, rfl⟩
        replace H : (if 0 ≤ (ji70) then (if (ji70 : Int).toNat ≤ 281474976710656 then (some ((List.replicate (ji70 : Int).toNat 0), t322, t323)) else (none)) else (none)) = some (r1, r2, r3) := by first | (rw [hji70] at H; exact H) | (simp only [hji70] at H ⊢; exact H)
        (try rw [hji70] at A22)
        (try rw [hji70] at A67)
        (try rw [hji70] at A69)
        have hji70w : (IntKind.i64.wrap (399 + t321)) = ji70 := (i64_w _).trans hji70
        by_cases c71 : 0 ≤ (ji70)
        ·rw [if_pos c71] at H
         have c71b0 := eq_true c71
         have c71b1 : decide (0 ≤ (ji70)) = true := decide_eq_true c71
         clear c71
         by_cases c72 : (ji70 : Int).toNat ≤ 281474976710656
         ·rw [if_pos c72] at H
          have c72b0 := eq_true c72
          have c72b1 : decide ((ji70 : Int).toNat ≤ 281474976710656) = true := decide_eq_true c72
          clear c72
          obtain ⟨y324, hy324⟩ : ∃ y_ : List Int, y_ = (List.replicate (ji70 : Int).toNat 0) := ⟨_, rfl⟩
          replace H : (some (y324, t322, t323)) = some (r1, r2, r3) := by first | (rw [hy324]; with_reducible exact H) | (have H2_ := (Option.bind_some _ _).symm.trans H; rw [hy324]; with_reducible exact H2_) | (have H2_ := (Option.bind_some _ _).symm.trans H; with_reducible exact H2_) | with_reducible exact H | (rw [hy324]; exact H) | exact H
          have Ny324 := Aside0.mk hy324
          clear hy324
          simp only [Option.some.injEq, Prod.mk.injEq] at H
          obtain ⟨rfl, rfl, rfl⟩ := H
          go_wp2_with (first | ((with_reducible refine gate_callee (f := 90) rfl ?_); refine goesL_ (some 18) rfl rfl Tryz.func90 (by kernel_rfl) rfl #[.pointer (some ⟨g, 0, none⟩), .int .i64 8] rfl q2_ ?_; (with_reducible refine (spec_l1Below.calls g s0_0 x1001_4 x1002_4 8 t271 t272 t273 w0 _ ?side1 ?side2 A22.1).mono ?_); (case side1 => exact q8_); (case side2 => exact q7_); rintro e w73 ⟨rfl, hi, hb, hk⟩; refine ⟨_, rfl, ?_⟩; have n0_ := Aside0.mk (Kd.R_mono (Kd.R_keep (IsS143.apart (show IsS143 w0 _ g s0_0 x1001_4 x1002_4 from by repeat (first | (with_reducible first | exact HI0.1 | apply IsS143.alloc | apply IsS143.drewN | apply IsS143.drew | apply IsS143.set_1 | apply IsS143.set_2 | refine IsS143.far ?_ NB0_255.1 _) | exact HI0.1)) q12_ (by decide)) hk (fun _ h => h.2)) (fun _ h => h.1)); have n1_ := Aside0.mk (Kd.R_mono (Kd.R_keep (IsS143.apart (show IsS143 w0 _ g s0_0 x1001_4 x1002_4 from by repeat (first | (with_reducible first | exact HI0.1 | apply IsS143.alloc | apply IsS143.drewN | apply IsS143.drew | apply IsS143.set_1 | apply IsS143.set_2 | refine IsS143.far ?_ NB0_255.1 _) | exact HI0.1)) q24_ (by decide)) hk (fun _ h => h.2)) (fun _ h => h.1)); have n2_ := Aside0.mk (KeepBut.blk hk (g' := gb255) (o := .cells #[.string t247, .string t248, .slice Ao10 t249.length co10, .string t252] 64 (0, 0)) q18_ NB255_0.1 (by simp)); have n3_ := Aside0.mk (KeepBut.trans q5_ hk (.inl rfl)); have n4_ := Aside0.mk (hb); have n5_ := Aside0.mk (hi); clear HO_4 HO_256002; clear BK255 HK; clear HB HI0; have HO_4 := n0_; have HO_256002 := n1_; have BK255 := n2_; have HK := n3_; have HB := n4_; have HI0 := n5_; clear n0_ n1_ n2_ n3_ n4_ n5_; (try clear hb); (try clear hb2); (try clear hk); (try clear hi)) | ((with_reducible refine gate_callee (f := 92) rfl ?_); refine goesL_ (some 59) rfl rfl Tryz.func92 (by kernel_rfl) rfl #[.pointer (some ⟨g, 0, none⟩), .int .i64 4] rfl q2_ ?_; (with_reducible refine (spec_l1Once.calls g s0_0 t272 t273 4 true t319 t320 w0 _ ?side1 ?side2 A67.1).mono ?_); (case side1 => exact q8_); (case side2 => exact q7_); rintro e w74 ⟨rfl, hi, hb, hk⟩; refine ⟨_, rfl, ?_⟩; have n0_ := Aside0.mk (Kd.R_mono (Kd.R_keep (IsS143.apart (show IsS143 w0 _ g s0_0 t272 t273 from by repeat (first | (with_reducible first | exact HI0.1 | apply IsS143.alloc | apply IsS143.drewN | apply IsS143.drew | apply IsS143.set_1 | apply IsS143.set_2 | refine IsS143.far ?_ NB0_255.1 _) | exact HI0.1)) q12_ (by decide)) hk (fun _ h => h.2)) (fun _ h => h.1)); have n1_ := Aside0.mk (Kd.R_mono (Kd.R_keep (IsS143.apart (show IsS143 w0 _ g s0_0 t272 t273 from by repeat (first | (with_reducible first | exact HI0.1 | apply IsS143.alloc | apply IsS143.drewN | apply IsS143.drew | apply IsS143.set_1 | apply IsS143.set_2 | refine IsS143.far ?_ NB0_255.1 _) | exact HI0.1)) q24_ (by decide)) hk (fun _ h => h.2)) (fun _ h => h.1)); have n2_ := Aside0.mk (KeepBut.blk hk (g' := gb255) (o := .cells #[.string t247, .string t248, .slice Ao10 t249.length co10, .string t252] 64 (0, 0)) q18_ NB255_0.1 (by simp)); have n3_ := Aside0.mk (KeepBut.trans q5_ hk (.inl rfl)); have n4_ := Aside0.mk (hb); have n5_ := Aside0.mk (hi); clear HO_4 HO_256002; clear BK255 HK; clear HB HI0; have HO_4 := n0_; have HO_256002 := n1_; have BK255 := n2_; have HK := n3_; have HB := n4_; have HI0 := n5_; clear n0_ n1_ n2_ n3_ n4_ n5_; (try clear hb); (try clear hb2); (try clear hk); (try clear hi)) | ((with_reducible refine gate_callee (f := 90) rfl ?_); refine goesL_ (some 61) rfl rfl Tryz.func90 (by kernel_rfl) rfl #[.pointer (some ⟨g, 0, none⟩), .int .i64 4] rfl q2_ ?_; (with_reducible refine (spec_l1Below.calls g s0_0 t319 t320 4 t321 t322 t323 w0 _ ?side1 ?side2 A69.1).mono ?_); (case side1 => exact q8_); (case side2 => exact q7_); rintro e w75 ⟨rfl, hi, hb, hk⟩; refine ⟨_, rfl, ?_⟩; have n0_ := Aside0.mk (Kd.R_mono (Kd.R_keep (IsS143.apart (show IsS143 w0 _ g s0_0 t319 t320 from by repeat (first | (with_reducible first | exact HI0.1 | apply IsS143.alloc | apply IsS143.drewN | apply IsS143.drew | apply IsS143.set_1 | apply IsS143.set_2 | refine IsS143.far ?_ NB0_255.1 _) | exact HI0.1)) q12_ (by decide)) hk (fun _ h => h.2)) (fun _ h => h.1)); have n1_ := Aside0.mk (Kd.R_mono (Kd.R_keep (IsS143.apart (show IsS143 w0 _ g s0_0 t319 t320 from by repeat (first | (with_reducible first | exact HI0.1 | apply IsS143.alloc | apply IsS143.drewN | apply IsS143.drew | apply IsS143.set_1 | apply IsS143.set_2 | refine IsS143.far ?_ NB0_255.1 _) | exact HI0.1)) q24_ (by decide)) hk (fun _ h => h.2)) (fun _ h => h.1)); have n2_ := Aside0.mk (KeepBut.blk hk (g' := gb255) (o := .cells #[.string t247, .string t248, .slice Ao10 t249.length co10, .string t252] 64 (0, 0)) q18_ NB255_0.1 (by simp)); have n3_ := Aside0.mk (KeepBut.trans q5_ hk (.inl rfl)); have n4_ := Aside0.mk (hb); have n5_ := Aside0.mk (hi); clear HO_4 HO_256002; clear BK255 HK; clear HB HI0; have HO_4 := n0_; have HO_256002 := n1_; have BK255 := n2_; have HK := n3_; have HB := n4_; have HI0 := n5_; clear n0_ n1_ n2_ n3_ n4_ n5_; (try clear hb); (try clear hb2); (try clear hk); (try clear hi)) | ((with_reducible refine gate_dst (N := 63) rfl ?_); refine Kd.R_make (Kd.int .u8) _ 5 rfl (N := 63) rfl 22 _ _ rfl ji70 rfl rfl Tryz.underlying22 (.int .u8 0) 1 info5 rfl (by decide) (by omega) 0 (ok := fun _ => True) (okp := fun _ => True) rfl (fun _ hk => hk) trivial (of_decide_eq_true q4_) (Nat.le_trans (Nat.mul_le_mul_right _ (of_decide_eq_true q4_ : ji70.toNat ≤ 281474976710656)) (by omega)) (Below.refl _ _) (Nat.le_refl _) ?_; intro v325 w76 ho77 hb hg_ hnew_; clear hg_ hnew_; (first | rw [← Ny324.1] at ho77 | (simp only [Int.reduceToNat] at ho77; rw [← Ny324.1] at ho77)); have n0_ := Aside0.mk (Kd.R_elder' q12_ (Kd.R_base ho77) hb); have n1_ := Aside0.mk (Kd.R_below q24_ hb); have n2_ := Aside0.mk (Kd.R_lower (Kd.R_new' ho77 (Kd.R_lt q12_)) (keep_size (w := w) (g := g) (row := none) q5_)); have n3_ := Aside0.mk (bB_ (g := gb255) (o := .cells #[.string t247, .string t248, .slice Ao10 t249.length co10, .string t252] 64 (0, 0)) q18_ hb); have n4_ := Aside0.mk (IsS143.below q8_ hb); have n5_ := Aside0.mk (KeepBut.trans q5_ (KeepBut.of_below hb g none) (.inl rfl)); have n6_ := Aside0.mk (below_step q7_ hb); clear HO_4 HO_256002; clear BK255 HI0; clear HK HB; have HO_4 := n0_; have HO_256002 := n1_; have HO326 := n2_; have BK255 := n3_; have HI0 := n4_; have HK := n5_; have HB := n6_; clear n0_ n1_ n2_ n3_ n4_ n5_ n6_; clear hb ho77))
          go_ret
          exact ⟨_, by first | rfl | (simp [errW_none, errW_some] <;> rfl) | (simp only [← hji70]; first | rfl | (simp [errW_none, errW_some] <;> rfl)) | (simp [*, errW_none, errW_some] <;> rfl), by (with_reducible repeat (first | apply rA_ | apply rN_ | apply rD_)); exact Kd.R_mono HO326.1 (fun _ hk => trivial), q8_, q7_, q5_⟩
         ·rw [if_neg c72] at H
          exact absurd H (by simp)
        ·rw [if_neg c71] at H
         exact absurd H (by simp)
       ·replace c68 := Bool.eq_false_iff.mpr c68
        subst c68
        rw [if_neg (show ¬ (false = true) by decide)] at H
        simp only [Option.some.injEq, Prod.mk.injEq] at H
        obtain ⟨rfl, rfl, rfl⟩ := H
        go_wp2_with (first | ((with_reducible refine gate_callee (f := 90) rfl ?_); refine goesL_ (some 18) rfl rfl Tryz.func90 (by kernel_rfl) rfl #[.pointer (some ⟨g, 0, none⟩), .int .i64 8] rfl q2_ ?_; (with_reducible refine (spec_l1Below.calls g s0_0 x1001_4 x1002_4 8 t271 t272 t273 w0 _ ?side1 ?side2 A22.1).mono ?_); (case side1 => exact q8_); (case side2 => exact q7_); rintro e w78 ⟨rfl, hi, hb, hk⟩; refine ⟨_, rfl, ?_⟩; have n0_ := Aside0.mk (Kd.R_mono (Kd.R_keep (IsS143.apart (show IsS143 w0 _ g s0_0 x1001_4 x1002_4 from by repeat (first | (with_reducible first | exact HI0.1 | apply IsS143.alloc | apply IsS143.drewN | apply IsS143.drew | apply IsS143.set_1 | apply IsS143.set_2 | refine IsS143.far ?_ NB0_255.1 _) | exact HI0.1)) q12_ (by decide)) hk (fun _ h => h.2)) (fun _ h => h.1)); have n1_ := Aside0.mk (Kd.R_mono (Kd.R_keep (IsS143.apart (show IsS143 w0 _ g s0_0 x1001_4 x1002_4 from by repeat (first | (with_reducible first | exact HI0.1 | apply IsS143.alloc | apply IsS143.drewN | apply IsS143.drew | apply IsS143.set_1 | apply IsS143.set_2 | refine IsS143.far ?_ NB0_255.1 _) | exact HI0.1)) q24_ (by decide)) hk (fun _ h => h.2)) (fun _ h => h.1)); have n2_ := Aside0.mk (KeepBut.blk hk (g' := gb255) (o := .cells #[.string t247, .string t248, .slice Ao10 t249.length co10, .string t252] 64 (0, 0)) q18_ NB255_0.1 (by simp)); have n3_ := Aside0.mk (KeepBut.trans q5_ hk (.inl rfl)); have n4_ := Aside0.mk (hb); have n5_ := Aside0.mk (hi); clear HO_4 HO_256002; clear BK255 HK; clear HB HI0; have HO_4 := n0_; have HO_256002 := n1_; have BK255 := n2_; have HK := n3_; have HB := n4_; have HI0 := n5_; clear n0_ n1_ n2_ n3_ n4_ n5_; (try clear hb); (try clear hb2); (try clear hk); (try clear hi)) | ((with_reducible refine gate_callee (f := 92) rfl ?_); refine goesL_ (some 59) rfl rfl Tryz.func92 (by kernel_rfl) rfl #[.pointer (some ⟨g, 0, none⟩), .int .i64 4] rfl q2_ ?_; (with_reducible refine (spec_l1Once.calls g s0_0 t272 t273 4 false t319 t320 w0 _ ?side1 ?side2 A67.1).mono ?_); (case side1 => exact q8_); (case side2 => exact q7_); rintro e w79 ⟨rfl, hi, hb, hk⟩; refine ⟨_, rfl, ?_⟩; have n0_ := Aside0.mk (Kd.R_mono (Kd.R_keep (IsS143.apart (show IsS143 w0 _ g s0_0 t272 t273 from by repeat (first | (with_reducible first | exact HI0.1 | apply IsS143.alloc | apply IsS143.drewN | apply IsS143.drew | apply IsS143.set_1 | apply IsS143.set_2 | refine IsS143.far ?_ NB0_255.1 _) | exact HI0.1)) q12_ (by decide)) hk (fun _ h => h.2)) (fun _ h => h.1)); have n1_ := Aside0.mk (Kd.R_mono (Kd.R_keep (IsS143.apart (show IsS143 w0 _ g s0_0 t272 t273 from by repeat (first | (with_reducible first | exact HI0.1 | apply IsS143.alloc | apply IsS143.drewN | apply IsS143.drew | apply IsS143.set_1 | apply IsS143.set_2 | refine IsS143.far ?_ NB0_255.1 _) | exact HI0.1)) q24_ (by decide)) hk (fun _ h => h.2)) (fun _ h => h.1)); have n2_ := Aside0.mk (KeepBut.blk hk (g' := gb255) (o := .cells #[.string t247, .string t248, .slice Ao10 t249.length co10, .string t252] 64 (0, 0)) q18_ NB255_0.1 (by simp)); have n3_ := Aside0.mk (KeepBut.trans q5_ hk (.inl rfl)); have n4_ := Aside0.mk (hb); have n5_ := Aside0.mk (hi); clear HO_4 HO_256002; clear BK255 HK; clear HB HI0; have HO_4 := n0_; have HO_256002 := n1_; have BK255 := n2_; have HK := n3_; have HB := n4_; have HI0 := n5_; clear n0_ n1_ n2_ n3_ n4_ n5_; (try clear hb); (try clear hb2); (try clear hk); (try clear hi)))
        go_ret
        exact ⟨_, q10_, q12_, q8_, q7_, q5_⟩
      ·rw [if_neg c66] at H
       have c66b0 : (t271 == 3) = false := beq_eq_false_iff_ne.mpr c66
       have c66b1 : (t271 != 3) = true := bne_iff_ne.mpr c66
       simp only [Option.some.injEq, Prod.mk.injEq] at H
       obtain ⟨rfl, rfl, rfl⟩ := H
       go_wp2_with (first | ((with_reducible refine gate_callee (f := 90) rfl ?_); refine goesL_ (some 18) rfl rfl Tryz.func90 (by kernel_rfl) rfl #[.pointer (some ⟨g, 0, none⟩), .int .i64 8] rfl q2_ ?_; (with_reducible refine (spec_l1Below.calls g s0_0 x1001_4 x1002_4 8 t271 t272 t273 w0 _ ?side1 ?side2 A22.1).mono ?_); (case side1 => exact q8_); (case side2 => exact q7_); rintro e w80 ⟨rfl, hi, hb, hk⟩; refine ⟨_, rfl, ?_⟩; have n0_ := Aside0.mk (Kd.R_mono (Kd.R_keep (IsS143.apart (show IsS143 w0 _ g s0_0 x1001_4 x1002_4 from by repeat (first | (with_reducible first | exact HI0.1 | apply IsS143.alloc | apply IsS143.drewN | apply IsS143.drew | apply IsS143.set_1 | apply IsS143.set_2 | refine IsS143.far ?_ NB0_255.1 _) | exact HI0.1)) q12_ (by decide)) hk (fun _ h => h.2)) (fun _ h => h.1)); have n1_ := Aside0.mk (Kd.R_mono (Kd.R_keep (IsS143.apart (show IsS143 w0 _ g s0_0 x1001_4 x1002_4 from by repeat (first | (with_reducible first | exact HI0.1 | apply IsS143.alloc | apply IsS143.drewN | apply IsS143.drew | apply IsS143.set_1 | apply IsS143.set_2 | refine IsS143.far ?_ NB0_255.1 _) | exact HI0.1)) q24_ (by decide)) hk (fun _ h => h.2)) (fun _ h => h.1)); have n2_ := Aside0.mk (KeepBut.blk hk (g' := gb255) (o := .cells #[.string t247, .string t248, .slice Ao10 t249.length co10, .string t252] 64 (0, 0)) q18_ NB255_0.1 (by simp)); have n3_ := Aside0.mk (KeepBut.trans q5_ hk (.inl rfl)); have n4_ := Aside0.mk (hb); have n5_ := Aside0.mk (hi); clear HO_4 HO_256002; clear BK255 HK; clear HB HI0; have HO_4 := n0_; have HO_256002 := n1_; have BK255 := n2_; have HK := n3_; have HB := n4_; have HI0 := n5_; clear n0_ n1_ n2_ n3_ n4_ n5_; (try clear hb); (try clear hb2); (try clear hk); (try clear hi)))
       go_ret
       exact ⟨_, q10_, q12_, q8_, q7_, q5_⟩

end Go.Proofs.YtfncjddolbghlaaGreatDoor.GFnMore
