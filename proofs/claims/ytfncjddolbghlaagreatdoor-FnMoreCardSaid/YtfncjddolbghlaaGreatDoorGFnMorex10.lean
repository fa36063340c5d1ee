-- by gprint.py (this session's program over the kit's print.py) (a twelfth state) out of the translation. Not trusted: Lean checks it.
import Derived.Test.YtfncjddolbghlaaGreatDoorGFnMorex0
import Derived.Test.YtfncjddolbghlaaGreatDoorGFnMorex8
import Derived.Test.YtfncjddolbghlaaGreatDoorGFnMorex9
namespace Go.Proofs.YtfncjddolbghlaaGreatDoor.GFnMore
open Go.RowKit Go.Proofs.YtfncjddolbghlaaGreatDoorW.PrintWords Go.Proofs.YtfncjddolbghlaaGreatDoorW.PrintLast Go.Proofs.YtfncjddolbghlaaGreatDoorW.PrintMore
attribute [local go_sem] max2_int min2_int max_two min_two max_three min_three max_four min_four   -- for this text's walks alone
set_option linter.unusedVariables false
set_option linter.unusedSimpArgs false
set_option maxRecDepth 100000
set_option maxHeartbeats 8000000

mutual
def impl_readHead.j0 : Nat → List ByteArray → List ByteArray → Bool → ByteArray → ByteArray → List (S88) → ByteArray → ByteArray → Bool → Int → Bool → Bool → Option (ByteArray × ByteArray × (List (S88)) × ByteArray × ByteArray × Bool × Int × Bool × Bool × Int)
 | 0, _, _, _, _, _, _, _, _, _, _, _, _ => none
 | k + 1, x4, x5, x33, x424000, x424001, x424002, x424003, x424004, x424005, x424006, x424007, x424008 => if x33 = true then (some (x424000, x424001, x424002, x424003, x424004, x424005, x424006, x424007, x424008, 400)) else (if 0 < (x5.length : Int) then (if 1 < (x5.length : Int) then (if 1 ≤ (x4.length : Int) then ((some (x4.drop 1 : List ByteArray)).bind fun y432 => (impl_readHead.l0 k x4 y432 (y432.length : Int) 0 (rdOf ByteArray.empty x5 0) (rdOf ByteArray.empty x5 1) x424002 x424003 x424004 x424005 x424006 x424007 x424008)) else (none)) else (none)) else (none))
def impl_readHead.l0 : Nat → List ByteArray → List ByteArray → Int → Int → ByteArray → ByteArray → List (S88) → ByteArray → ByteArray → Bool → Int → Bool → Bool → Option (ByteArray × ByteArray × (List (S88)) × ByteArray × ByteArray × Bool × Int × Bool × Bool × Int)
 | 0, _, _, _, _, _, _, _, _, _, _, _, _, _ => none
 | k + 1, x4, x46, x47, x48, x424000, x424001, x424002, x424003, x424004, x424005, x424006, x424007, x424008 => if x48 < x47 then (if 0 ≤ x48 then (if x48 < (x46.length : Int) then ((impl_reqHead_line.f k x424000 x424001 x424002 x424003 x424004 x424005 x424006 x424007 x424008 (rdOf ByteArray.empty x46 x48)).bind fun bt437 => (impl_readHead.l0 k x4 x46 x47 (wrap64 (x48 + 1)) bt437.1 bt437.2.1 bt437.2.2.1 bt437.2.2.2.1 bt437.2.2.2.2.1 bt437.2.2.2.2.2.1 bt437.2.2.2.2.2.2.1 bt437.2.2.2.2.2.2.2.1 bt437.2.2.2.2.2.2.2.2)) else (none)) else (none)) else (if x424008 = true then (some (x424000, x424001, x424002, x424003, x424004, x424005, x424006, x424007, x424008, 400)) else (if (x424002.length : Int) > 8 then (some (x424000, x424001, x424002, x424003, x424004, x424005, x424006, x424007, x424008, 431)) else (if x424005 = true then ((impl_Lower.f k x424004).bind fun t450 => (impl_readHead.j2 k (t450.toList != ([99, 104, 117, 110, 107, 101, 100] : List UInt8)) x424000 x424001 x424002 x424003 x424004 x424005 x424006 x424007 x424008)) else (impl_readHead.j2 k false x424000 x424001 x424002 x424003 x424004 x424005 x424006 x424007 x424008))))
def impl_readHead.j2 : Nat → Bool → ByteArray → ByteArray → List (S88) → ByteArray → ByteArray → Bool → Int → Bool → Bool → Option (ByteArray × ByteArray × (List (S88)) × ByteArray × ByteArray × Bool × Int × Bool × Bool × Int)
 | 0, _, _, _, _, _, _, _, _, _, _ => none
 | k + 1, x66, x424000, x424001, x424002, x424003, x424004, x424005, x424006, x424007, x424008 => if x66 = true then (some (x424000, x424001, x424002, x424003, x424004, x424005, x424006, x424007, x424008, 501)) else (if x424006 > 200 then (some (x424000, x424001, x424002, x424003, x424004, x424005, x424006, x424007, x424008, 413)) else (some (x424000, x424001, x424002, x424003, x424004, x424005, x424006, x424007, x424008, 0)))
end
def impl_readHead.f (k : Nat) (a0 : ByteArray) : Option (ByteArray × ByteArray × (List (S88)) × ByteArray × ByteArray × Bool × Int × Bool × Bool × Int) := (strings_Split.f a0 (⟨#[13, 10]⟩ : ByteArray)).bind fun t416 => (if 0 < (t416.length : Int) then ((strings_Split.f (rdOf ByteArray.empty t416 0) (⟨#[32]⟩ : ByteArray)).bind fun t420 => (if (t420.length : Int) = 3 then (if 2 < (t420.length : Int) then (if (rdOf ByteArray.empty t420 2).toList = ([72, 84, 84, 80, 47, 49, 46, 49] : List UInt8) then (if 0 < (t420.length : Int) then (if 1 < (t420.length : Int) then ((impl_lineOk.f k (rdOf ByteArray.empty t420 0) (rdOf ByteArray.empty t420 1)).bind fun t427 => (impl_readHead.j0 k t416 t420 (!t427) (⟨#[]⟩ : ByteArray) (⟨#[]⟩ : ByteArray) ([] : List (S88)) (⟨#[]⟩ : ByteArray) (⟨#[]⟩ : ByteArray) false 0 false false)) else (none)) else (none)) else (impl_readHead.j0 k t416 t420 true (⟨#[]⟩ : ByteArray) (⟨#[]⟩ : ByteArray) ([] : List (S88)) (⟨#[]⟩ : ByteArray) (⟨#[]⟩ : ByteArray) false 0 false false)) else (none)) else (impl_readHead.j0 k t416 t420 true (⟨#[]⟩ : ByteArray) (⟨#[]⟩ : ByteArray) ([] : List (S88)) (⟨#[]⟩ : ByteArray) (⟨#[]⟩ : ByteArray) false 0 false false))) else (none))

def impl_readHead.T4 : Bool × List (List Nat × List Nat) := (true, [([], []), ([0], [0]), ([1], [1]), ([2], [2]), ([3], [3]), ([4, 3], [3, 4]), ([5, 3], [3, 5]), ([6, 3], [3, 6]), ([3, 7], [3, 7]), ([8, 3], [8]), ([9], [9]), ([10, 9], [9, 10]), ([11, 9], [9, 11]), ([9], [9]), ([13, 9], [9, 13]), ([14, 9], [9, 14]), ([12, 15, 9, 9], [9, 12, 15]), ([16, 9], [9, 16]), ([9, 17], [9, 17])])
def impl_readHead.B4 : List Nat := [0, 1, 3, 7, 15, 31, 63, 127, 255, 511, 1023, 2047, 4095, 1023, 9215, 25599, 65535, 131071, 262143]
theorem impl_readHead.tab4 : rtab .any (opsOf Tryz.f108 4) = impl_readHead.T4 := by kernel_rfl
theorem impl_readHead.bits4 : waitsOk impl_readHead.T4.2 impl_readHead.B4 = true := by kernel_rfl
def impl_readHead.T6 : Bool × List (List Nat × List Nat) := (true, [([], []), ([0], [0]), ([1], [1]), ([], []), ([3], [3]), ([4], [4]), ([0, 1, 2, 5], []), ([6, 0, 1, 2, 5], [6]), ([7, 2, 0, 1, 2, 5], [2, 7]), ([0, 1, 2, 3, 4, 5, 6, 7, 8], []), ([9, 0, 1, 2, 3, 4, 5, 6, 7, 8], [9]), ([10, 5, 8, 0, 1, 2, 3, 4, 5, 6, 7, 8], [5, 10])])
def impl_readHead.B6 : List Nat := [0, 1, 3, 0, 8, 24, 63, 127, 255, 511, 1023, 2047]
theorem impl_readHead.tab6 : rtab .any (opsOf Tryz.f108 6) = impl_readHead.T6 := by kernel_rfl
theorem impl_readHead.bits6 : waitsOk impl_readHead.T6.2 impl_readHead.B6 = true := by kernel_rfl
theorem impl_readHead.calls (k : Nat) (a0 : ByteArray) (r1 : ByteArray) (r2 : ByteArray) (r3 : List (S88)) (r4 : ByteArray) (r5 : ByteArray) (r6 : Bool) (r7 : Int) (r8 : Bool) (r9 : Bool) (r10 : Int) (w : World) (h : impl_readHead.f k a0 = some (r1, r2, r3, r4, r5, r6, r7, r8, r9, r10)) (hG : GOK w) :
  Calls Tryz.prog 108 #[.string a0] w fun e w' => ∃ v2_ : Value, e = .returned (.tuple #[.agg #[.string r1, .string r2, v2_, .string r4, .string r5, .bool r6, .int .i64 r7, .bool r8, .bool r9], .int .i64 r10]) ∧ Kd.R k88 88 w' w.heap.size (fun _ => True) v2_ r3 ∧ Below w.heap.size w w' := by
 have hu113 := Tryz.underlying113
 have HB := Aside0.mk (Below.refl w.heap.size w)
 have H : ((strings_Split.f a0 (⟨#[13, 10]⟩ : ByteArray)).bind fun t416 => (if 0 < (t416.length : Int) then ((strings_Split.f (rdOf ByteArray.empty t416 0) (⟨#[32]⟩ : ByteArray)).bind fun t420 => (if (t420.length : Int) = 3 then (if 2 < (t420.length : Int) then (if (rdOf ByteArray.empty t420 2).toList = ([72, 84, 84, 80, 47, 49, 46, 49] : List UInt8) then (if 0 < (t420.length : Int) then (if 1 < (t420.length : Int) then ((impl_lineOk.f k (rdOf ByteArray.empty t420 0) (rdOf ByteArray.empty t420 1)).bind fun t427 => (impl_readHead.j0 k t416 t420 (!t427) (⟨#[]⟩ : ByteArray) (⟨#[]⟩ : ByteArray) ([] : List (S88)) (⟨#[]⟩ : ByteArray) (⟨#[]⟩ : ByteArray) false 0 false false)) else (none)) else (none)) else (impl_readHead.j0 k t416 t420 true (⟨#[]⟩ : ByteArray) (⟨#[]⟩ : ByteArray) ([] : List (S88)) (⟨#[]⟩ : ByteArray) (⟨#[]⟩ : ByteArray) false 0 false false)) else (none)) else (impl_readHead.j0 k t416 t420 true (⟨#[]⟩ : ByteArray) (⟨#[]⟩ : ByteArray) ([] : List (S88)) (⟨#[]⟩ : ByteArray) (⟨#[]⟩ : ByteArray) false 0 false false))) else (none))) = some (r1, r2, r3, r4, r5, r6, r7, r8, r9, r10) := h
 clear h
 replace H := Option.bind_eq_some_iff.mp H
 obtain ⟨t416, A20, H⟩ := H
 replace H : (if 0 < (t416.length : Int) then ((strings_Split.f (rdOf ByteArray.empty t416 0) (⟨#[32]⟩ : ByteArray)).bind fun t420 => (if (t420.length : Int) = 3 then (if 2 < (t420.length : Int) then (if (rdOf ByteArray.empty t420 2).toList = ([72, 84, 84, 80, 47, 49, 46, 49] : List UInt8) then (if 0 < (t420.length : Int) then (if 1 < (t420.length : Int) then ((impl_lineOk.f k (rdOf ByteArray.empty t420 0) (rdOf ByteArray.empty t420 1)).bind fun t427 => (impl_readHead.j0 k t416 t420 (!t427) (⟨#[]⟩ : ByteArray) (⟨#[]⟩ : ByteArray) ([] : List (S88)) (⟨#[]⟩ : ByteArray) (⟨#[]⟩ : ByteArray) false 0 false false)) else (none)) else (none)) else (impl_readHead.j0 k t416 t420 true (⟨#[]⟩ : ByteArray) (⟨#[]⟩ : ByteArray) ([] : List (S88)) (⟨#[]⟩ : ByteArray) (⟨#[]⟩ : ByteArray) false 0 false false)) else (none)) else (impl_readHead.j0 k t416 t420 true (⟨#[]⟩ : ByteArray) (⟨#[]⟩ : ByteArray) ([] : List (S88)) (⟨#[]⟩ : ByteArray) (⟨#[]⟩ : ByteArray) false 0 false false))) else (none)) = some (r1, r2, r3, r4, r5, r6, r7, r8, r9, r10) := H
 have A2 := Aside0.mk A20
 clear A20
 by_cases c3 : 0 < (t416.length : Int)
 ·rw [if_pos c3] at H
  have c3b0 : decide (0 < (t416.length : Int)) = true := decide_eq_true c3
  have c3b1 : decide (0 < t416.length) = true := decide_eq_true (by omega)
  clear c3
  replace H := Option.bind_eq_some_iff.mp H
  obtain ⟨t420, A40, H⟩ := H
  replace H : (if (t420.length : Int) = 3 then (if 2 < (t420.length : Int) then (if (rdOf ByteArray.empty t420 2).toList = ([72, 84, 84, 80, 47, 49, 46, 49] : List UInt8) then (if 0 < (t420.length : Int) then (if 1 < (t420.length : Int) then ((impl_lineOk.f k (rdOf ByteArray.empty t420 0) (rdOf ByteArray.empty t420 1)).bind fun t427 => (impl_readHead.j0 k t416 t420 (!t427) (⟨#[]⟩ : ByteArray) (⟨#[]⟩ : ByteArray) ([] : List (S88)) (⟨#[]⟩ : ByteArray) (⟨#[]⟩ : ByteArray) false 0 false false)) else (none)) else (none)) else (impl_readHead.j0 k t416 t420 true (⟨#[]⟩ : ByteArray) (⟨#[]⟩ : ByteArray) ([] : List (S88)) (⟨#[]⟩ : ByteArray) (⟨#[]⟩ : ByteArray) false 0 false false)) else (none)) else (impl_readHead.j0 k t416 t420 true (⟨#[]⟩ : ByteArray) (⟨#[]⟩ : ByteArray) ([] : List (S88)) (⟨#[]⟩ : ByteArray) (⟨#[]⟩ : ByteArray) false 0 false false)) = some (r1, r2, r3, r4, r5, r6, r7, r8, r9, r10) := H
  have A4 := Aside0.mk A40
  clear A40
  have HC5 := Aside0.mk H
  clear H
  go_enter Tryz.func108, Tryz.ntmps108
  go_upto_region 4 with (first | ((with_reducible refine gate_dst (N := 2) rfl ?_); refine box_event ?hg (N := 2) ?hd (cs := #[.string (⟨#[]⟩ : ByteArray), .string (⟨#[]⟩ : ByteArray), .slice none 0 0, .string (⟨#[]⟩ : ByteArray), .string (⟨#[]⟩ : ByteArray), .bool false, .int .i64 0, .bool false, .bool false]) (t := 113) ?hr ?_; (case hd => rfl); (case hg => rfl); (case hr => exact q26_); intro gb415 hg w6 hbox hb; have n0_ := Aside0.mk (below_step q1_ hb); have n1_ := Aside0.mk (hbox); have n2_ := Aside0.mk ((q40_ : w.heap.size ≤ gb415)); have n3_ := Aside0.mk ((q40_ : w.heap.size ≤ gb415)); clear HB; have HB := n0_; have BK415 := n1_; have GW415 := n2_; have GE415 := n3_; clear n0_ n1_ n2_ n3_; clear hb hbox hg) | ((with_reducible refine gate_callee (f := 77) rfl ?_); refine goesL_ (some 10) rfl rfl Tryz.func77 (by kernel_rfl) rfl #[.string a0, .string (⟨#[13, 10]⟩ : ByteArray)] rfl q2_ ?_; (with_reducible refine (strings_Split.calls a0 (⟨#[13, 10]⟩ : ByteArray) t416 _ A2.1 ?side99).mono ?_); (case side99 => exact q72_); rintro e w7 ⟨v417, rfl, ho0, hb⟩; refine ⟨_, rfl, ?_⟩; have n0_ := Aside0.mk (Kd.R_lower ho0 (below_size q61_)); have n1_ := Aside0.mk (bB_ (g := gb415) (o := .cells #[.string (⟨#[]⟩ : ByteArray), .string (⟨#[]⟩ : ByteArray), .slice none 0 0, .string (⟨#[]⟩ : ByteArray), .string (⟨#[]⟩ : ByteArray), .bool false, .int .i64 0, .bool false, .bool false] 113 (0, 0)) q43_ hb); have n2_ := Aside0.mk (below_step q61_ hb); clear BK415 HB; have HO418 := n0_; have BK415 := n1_; have HB := n2_; clear n0_ n1_ n2_; (try clear hb); (try clear hb2); (try clear hk); (try clear hi); (try clear ho0); obtain ⟨Ao8, co8, eo8⟩ := Kd.R_slice HO418.1; subst eo8; have p419 : 0 ≤ (0 : Int) := (by omega); have q419 : 0 < (t416.length : Int) := of_decide_eq_true q4_; obtain ⟨ad419, e419, hx419_0⟩ := Kd.at_string (Kd.R_reads' HO418.1).2.2 0 p419 q419; cases e419; have qi419 : (0 < t416.length) = True := eq_true (by omega); (try rw [show ((0 : Int)).toNat = 0 from rfl] at hx419_0); (try rw [Addr.add_zero'] at hx419_0); replace p419 := eq_true p419; replace q419 := eq_true q419) | ((with_reducible refine gate_callee (f := 77) rfl ?_); refine goesL_ (some 14) rfl rfl Tryz.func77 (by kernel_rfl) rfl #[.string (rdOf ByteArray.empty t416 0), .string (⟨#[32]⟩ : ByteArray)] rfl q2_ ?_; (with_reducible refine (strings_Split.calls (rdOf ByteArray.empty t416 0) (⟨#[32]⟩ : ByteArray) t420 _ A4.1 ?side99).mono ?_); (case side99 => exact q72_); rintro e w9 ⟨v421, rfl, ho0, hb⟩; refine ⟨_, rfl, ?_⟩; have n0_ := Aside0.mk (Kd.R_elder' q110_ (Kd.R_base ho0) hb); have n1_ := Aside0.mk (Kd.R_lower (Kd.R_new' ho0 (Kd.R_lt q110_)) (below_size q61_)); have n2_ := Aside0.mk (bB_ (g := gb415) (o := .cells #[.string (⟨#[]⟩ : ByteArray), .string (⟨#[]⟩ : ByteArray), .slice none 0 0, .string (⟨#[]⟩ : ByteArray), .string (⟨#[]⟩ : ByteArray), .bool false, .int .i64 0, .bool false, .bool false] 113 (0, 0)) q43_ hb); have n3_ := Aside0.mk (below_step q61_ hb); clear HO418 BK415 HB; have HO418 := n0_; have HO422 := n1_; have BK415 := n2_; have HB := n3_; clear n0_ n1_ n2_ n3_; (try clear hb); (try clear hb2); (try clear hk); (try clear hi); (try clear ho0)) | ((with_reducible refine gate_dst (N := 6) rfl ?_); refine box_event ?hg (N := 6) ?hd (cs := #[.string (⟨#[]⟩ : ByteArray), .string (⟨#[]⟩ : ByteArray), .slice none 0 0, .string (⟨#[]⟩ : ByteArray), .string (⟨#[]⟩ : ByteArray), .bool false, .int .i64 0, .bool false, .bool false]) (t := 113) ?hr ?_; (case hd => rfl); (case hg => rfl); (case hr => exact q26_); intro gb423 hg w10 hbox hb; have n0_ := Aside0.mk (Kd.R_below q110_ hb); have n1_ := Aside0.mk (Kd.R_below (by (with_reducible repeat (first | apply rA_ | apply rN_ | apply rD_)); exact HO422.1) hb); have n2_ := Aside0.mk (bB_ (g := gb415) (o := .cells #[.string (⟨#[]⟩ : ByteArray), .string (⟨#[]⟩ : ByteArray), .slice none 0 0, .string (⟨#[]⟩ : ByteArray), .string (⟨#[]⟩ : ByteArray), .bool false, .int .i64 0, .bool false, .bool false] 113 (0, 0)) q43_ hb); have n3_ := Aside0.mk (below_step q61_ hb); have n4_ := Aside0.mk ((by rw [hg]; exact Nat.ne_of_lt (blk_lt (g := gb415) (o := .cells #[.string (⟨#[]⟩ : ByteArray), .string (⟨#[]⟩ : ByteArray), .slice none 0 0, .string (⟨#[]⟩ : ByteArray), .string (⟨#[]⟩ : ByteArray), .bool false, .int .i64 0, .bool false, .bool false] 113 (0, 0)) q43_) : gb415 ≠ gb423)); have n5_ := Aside0.mk ((by rw [hg]; exact Nat.ne_of_gt (blk_lt (g := gb415) (o := .cells #[.string (⟨#[]⟩ : ByteArray), .string (⟨#[]⟩ : ByteArray), .slice none 0 0, .string (⟨#[]⟩ : ByteArray), .string (⟨#[]⟩ : ByteArray), .bool false, .int .i64 0, .bool false, .bool false] 113 (0, 0)) q43_) : gb423 ≠ gb415)); have n6_ := Aside0.mk ((show IsS113 w w10 gb423 (⟨#[]⟩ : ByteArray) (⟨#[]⟩ : ByteArray) ([] : List (S88)) (⟨#[]⟩ : ByteArray) (⟨#[]⟩ : ByteArray) false 0 false false from ⟨none, 0, hbox, (by rw [hg]; exact (below_size q61_) : w.heap.size ≤ gb423), Kd.R_nil _ _ _ _ _⟩)); clear HO418 HO422; clear BK415 HB; have HO418 := n0_; have HO422 := n1_; have BK415 := n2_; have HB := n3_; have NB415_423 := n4_; have NB423_415 := n5_; have HI423 := n6_; clear n0_ n1_ n2_ n3_ n4_ n5_ n6_; clear hb hbox hg))
  (try simp only [Act.put, List.setIfInBounds_toArray, List.set_cons_zero, List.set_cons_succ])
  go_cut [33] (fun v33 wc => ∃ (kq : Nat) (x33_4 : Bool), v33 = .bool x33_4 ∧ Aside0 (impl_readHead.j0 kq t416 t420 x33_4 (⟨#[]⟩ : ByteArray) (⟨#[]⟩ : ByteArray) ([] : List (S88)) (⟨#[]⟩ : ByteArray) (⟨#[]⟩ : ByteArray) false 0 false false = some (r1, r2, r3, r4, r5, r6, r7, r8, r9, r10)) ∧ Aside0 (kq ≤ k) ∧ Aside0 (Kd.R Kd.string 9 wc w.heap.size (fun k_ => some k_ ≠ (v421 : Value).ownBlock) (.slice (some ad419) t416.length co8) t416) ∧ Aside0 (Kd.R Kd.string 9 wc w.heap.size (fun k_ => some k_ ≠ ((.slice (some ad419) t416.length co8) : Value).ownBlock) v421 t420) ∧ Aside0 (wc.heap[gb415]? = some (.cells #[.string (⟨#[]⟩ : ByteArray), .string (⟨#[]⟩ : ByteArray), (.slice none 0 0), .string (⟨#[]⟩ : ByteArray), .string (⟨#[]⟩ : ByteArray), .bool false, .int .i64 0, .bool false, .bool false] 113 (0, 0))) ∧ Aside0 (IsS113 w wc gb423 (⟨#[]⟩ : ByteArray) (⟨#[]⟩ : ByteArray) ([] : List (S88)) (⟨#[]⟩ : ByteArray) (⟨#[]⟩ : ByteArray) false 0 false false) ∧ Aside0 (Below w.heap.size w wc))
  case first =>
   have H := HC5.1
   clear HC5
   by_cases c11 : (t420.length : Int) = 3
   ·rw [if_pos c11] at H
    have c11b0 : ((t420.length : Int) == 3) = true := beq_iff_eq.mpr c11
    have c11b1 : ((t420.length : Int) != 3) = false := bne_eq_false_iff_eq.mpr c11
    clear c11
    (first | rw [c11b0] | (simp only [i64_w, i32_w]; rw [c11b0]) | skip)
    by_cases c12 : 2 < (t420.length : Int)
    ·rw [if_pos c12] at H
     have c12b0 : decide (2 < (t420.length : Int)) = true := decide_eq_true c12
     have c12b1 : decide (2 < t420.length) = true := decide_eq_true (by omega)
     clear c12
     by_cases c13 : (rdOf ByteArray.empty t420 2).toList = ([72, 84, 84, 80, 47, 49, 46, 49] : List UInt8)
     ·rw [if_pos c13] at H
      have c13b0 : ((rdOf ByteArray.empty t420 2).toList == ([72, 84, 84, 80, 47, 49, 46, 49] : List UInt8)) = true := beq_iff_eq.mpr c13
      have c13b1 : ((rdOf ByteArray.empty t420 2).toList != ([72, 84, 84, 80, 47, 49, 46, 49] : List UInt8)) = false := bne_eq_false_iff_eq.mpr c13
      clear c13
      by_cases c14 : 0 < (t420.length : Int)
      ·rw [if_pos c14] at H
       have c14b0 : decide (0 < (t420.length : Int)) = true := decide_eq_true c14
       have c14b1 : decide (0 < t420.length) = true := decide_eq_true (by omega)
       clear c14
       by_cases c15 : 1 < (t420.length : Int)
       ·rw [if_pos c15] at H
        have c15b0 : decide (1 < (t420.length : Int)) = true := decide_eq_true c15
        have c15b1 : decide (1 < t420.length) = true := decide_eq_true (by omega)
        clear c15
        replace H := Option.bind_eq_some_iff.mp H
        obtain ⟨t427, A160, H⟩ := H
        replace H : (impl_readHead.j0 k t416 t420 (!t427) (⟨#[]⟩ : ByteArray) (⟨#[]⟩ : ByteArray) ([] : List (S88)) (⟨#[]⟩ : ByteArray) (⟨#[]⟩ : ByteArray) false 0 false false) = some (r1, r2, r3, r4, r5, r6, r7, r8, r9, r10) := H
        have A16 := Aside0.mk A160
        clear A160
        have H' := Aside0.mk H
        clear H
        try go_wp2
        have n0_ := Aside0.mk (rD_ HO418.1)
        have n1_ := Aside0.mk (rD_ HO422.1)
        have n2_ := Aside0.mk (bD_ BK415.1)
        have n3_ := Aside0.mk (IsS113.drew HI423.1)
        have n4_ := Aside0.mk (dB_ HB.1)
        clear HO418 HO422 BK415 HI423 HB
        have HO418 := n0_
        have HO422 := n1_
        have BK415 := n2_
        have HI423 := n3_
        have HB := n4_
        clear n0_ n1_ n2_ n3_ n4_
        obtain ⟨Ao18, co18, eo18⟩ := Kd.R_slice HO422.1
        (first | subst eo18 | (injection eo18 with f1_ f2_ f3_; have f4_ := f1_.symm; have f5_ := f3_.symm; clear f1_ f2_ f3_; subst f4_; subst f5_))
        have p424 : 0 ≤ (2 : Int) := (by omega)
        have q424 : 2 < (t420.length : Int) := of_decide_eq_true q4_
        obtain ⟨ad424, e424, hx424_0⟩ := Kd.at_string (Kd.R_reads' HO422.1).2.2 2 p424 q424
        cases e424
        (try simp only [show (2 : Int).toNat = 2 from rfl, Nat.reduceMul, Nat.reduceEqDiff, Go.Addr.add, ↓reduceIte] at hx424_0)
        have qi424 : (2 < t420.length) = True := eq_true (by omega)
        (try rw [show ((2 : Int)).toNat = 2 from rfl] at hx424_0)
        replace p424 := eq_true p424
        replace q424 := eq_true q424
        have p425 : 0 ≤ (0 : Int) := (by omega)
        have q425 : 0 < (t420.length : Int) := of_decide_eq_true q4_
        obtain ⟨ad425, e425, hx425_0⟩ := Kd.at_string (Kd.R_reads' HO422.1).2.2 0 p425 q425
        obtain rfl : ad424 = ad425 := (by injection e425)
        have qi425 : (0 < t420.length) = True := eq_true (by omega)
        (try rw [show ((0 : Int)).toNat = 0 from rfl] at hx425_0)
        (try rw [Addr.add_zero'] at hx425_0)
        replace p425 := eq_true p425
        replace q425 := eq_true q425
        have p426 : 0 ≤ (1 : Int) := (by omega)
        have q426 : 1 < (t420.length : Int) := of_decide_eq_true q4_
        obtain ⟨ad426, e426, hx426_0⟩ := Kd.at_string (Kd.R_reads' HO422.1).2.2 1 p426 q426
        obtain rfl : ad424 = ad426 := (by injection e426)
        (try simp only [show (1 : Int).toNat = 1 from rfl, Nat.reduceMul, Nat.reduceEqDiff, Go.Addr.add, ↓reduceIte] at hx426_0)
        have qi426 : (1 < t420.length) = True := eq_true (by omega)
        (try rw [show ((1 : Int)).toNat = 1 from rfl] at hx426_0)
        replace p426 := eq_true p426
        replace q426 := eq_true q426
        refine start_ (n := 19) (S := fun w' => w'.cell? ⟨ad424.block, ad424.off + 2, none⟩ = some (.string (rdOf ByteArray.empty t420 2)) ∧ w'.cell? ad424 = some (.string (rdOf ByteArray.empty t420 0)) ∧ w'.cell? ⟨ad424.block, ad424.off + 1, none⟩ = some (.string (rdOf ByteArray.empty t420 1))) (ds := []) #[false, false, false, false, false, false, false, false, false, false, false, false, false, false, false, false, false, false, false] (by kernel_rfl) rfl rfl ⟨hx424_0, hx425_0, hx426_0⟩ (fun hHeld => ?_); refine with_tabW impl_readHead.tab4 impl_readHead.bits4 (fun HT_ HW_ => ?_)
        generalize w10.drew = w17 at HO418 HO422 BK415 HI423 HB hx424_0 hx425_0 hx426_0 hHeld ⊢
        refine pure_ (i := 0) (N := some 15) (v := ?_) (a' := ?_) #[true, false, false, false, false, false, false, false, false, false, false, false, false, false, false, false, false, false, false] rfl rfl (any_of HT_.1 (by kernel_rfl)) (fun _ _ _ h => h) (Or.inl ⟨by rfl, ?_⟩) ?_ ?_
        rotate_left
        ·intro w'
         go_simp
         with_reducible rfl
        rotate_left
        ·simp only [Act.put, List.setIfInBounds_toArray, List.set_cons_zero, List.set_cons_succ, i64_w, i32_w]
         rfl
        refine pure_ (i := 1) (N := some 16) (v := ?_) (a' := ?_) #[true, true, false, false, false, false, false, false, false, false, false, false, false, false, false, false, false, false, false] rfl rfl (any_of HT_.1 (by kernel_rfl)) (fun _ _ _ h => h) (Or.inl ⟨by rfl, ?_⟩) ?_ ?_
        rotate_left
        ·intro w'
         go_simp
         with_reducible rfl
        rotate_left
        ·simp only [Act.put, List.setIfInBounds_toArray, List.set_cons_zero, List.set_cons_succ, i64_w, i32_w]
         rfl
        refine pure_ (i := 2) (N := some 17) (v := ?_) (a' := ?_) #[true, true, true, false, false, false, false, false, false, false, false, false, false, false, false, false, false, false, false] rfl rfl (any_of HT_.1 (by kernel_rfl)) (fun _ _ _ h => h) (Or.inl ⟨by rfl, ?_⟩) ?_ ?_
        rotate_left
        ·intro w'
         go_simp
         with_reducible rfl
        rotate_left
        ·simp only [Act.put, List.setIfInBounds_toArray, List.set_cons_zero, List.set_cons_succ, i64_w, i32_w]
         rfl
        refine pure_ (i := 3) (N := some 18) (v := ?_) (a' := ?_) #[true, true, true, true, false, false, false, false, false, false, false, false, false, false, false, false, false, false, false] rfl rfl (any_of HT_.1 (by kernel_rfl)) (fun _ _ _ h => h) (Or.inl ⟨by rfl, ?_⟩) ?_ ?_
        rotate_left
        ·intro w'
         go_simp
         with_reducible rfl
        rotate_left
        ·simp only [Act.put, List.setIfInBounds_toArray, List.set_cons_zero, List.set_cons_succ, i64_w, i32_w]
         rfl
        refine pure_ (i := 4) (N := some 19) (v := ?_) (a' := ?_) #[true, true, true, true, true, false, false, false, false, false, false, false, false, false, false, false, false, false, false] rfl rfl (any_of HT_.1 (by kernel_rfl)) (fun _ _ _ h => h) (Or.inl ⟨by rfl, ?_⟩) ?_ ?_
        rotate_left
        ·intro w'
         go_simp
         with_reducible rfl
        rotate_left
        ·simp only [Act.put, List.setIfInBounds_toArray, List.set_cons_zero, List.set_cons_succ, i64_w, i32_w]
         rfl
        refine pure_ (i := 5) (N := some 20) (v := ?_) (a' := ?_) #[true, true, true, true, true, true, false, false, false, false, false, false, false, false, false, false, false, false, false] rfl rfl (any_of HT_.1 (by kernel_rfl)) (fun _ _ _ h => h) (Or.inl ⟨by rfl, ?_⟩) ?_ ?_
        rotate_left
        ·intro w'
         go_simp
         with_reducible rfl
        rotate_left
        ·simp only [Act.put, List.setIfInBounds_toArray, List.set_cons_zero, List.set_cons_succ, i64_w, i32_w]
         rfl
        refine take_ (i := 6) (N := some 21) (v := ?_) (a' := ?_) #[true, true, true, true, true, true, true, false, false, false, false, false, false, false, false, false, false, false, false] rfl rfl (take_ofW HT_.1 HW_.1 (by kernel_rfl)) (fun _ _ _ h => h) (Or.inl ⟨by rfl, ?_⟩) hHeld ?_ ?_
        rotate_left
        ·rintro w' ⟨s0, s1, s2⟩
         go_simp
         with_reducible rfl
        rotate_left
        ·simp only [Act.put, List.setIfInBounds_toArray, List.set_cons_zero, List.set_cons_succ, i64_w, i32_w]
         rfl
        refine pure_ (i := 7) (N := some 22) (v := ?_) (a' := ?_) #[true, true, true, true, true, true, true, true, false, false, false, false, false, false, false, false, false, false, false] rfl rfl (any_of HT_.1 (by kernel_rfl)) (fun _ _ _ h => h) (Or.inl ⟨by rfl, ?_⟩) ?_ ?_
        rotate_left
        ·intro w'
         go_simp
         with_reducible rfl
        rotate_left
        ·simp only [Act.put, List.setIfInBounds_toArray, List.set_cons_zero, List.set_cons_succ, i64_w, i32_w]
         rfl
        refine pure_ (i := 8) (N := some 23) (v := ?_) (a' := ?_) #[true, true, true, true, true, true, true, true, true, false, false, false, false, false, false, false, false, false, false] rfl rfl (any_of HT_.1 (by kernel_rfl)) (fun _ _ _ h => h) (Or.inl ⟨by rfl, ?_⟩) ?_ ?_
        rotate_left
        ·intro w'
         go_simp
         with_reducible rfl
        rotate_left
        ·simp only [Act.put, List.setIfInBounds_toArray, List.set_cons_zero, List.set_cons_succ, i64_w, i32_w]
         rfl
        refine pure_ (i := 9) (N := some 24) (v := ?_) (a' := ?_) #[true, true, true, true, true, true, true, true, true, true, false, false, false, false, false, false, false, false, false] rfl rfl (any_of HT_.1 (by kernel_rfl)) (fun _ _ _ h => h) (Or.inl ⟨by rfl, ?_⟩) ?_ ?_
        rotate_left
        ·intro w'
         go_simp
         with_reducible rfl
        rotate_left
        ·simp only [Act.put, List.setIfInBounds_toArray, List.set_cons_zero, List.set_cons_succ, i64_w, i32_w]
         rfl
        refine pure_ (i := 10) (N := some 25) (v := ?_) (a' := ?_) #[true, true, true, true, true, true, true, true, true, true, true, false, false, false, false, false, false, false, false] rfl rfl (any_of HT_.1 (by kernel_rfl)) (fun _ _ _ h => h) (Or.inl ⟨by rfl, ?_⟩) ?_ ?_
        rotate_left
        ·intro w'
         go_simp
         with_reducible rfl
        rotate_left
        ·simp only [Act.put, List.setIfInBounds_toArray, List.set_cons_zero, List.set_cons_succ, i64_w, i32_w]
         rfl
        refine pure_ (i := 11) (N := some 26) (v := ?_) (a' := ?_) #[true, true, true, true, true, true, true, true, true, true, true, true, false, false, false, false, false, false, false] rfl rfl (any_of HT_.1 (by kernel_rfl)) (fun _ _ _ h => h) (Or.inl ⟨by rfl, ?_⟩) ?_ ?_
        rotate_left
        ·intro w'
         go_simp
         with_reducible rfl
        rotate_left
        ·simp only [Act.put, List.setIfInBounds_toArray, List.set_cons_zero, List.set_cons_succ, i64_w, i32_w]
         rfl
        refine pure_ (i := 13) (N := some 28) (v := ?_) (a' := ?_) #[true, true, true, true, true, true, true, true, true, true, true, true, false, true, false, false, false, false, false] rfl rfl (any_of HT_.1 (by kernel_rfl)) (fun _ _ _ h => h) (Or.inl ⟨by rfl, ?_⟩) ?_ ?_
        rotate_left
        ·intro w'
         go_simp
         with_reducible rfl
        rotate_left
        ·simp only [Act.put, List.setIfInBounds_toArray, List.set_cons_zero, List.set_cons_succ, i64_w, i32_w]
         rfl
        refine pure_ (i := 14) (N := some 29) (v := ?_) (a' := ?_) #[true, true, true, true, true, true, true, true, true, true, true, true, false, true, true, false, false, false, false] rfl rfl (any_of HT_.1 (by kernel_rfl)) (fun _ _ _ h => h) (Or.inl ⟨by rfl, ?_⟩) ?_ ?_
        rotate_left
        ·intro w'
         go_simp
         with_reducible rfl
        rotate_left
        ·simp only [Act.put, List.setIfInBounds_toArray, List.set_cons_zero, List.set_cons_succ, i64_w, i32_w]
         rfl
        refine take_ (i := 12) (N := some 27) (v := ?_) (a' := ?_) #[true, true, true, true, true, true, true, true, true, true, true, true, true, true, true, false, false, false, false] rfl rfl (take_ofW HT_.1 HW_.1 (by kernel_rfl)) (fun _ _ _ h => h) (Or.inl ⟨by rfl, ?_⟩) hHeld ?_ ?_
        rotate_left
        ·rintro w' ⟨s0, s1, s2⟩
         go_simp
         with_reducible rfl
        rotate_left
        ·simp only [Act.put, List.setIfInBounds_toArray, List.set_cons_zero, List.set_cons_succ, i64_w, i32_w]
         rfl
        refine take_ (i := 15) (N := some 30) (v := ?_) (a' := ?_) #[true, true, true, true, true, true, true, true, true, true, true, true, true, true, true, true, false, false, false] rfl rfl (take_ofW HT_.1 HW_.1 (by kernel_rfl)) (fun _ _ _ h => h) (Or.inl ⟨by rfl, ?_⟩) hHeld ?_ ?_
        rotate_left
        ·rintro w' ⟨s0, s1, s2⟩
         go_simp
         with_reducible rfl
        rotate_left
        ·simp only [Act.put, List.setIfInBounds_toArray, List.set_cons_zero, List.set_cons_succ, i64_w, i32_w]
         rfl
        refine one_ (i := 16) (N := some 31) #[true, true, true, true, true, true, true, true, true, true, true, true, true, true, true, true, true, false, false] rfl rfl (one_of HT_.1 (by kernel_rfl)) (by decide) (fun K hK => ?_)
        refine goes_ Tryz.func126 (by kernel_rfl) rfl #[.string (rdOf ByteArray.empty t420 0), .string (rdOf ByteArray.empty t420 1)] (by rfl) rfl rfl q2_ ?_
        with_reducible refine (impl_lineOk.calls k (rdOf ByteArray.empty t420 0) (rdOf ByteArray.empty t420 1) t427 _ A16.1).mono ?_
        rintro e w' ⟨rfl, ⟨nd, rfl⟩⟩
        refine ⟨_, rfl, ?_⟩
        refine hK.out _ _ ⟨hHeld.1, hHeld.2.1, hHeld.2.2⟩ (fun hHeld => ?_)
        clear hK K
        refine norm_ (a' := ?_) ?_ ?_
        rotate_left
        ·show Act.put _ (some 31) _ = _
         simp only [Act.put, List.setIfInBounds_toArray, List.set_cons_zero, List.set_cons_succ, i64_w, i32_w]
         rfl
        refine pure_ (i := 17) (N := some 32) (v := ?_) (a' := ?_) #[true, true, true, true, true, true, true, true, true, true, true, true, true, true, true, true, true, true, false] rfl rfl (any_of HT_.1 (by kernel_rfl)) (fun _ _ _ h => h) (Or.inl ⟨by rfl, ?_⟩) ?_ ?_
        rotate_left
        ·intro w'
         go_simp
         with_reducible rfl
        rotate_left
        ·simp only [Act.put, List.setIfInBounds_toArray, List.set_cons_zero, List.set_cons_succ, i64_w, i32_w]
         rfl
        refine pure_ (i := 18) (N := some 33) (v := ?_) (a' := ?_) #[true, true, true, true, true, true, true, true, true, true, true, true, true, true, true, true, true, true, true] rfl rfl (any_of HT_.1 (by kernel_rfl)) (fun _ _ _ h => h) (Or.inl ⟨by rfl, ?_⟩) ?_ ?_
        rotate_left
        ·intro w'
         go_simp
         with_reducible rfl
        rotate_left
        ·simp only [Act.put, List.setIfInBounds_toArray, List.set_cons_zero, List.set_cons_succ, i64_w, i32_w]
         rfl
        refine done_ (done_of HT_.1 (by kernel_rfl)) ?_
        try go_wp2
        go_meet
        case rel => exact ⟨_, (!t427), q3_, H', ⟨q73_⟩, ⟨q102_⟩, ⟨q101_⟩, ⟨q43_⟩, ⟨q22_⟩, ⟨q21_⟩⟩
       ·rw [if_neg c15] at H
        exact absurd H (by simp)
      ·rw [if_neg c14] at H
       exact absurd H (by simp)
     ·rw [if_neg c13] at H
      have c13b0 : ((rdOf ByteArray.empty t420 2).toList == ([72, 84, 84, 80, 47, 49, 46, 49] : List UInt8)) = false := beq_eq_false_iff_ne.mpr c13
      have c13b1 : ((rdOf ByteArray.empty t420 2).toList != ([72, 84, 84, 80, 47, 49, 46, 49] : List UInt8)) = true := bne_iff_ne.mpr c13
      have H' := Aside0.mk H
      clear H
      try go_wp2
      have n0_ := Aside0.mk (rD_ HO418.1)
      have n1_ := Aside0.mk (rD_ HO422.1)
      have n2_ := Aside0.mk (bD_ BK415.1)
      have n3_ := Aside0.mk (IsS113.drew HI423.1)
      have n4_ := Aside0.mk (dB_ HB.1)
      clear HO418 HO422 BK415 HI423 HB
      have HO418 := n0_
      have HO422 := n1_
      have BK415 := n2_
      have HI423 := n3_
      have HB := n4_
      clear n0_ n1_ n2_ n3_ n4_
      obtain ⟨Ao20, co20, eo20⟩ := Kd.R_slice HO422.1
      (first | subst eo20 | (injection eo20 with f1_ f2_ f3_; have f4_ := f1_.symm; have f5_ := f3_.symm; clear f1_ f2_ f3_; subst f4_; subst f5_))
      have p424 : 0 ≤ (2 : Int) := (by omega)
      have q424 : 2 < (t420.length : Int) := of_decide_eq_true q4_
      obtain ⟨ad424, e424, hx424_0⟩ := Kd.at_string (Kd.R_reads' HO422.1).2.2 2 p424 q424
      cases e424
      (try simp only [show (2 : Int).toNat = 2 from rfl, Nat.reduceMul, Nat.reduceEqDiff, Go.Addr.add, ↓reduceIte] at hx424_0)
      have qi424 : (2 < t420.length) = True := eq_true (by omega)
      (try rw [show ((2 : Int)).toNat = 2 from rfl] at hx424_0)
      replace p424 := eq_true p424
      replace q424 := eq_true q424
      refine start_ (n := 19) (S := fun w' => w'.cell? ⟨ad424.block, ad424.off + 2, none⟩ = some (.string (rdOf ByteArray.empty t420 2))) (ds := []) #[false, false, false, false, false, false, false, false, false, false, false, false, false, false, false, false, false, false, false] (by kernel_rfl) rfl rfl (hx424_0) (fun hHeld => ?_); refine with_tabW impl_readHead.tab4 impl_readHead.bits4 (fun HT_ HW_ => ?_)
      generalize w10.drew = w19 at HO418 HO422 BK415 HI423 HB hx424_0 hHeld ⊢
      refine pure_ (i := 0) (N := some 15) (v := ?_) (a' := ?_) #[true, false, false, false, false, false, false, false, false, false, false, false, false, false, false, false, false, false, false] rfl rfl (any_of HT_.1 (by kernel_rfl)) (fun _ _ _ h => h) (Or.inl ⟨by rfl, ?_⟩) ?_ ?_
      rotate_left
      ·intro w'
       go_simp
       with_reducible rfl
      rotate_left
      ·simp only [Act.put, List.setIfInBounds_toArray, List.set_cons_zero, List.set_cons_succ, i64_w, i32_w]
       rfl
      refine pure_ (i := 1) (N := some 16) (v := ?_) (a' := ?_) #[true, true, false, false, false, false, false, false, false, false, false, false, false, false, false, false, false, false, false] rfl rfl (any_of HT_.1 (by kernel_rfl)) (fun _ _ _ h => h) (Or.inl ⟨by rfl, ?_⟩) ?_ ?_
      rotate_left
      ·intro w'
       go_simp
       with_reducible rfl
      rotate_left
      ·simp only [Act.put, List.setIfInBounds_toArray, List.set_cons_zero, List.set_cons_succ, i64_w, i32_w]
       rfl
      refine pure_ (i := 2) (N := some 17) (v := ?_) (a' := ?_) #[true, true, true, false, false, false, false, false, false, false, false, false, false, false, false, false, false, false, false] rfl rfl (any_of HT_.1 (by kernel_rfl)) (fun _ _ _ h => h) (Or.inl ⟨by rfl, ?_⟩) ?_ ?_
      rotate_left
      ·intro w'
       go_simp
       with_reducible rfl
      rotate_left
      ·simp only [Act.put, List.setIfInBounds_toArray, List.set_cons_zero, List.set_cons_succ, i64_w, i32_w]
       rfl
      refine pure_ (i := 3) (N := some 18) (v := ?_) (a' := ?_) #[true, true, true, true, false, false, false, false, false, false, false, false, false, false, false, false, false, false, false] rfl rfl (any_of HT_.1 (by kernel_rfl)) (fun _ _ _ h => h) (Or.inl ⟨by rfl, ?_⟩) ?_ ?_
      rotate_left
      ·intro w'
       go_simp
       with_reducible rfl
      rotate_left
      ·simp only [Act.put, List.setIfInBounds_toArray, List.set_cons_zero, List.set_cons_succ, i64_w, i32_w]
       rfl
      refine pure_ (i := 4) (N := some 19) (v := ?_) (a' := ?_) #[true, true, true, true, true, false, false, false, false, false, false, false, false, false, false, false, false, false, false] rfl rfl (any_of HT_.1 (by kernel_rfl)) (fun _ _ _ h => h) (Or.inl ⟨by rfl, ?_⟩) ?_ ?_
      rotate_left
      ·intro w'
       go_simp
       with_reducible rfl
      rotate_left
      ·simp only [Act.put, List.setIfInBounds_toArray, List.set_cons_zero, List.set_cons_succ, i64_w, i32_w]
       rfl
      refine pure_ (i := 5) (N := some 20) (v := ?_) (a' := ?_) #[true, true, true, true, true, true, false, false, false, false, false, false, false, false, false, false, false, false, false] rfl rfl (any_of HT_.1 (by kernel_rfl)) (fun _ _ _ h => h) (Or.inl ⟨by rfl, ?_⟩) ?_ ?_
      rotate_left
      ·intro w'
       go_simp
       with_reducible rfl
      rotate_left
      ·simp only [Act.put, List.setIfInBounds_toArray, List.set_cons_zero, List.set_cons_succ, i64_w, i32_w]
       rfl
      refine take_ (i := 6) (N := some 21) (v := ?_) (a' := ?_) #[true, true, true, true, true, true, true, false, false, false, false, false, false, false, false, false, false, false, false] rfl rfl (take_ofW HT_.1 HW_.1 (by kernel_rfl)) (fun _ _ _ h => h) (Or.inl ⟨by rfl, ?_⟩) hHeld ?_ ?_
      rotate_left
      ·intro w' s0
       go_simp
       with_reducible rfl
      rotate_left
      ·simp only [Act.put, List.setIfInBounds_toArray, List.set_cons_zero, List.set_cons_succ, i64_w, i32_w]
       rfl
      refine pure_ (i := 7) (N := some 22) (v := ?_) (a' := ?_) #[true, true, true, true, true, true, true, true, false, false, false, false, false, false, false, false, false, false, false] rfl rfl (any_of HT_.1 (by kernel_rfl)) (fun _ _ _ h => h) (Or.inl ⟨by rfl, ?_⟩) ?_ ?_
      rotate_left
      ·intro w'
       go_simp
       with_reducible rfl
      rotate_left
      ·simp only [Act.put, List.setIfInBounds_toArray, List.set_cons_zero, List.set_cons_succ, i64_w, i32_w]
       rfl
      refine pure_ (i := 8) (N := some 23) (v := ?_) (a' := ?_) #[true, true, true, true, true, true, true, true, true, false, false, false, false, false, false, false, false, false, false] rfl rfl (any_of HT_.1 (by kernel_rfl)) (fun _ _ _ h => h) (Or.inl ⟨by rfl, ?_⟩) ?_ ?_
      rotate_left
      ·intro w'
       go_simp
       with_reducible rfl
      rotate_left
      ·simp only [Act.put, List.setIfInBounds_toArray, List.set_cons_zero, List.set_cons_succ, i64_w, i32_w]
       rfl
      refine pure_ (i := 9) (N := some 24) (v := ?_) (a' := ?_) #[true, true, true, true, true, true, true, true, true, true, false, false, false, false, false, false, false, false, false] rfl rfl (any_of HT_.1 (by kernel_rfl)) (fun _ _ _ h => h) (Or.inl ⟨by rfl, ?_⟩) ?_ ?_
      rotate_left
      ·intro w'
       go_simp
       with_reducible rfl
      rotate_left
      ·simp only [Act.put, List.setIfInBounds_toArray, List.set_cons_zero, List.set_cons_succ, i64_w, i32_w]
       rfl
      refine pure_ (i := 10) (N := some 25) (v := undef) (a' := ?_) #[true, true, true, true, true, true, true, true, true, true, true, false, false, false, false, false, false, false, false] rfl rfl (any_of HT_.1 (by kernel_rfl)) (fun _ _ _ h => h) (Or.inr ⟨by rfl, rfl⟩) ?_ ?_
      rotate_left
      ·simp only [Act.put, List.setIfInBounds_toArray, List.set_cons_zero, List.set_cons_succ, i64_w, i32_w]
       rfl
      refine pure_ (i := 11) (N := some 26) (v := undef) (a' := ?_) #[true, true, true, true, true, true, true, true, true, true, true, true, false, false, false, false, false, false, false] rfl rfl (any_of HT_.1 (by kernel_rfl)) (fun _ _ _ h => h) (Or.inr ⟨by rfl, rfl⟩) ?_ ?_
      rotate_left
      ·simp only [Act.put, List.setIfInBounds_toArray, List.set_cons_zero, List.set_cons_succ, i64_w, i32_w]
       rfl
      refine pure_ (i := 12) (N := some 27) (v := undef) (a' := ?_) #[true, true, true, true, true, true, true, true, true, true, true, true, true, false, false, false, false, false, false] rfl rfl (any_of HT_.1 (by kernel_rfl)) (fun _ _ _ h => h) (Or.inr ⟨by rfl, rfl⟩) ?_ ?_
      rotate_left
      ·simp only [Act.put, List.setIfInBounds_toArray, List.set_cons_zero, List.set_cons_succ, i64_w, i32_w]
       rfl
      refine pure_ (i := 13) (N := some 28) (v := undef) (a' := ?_) #[true, true, true, true, true, true, true, true, true, true, true, true, true, true, false, false, false, false, false] rfl rfl (any_of HT_.1 (by kernel_rfl)) (fun _ _ _ h => h) (Or.inr ⟨by rfl, rfl⟩) ?_ ?_
      rotate_left
      ·simp only [Act.put, List.setIfInBounds_toArray, List.set_cons_zero, List.set_cons_succ, i64_w, i32_w]
       rfl
      refine pure_ (i := 14) (N := some 29) (v := undef) (a' := ?_) #[true, true, true, true, true, true, true, true, true, true, true, true, true, true, true, false, false, false, false] rfl rfl (any_of HT_.1 (by kernel_rfl)) (fun _ _ _ h => h) (Or.inr ⟨by rfl, rfl⟩) ?_ ?_
      rotate_left
      ·simp only [Act.put, List.setIfInBounds_toArray, List.set_cons_zero, List.set_cons_succ, i64_w, i32_w]
       rfl
      refine pure_ (i := 15) (N := some 30) (v := undef) (a' := ?_) #[true, true, true, true, true, true, true, true, true, true, true, true, true, true, true, true, false, false, false] rfl rfl (any_of HT_.1 (by kernel_rfl)) (fun _ _ _ h => h) (Or.inr ⟨by rfl, rfl⟩) ?_ ?_
      rotate_left
      ·simp only [Act.put, List.setIfInBounds_toArray, List.set_cons_zero, List.set_cons_succ, i64_w, i32_w]
       rfl
      refine pure_ (i := 16) (N := some 31) (v := undef) (a' := ?_) #[true, true, true, true, true, true, true, true, true, true, true, true, true, true, true, true, true, false, false] rfl rfl (any_of HT_.1 (by kernel_rfl)) (fun _ _ _ h => h) (Or.inr ⟨by rfl, rfl⟩) ?_ ?_
      rotate_left
      ·simp only [Act.put, List.setIfInBounds_toArray, List.set_cons_zero, List.set_cons_succ, i64_w, i32_w]
       rfl
      refine pure_ (i := 17) (N := some 32) (v := undef) (a' := ?_) #[true, true, true, true, true, true, true, true, true, true, true, true, true, true, true, true, true, true, false] rfl rfl (any_of HT_.1 (by kernel_rfl)) (fun _ _ _ h => h) (Or.inr ⟨by rfl, rfl⟩) ?_ ?_
      rotate_left
      ·simp only [Act.put, List.setIfInBounds_toArray, List.set_cons_zero, List.set_cons_succ, i64_w, i32_w]
       rfl
      refine pure_ (i := 18) (N := some 33) (v := ?_) (a' := ?_) #[true, true, true, true, true, true, true, true, true, true, true, true, true, true, true, true, true, true, true] rfl rfl (any_of HT_.1 (by kernel_rfl)) (fun _ _ _ h => h) (Or.inl ⟨by rfl, ?_⟩) ?_ ?_
      rotate_left
      ·intro w'
       go_simp
       with_reducible rfl
      rotate_left
      ·simp only [Act.put, List.setIfInBounds_toArray, List.set_cons_zero, List.set_cons_succ, i64_w, i32_w]
       rfl
      refine done_ (done_of HT_.1 (by kernel_rfl)) ?_
      try go_wp2
      go_meet
      case rel => exact ⟨_, (true), q3_, H', ⟨q73_⟩, ⟨q102_⟩, ⟨q101_⟩, ⟨q43_⟩, ⟨q22_⟩, ⟨q21_⟩⟩
    ·rw [if_neg c12] at H
     exact absurd H (by simp)
   ·rw [if_neg c11] at H
    have c11b0 : ((t420.length : Int) == 3) = false := beq_eq_false_iff_ne.mpr c11
    have c11b1 : ((t420.length : Int) != 3) = true := bne_iff_ne.mpr c11
    (first | rw [c11b0] | (simp only [i64_w, i32_w]; rw [c11b0]) | skip)
    have H' := Aside0.mk H
    clear H
    try go_wp2
    have n0_ := Aside0.mk (rD_ HO418.1)
    have n1_ := Aside0.mk (rD_ HO422.1)
    have n2_ := Aside0.mk (bD_ BK415.1)
    have n3_ := Aside0.mk (IsS113.drew HI423.1)
    have n4_ := Aside0.mk (dB_ HB.1)
    clear HO418 HO422 BK415 HI423 HB
    have HO418 := n0_
    have HO422 := n1_
    have BK415 := n2_
    have HI423 := n3_
    have HB := n4_
    clear n0_ n1_ n2_ n3_ n4_
    obtain ⟨Ao22, co22, eo22⟩ := Kd.R_slice HO422.1
    (first | subst eo22 | (injection eo22 with f1_ f2_ f3_; have f4_ := f1_.symm; have f5_ := f3_.symm; clear f1_ f2_ f3_; subst f4_; subst f5_))
    refine start_ (n := 19) (S := fun w' => True) (ds := []) #[false, false, false, false, false, false, false, false, false, false, false, false, false, false, false, false, false, false, false] (by kernel_rfl) rfl rfl trivial (fun hHeld => ?_); refine with_tabW impl_readHead.tab4 impl_readHead.bits4 (fun HT_ HW_ => ?_)
    generalize w10.drew = w21 at HO418 HO422 BK415 HI423 HB hHeld ⊢
    refine pure_ (i := 0) (N := some 15) (v := ?_) (a' := ?_) #[true, false, false, false, false, false, false, false, false, false, false, false, false, false, false, false, false, false, false] rfl rfl (any_of HT_.1 (by kernel_rfl)) (fun _ _ _ h => h) (Or.inl ⟨by rfl, ?_⟩) ?_ ?_
    rotate_left
    ·intro w'
     go_simp
     with_reducible rfl
    rotate_left
    ·simp only [Act.put, List.setIfInBounds_toArray, List.set_cons_zero, List.set_cons_succ, i64_w, i32_w]
     rfl
    refine pure_ (i := 1) (N := some 16) (v := ?_) (a' := ?_) #[true, true, false, false, false, false, false, false, false, false, false, false, false, false, false, false, false, false, false] rfl rfl (any_of HT_.1 (by kernel_rfl)) (fun _ _ _ h => h) (Or.inl ⟨by rfl, ?_⟩) ?_ ?_
    rotate_left
    ·intro w'
     go_simp
     with_reducible rfl
    rotate_left
    ·simp only [Act.put, List.setIfInBounds_toArray, List.set_cons_zero, List.set_cons_succ, i64_w, i32_w]
     rfl
    refine pure_ (i := 2) (N := some 17) (v := ?_) (a' := ?_) #[true, true, true, false, false, false, false, false, false, false, false, false, false, false, false, false, false, false, false] rfl rfl (any_of HT_.1 (by kernel_rfl)) (fun _ _ _ h => h) (Or.inl ⟨by rfl, ?_⟩) ?_ ?_
    rotate_left
    ·intro w'
     go_simp
     with_reducible rfl
    rotate_left
    ·simp only [Act.put, List.setIfInBounds_toArray, List.set_cons_zero, List.set_cons_succ, i64_w, i32_w]
     rfl
    refine pure_ (i := 3) (N := some 18) (v := ?_) (a' := ?_) #[true, true, true, true, false, false, false, false, false, false, false, false, false, false, false, false, false, false, false] rfl rfl (any_of HT_.1 (by kernel_rfl)) (fun _ _ _ h => h) (Or.inl ⟨by rfl, ?_⟩) ?_ ?_
    rotate_left
    ·intro w'
     go_simp
     with_reducible rfl
    rotate_left
    ·simp only [Act.put, List.setIfInBounds_toArray, List.set_cons_zero, List.set_cons_succ, i64_w, i32_w]
     rfl
    refine pure_ (i := 4) (N := some 19) (v := undef) (a' := ?_) #[true, true, true, true, true, false, false, false, false, false, false, false, false, false, false, false, false, false, false] rfl rfl (any_of HT_.1 (by kernel_rfl)) (fun _ _ _ h => h) (Or.inr ⟨by rfl, rfl⟩) ?_ ?_
    rotate_left
    ·simp only [Act.put, List.setIfInBounds_toArray, List.set_cons_zero, List.set_cons_succ, i64_w, i32_w]
     rfl
    refine pure_ (i := 5) (N := some 20) (v := undef) (a' := ?_) #[true, true, true, true, true, true, false, false, false, false, false, false, false, false, false, false, false, false, false] rfl rfl (any_of HT_.1 (by kernel_rfl)) (fun _ _ _ h => h) (Or.inr ⟨by rfl, rfl⟩) ?_ ?_
    rotate_left
    ·simp only [Act.put, List.setIfInBounds_toArray, List.set_cons_zero, List.set_cons_succ, i64_w, i32_w]
     rfl
    refine pure_ (i := 6) (N := some 21) (v := undef) (a' := ?_) #[true, true, true, true, true, true, true, false, false, false, false, false, false, false, false, false, false, false, false] rfl rfl (any_of HT_.1 (by kernel_rfl)) (fun _ _ _ h => h) (Or.inr ⟨by rfl, rfl⟩) ?_ ?_
    rotate_left
    ·simp only [Act.put, List.setIfInBounds_toArray, List.set_cons_zero, List.set_cons_succ, i64_w, i32_w]
     rfl
    refine pure_ (i := 7) (N := some 22) (v := undef) (a' := ?_) #[true, true, true, true, true, true, true, true, false, false, false, false, false, false, false, false, false, false, false] rfl rfl (any_of HT_.1 (by kernel_rfl)) (fun _ _ _ h => h) (Or.inr ⟨by rfl, rfl⟩) ?_ ?_
    rotate_left
    ·simp only [Act.put, List.setIfInBounds_toArray, List.set_cons_zero, List.set_cons_succ, i64_w, i32_w]
     rfl
    refine pure_ (i := 8) (N := some 23) (v := ?_) (a' := ?_) #[true, true, true, true, true, true, true, true, true, false, false, false, false, false, false, false, false, false, false] rfl rfl (any_of HT_.1 (by kernel_rfl)) (fun _ _ _ h => h) (Or.inl ⟨by rfl, ?_⟩) ?_ ?_
    rotate_left
    ·intro w'
     go_simp
     with_reducible rfl
    rotate_left
    ·simp only [Act.put, List.setIfInBounds_toArray, List.set_cons_zero, List.set_cons_succ, i64_w, i32_w]
     rfl
    refine pure_ (i := 9) (N := some 24) (v := ?_) (a' := ?_) #[true, true, true, true, true, true, true, true, true, true, false, false, false, false, false, false, false, false, false] rfl rfl (any_of HT_.1 (by kernel_rfl)) (fun _ _ _ h => h) (Or.inl ⟨by rfl, ?_⟩) ?_ ?_
    rotate_left
    ·intro w'
     go_simp
     with_reducible rfl
    rotate_left
    ·simp only [Act.put, List.setIfInBounds_toArray, List.set_cons_zero, List.set_cons_succ, i64_w, i32_w]
     rfl
    refine pure_ (i := 10) (N := some 25) (v := undef) (a' := ?_) #[true, true, true, true, true, true, true, true, true, true, true, false, false, false, false, false, false, false, false] rfl rfl (any_of HT_.1 (by kernel_rfl)) (fun _ _ _ h => h) (Or.inr ⟨by rfl, rfl⟩) ?_ ?_
    rotate_left
    ·simp only [Act.put, List.setIfInBounds_toArray, List.set_cons_zero, List.set_cons_succ, i64_w, i32_w]
     rfl
    refine pure_ (i := 11) (N := some 26) (v := undef) (a' := ?_) #[true, true, true, true, true, true, true, true, true, true, true, true, false, false, false, false, false, false, false] rfl rfl (any_of HT_.1 (by kernel_rfl)) (fun _ _ _ h => h) (Or.inr ⟨by rfl, rfl⟩) ?_ ?_
    rotate_left
    ·simp only [Act.put, List.setIfInBounds_toArray, List.set_cons_zero, List.set_cons_succ, i64_w, i32_w]
     rfl
    refine pure_ (i := 12) (N := some 27) (v := undef) (a' := ?_) #[true, true, true, true, true, true, true, true, true, true, true, true, true, false, false, false, false, false, false] rfl rfl (any_of HT_.1 (by kernel_rfl)) (fun _ _ _ h => h) (Or.inr ⟨by rfl, rfl⟩) ?_ ?_
    rotate_left
    ·simp only [Act.put, List.setIfInBounds_toArray, List.set_cons_zero, List.set_cons_succ, i64_w, i32_w]
     rfl
    refine pure_ (i := 13) (N := some 28) (v := undef) (a' := ?_) #[true, true, true, true, true, true, true, true, true, true, true, true, true, true, false, false, false, false, false] rfl rfl (any_of HT_.1 (by kernel_rfl)) (fun _ _ _ h => h) (Or.inr ⟨by rfl, rfl⟩) ?_ ?_
    rotate_left
    ·simp only [Act.put, List.setIfInBounds_toArray, List.set_cons_zero, List.set_cons_succ, i64_w, i32_w]
     rfl
    refine pure_ (i := 14) (N := some 29) (v := undef) (a' := ?_) #[true, true, true, true, true, true, true, true, true, true, true, true, true, true, true, false, false, false, false] rfl rfl (any_of HT_.1 (by kernel_rfl)) (fun _ _ _ h => h) (Or.inr ⟨by rfl, rfl⟩) ?_ ?_
    rotate_left
    ·simp only [Act.put, List.setIfInBounds_toArray, List.set_cons_zero, List.set_cons_succ, i64_w, i32_w]
     rfl
    refine pure_ (i := 15) (N := some 30) (v := undef) (a' := ?_) #[true, true, true, true, true, true, true, true, true, true, true, true, true, true, true, true, false, false, false] rfl rfl (any_of HT_.1 (by kernel_rfl)) (fun _ _ _ h => h) (Or.inr ⟨by rfl, rfl⟩) ?_ ?_
    rotate_left
    ·simp only [Act.put, List.setIfInBounds_toArray, List.set_cons_zero, List.set_cons_succ, i64_w, i32_w]
     rfl
    refine pure_ (i := 16) (N := some 31) (v := undef) (a' := ?_) #[true, true, true, true, true, true, true, true, true, true, true, true, true, true, true, true, true, false, false] rfl rfl (any_of HT_.1 (by kernel_rfl)) (fun _ _ _ h => h) (Or.inr ⟨by rfl, rfl⟩) ?_ ?_
    rotate_left
    ·simp only [Act.put, List.setIfInBounds_toArray, List.set_cons_zero, List.set_cons_succ, i64_w, i32_w]
     rfl
    refine pure_ (i := 17) (N := some 32) (v := undef) (a' := ?_) #[true, true, true, true, true, true, true, true, true, true, true, true, true, true, true, true, true, true, false] rfl rfl (any_of HT_.1 (by kernel_rfl)) (fun _ _ _ h => h) (Or.inr ⟨by rfl, rfl⟩) ?_ ?_
    rotate_left
    ·simp only [Act.put, List.setIfInBounds_toArray, List.set_cons_zero, List.set_cons_succ, i64_w, i32_w]
     rfl
    refine pure_ (i := 18) (N := some 33) (v := ?_) (a' := ?_) #[true, true, true, true, true, true, true, true, true, true, true, true, true, true, true, true, true, true, true] rfl rfl (any_of HT_.1 (by kernel_rfl)) (fun _ _ _ h => h) (Or.inl ⟨by rfl, ?_⟩) ?_ ?_
    rotate_left
    ·intro w'
     go_simp
     with_reducible rfl
    rotate_left
    ·simp only [Act.put, List.setIfInBounds_toArray, List.set_cons_zero, List.set_cons_succ, i64_w, i32_w]
     rfl
    refine done_ (done_of HT_.1 (by kernel_rfl)) ?_
    try go_wp2
    go_meet
    case rel => exact ⟨_, (true), q3_, H', ⟨q73_⟩, ⟨q102_⟩, ⟨q101_⟩, ⟨q43_⟩, ⟨q22_⟩, ⟨q21_⟩⟩
  case rest =>
   clear HC5
   try clear c1
   try clear p2
   try clear c3
   try clear c3b0
   try clear c3b1
   try clear p4
   try clear q4
   try clear hx4
   try clear qi4
   try clear c7
   try clear c10
   try clear c11
   try clear c11b0
   try clear c11b1
   try clear c12
   try clear c12b0
   try clear c12b1
   try clear c13
   try clear c13b0
   try clear c13b1
   try clear c14
   try clear c14b0
   try clear c14b1
   try clear c15
   try clear c15b0
   try clear c15b1
   try clear hx419_0
   try clear hx424_0
   try clear hx425_0
   try clear hx426_0
   try clear p419
   try clear p424
   try clear p425
   try clear p426
   try clear q419
   try clear q424
   try clear q425
   try clear q426
   obtain ⟨kq, x33_4, rfl, HA, HJ4, HO_4, HO_5, BK415, HI423, HB⟩ := hcut
   cases kq with
   | zero => exact absurd HA.1 (by simp [impl_readHead.j0])
   | succ kj4 =>
    have H := HA.1
    clear HA
    simp only [impl_readHead.j0] at H
    by_cases c23 : x33_4 = true
    ·subst c23
     rw [if_pos rfl] at H
     simp only [Option.some.injEq, Prod.mk.injEq] at H
     obtain ⟨rfl, rfl, rfl, rfl, rfl, rfl, rfl, rfl, rfl, rfl⟩ := H
     obtain ⟨ASz24_2, cSz24_2, HGz24, hgz24, HSz24_2⟩ := HI423.1
     have hcz24_0 := cellS113_0 HGz24
     have hcz24_1 := cellS113_1 HGz24
     have hcz24_2 := cellS113_2 HGz24
     have hcz24_3 := cellS113_3 HGz24
     have hcz24_4 := cellS113_4 HGz24
     have hcz24_5 := cellS113_5 HGz24
     have hcz24_6 := cellS113_6 HGz24
     have hcz24_7 := cellS113_7 HGz24
     have hcz24_8 := cellS113_8 HGz24
     have hfz24_0 := bF_ HGz24 0
     have hfz24_1 := bF_ HGz24 1
     have hfz24_2 := bF_ HGz24 2
     have hfz24_3 := bF_ HGz24 3
     have hfz24_4 := bF_ HGz24 4
     have hfz24_5 := bF_ HGz24 5
     have hfz24_6 := bF_ HGz24 6
     have hfz24_7 := bF_ HGz24 7
     have hfz24_8 := bF_ HGz24 8
     clear HGz24 hgz24
     have HO429 := Aside0.mk HSz24_2
     have hnb25 := NB415_423.1
     have hnc25 := NB423_415.1
     have hcz26_0 : wc.cell? ⟨gb415, 0, none⟩ = some (.string (⟨#[]⟩ : ByteArray)) := (bc_ BK415.1 0).trans rfl
     have hcz26_1 : wc.cell? ⟨gb415, 1, none⟩ = some (.string (⟨#[]⟩ : ByteArray)) := (bc_ BK415.1 1).trans rfl
     have hcz26_2 : wc.cell? ⟨gb415, 2, none⟩ = some (.slice none 0 0) := (bc_ BK415.1 2).trans rfl
     have hcz26_3 : wc.cell? ⟨gb415, 3, none⟩ = some (.string (⟨#[]⟩ : ByteArray)) := (bc_ BK415.1 3).trans rfl
     have hcz26_4 : wc.cell? ⟨gb415, 4, none⟩ = some (.string (⟨#[]⟩ : ByteArray)) := (bc_ BK415.1 4).trans rfl
     have hcz26_5 : wc.cell? ⟨gb415, 5, none⟩ = some (.bool false) := (bc_ BK415.1 5).trans rfl
     have hcz26_6 : wc.cell? ⟨gb415, 6, none⟩ = some (.int .i64 0) := (bc_ BK415.1 6).trans rfl
     have hcz26_7 : wc.cell? ⟨gb415, 7, none⟩ = some (.bool false) := (bc_ BK415.1 7).trans rfl
     have hcz26_8 : wc.cell? ⟨gb415, 8, none⟩ = some (.bool false) := (bc_ BK415.1 8).trans rfl
     have hfz26_0 := bF_ BK415.1 0
     have hfz26_1 := bF_ BK415.1 1
     have hfz26_2 := bF_ BK415.1 2
     have hfz26_3 := bF_ BK415.1 3
     have hfz26_4 := bF_ BK415.1 4
     have hfz26_5 := bF_ BK415.1 5
     have hfz26_6 := bF_ BK415.1 6
     have hfz26_7 := bF_ BK415.1 7
     have hfz26_8 := bF_ BK415.1 8
     go_wp2
     refine bodyPost_ret (results_ct rfl _ _ gb415 113 #[.string (⟨#[]⟩ : ByteArray), .string (⟨#[]⟩ : ByteArray), .slice ASz24_2 ([] : List (S88)).length cSz24_2, .string (⟨#[]⟩ : ByteArray), .string (⟨#[]⟩ : ByteArray), .bool false, .int .i64 0, .bool false, .bool false] (0, 0) _ rfl (by (with_reducible repeat (first | refine bN_ ?_ _ | refine bD_ ?_ | refine bA_ ?_ _)); refine blk_put (cs := #[.string (⟨#[]⟩ : ByteArray), .string (⟨#[]⟩ : ByteArray), .slice ASz24_2 ([] : List (S88)).length cSz24_2, .string (⟨#[]⟩ : ByteArray), .string (⟨#[]⟩ : ByteArray), .bool false, .int .i64 0, .bool false, .bool false]) ?_ 8 _ rfl; (with_reducible repeat (first | refine bN_ ?_ _ | refine bD_ ?_ | refine bA_ ?_ _)); refine blk_put (cs := #[.string (⟨#[]⟩ : ByteArray), .string (⟨#[]⟩ : ByteArray), .slice ASz24_2 ([] : List (S88)).length cSz24_2, .string (⟨#[]⟩ : ByteArray), .string (⟨#[]⟩ : ByteArray), .bool false, .int .i64 0, .bool false, .bool false]) ?_ 7 _ rfl; (with_reducible repeat (first | refine bN_ ?_ _ | refine bD_ ?_ | refine bA_ ?_ _)); refine blk_put (cs := #[.string (⟨#[]⟩ : ByteArray), .string (⟨#[]⟩ : ByteArray), .slice ASz24_2 ([] : List (S88)).length cSz24_2, .string (⟨#[]⟩ : ByteArray), .string (⟨#[]⟩ : ByteArray), .bool false, .int .i64 0, .bool false, .bool false]) ?_ 6 _ rfl; (with_reducible repeat (first | refine bN_ ?_ _ | refine bD_ ?_ | refine bA_ ?_ _)); refine blk_put (cs := #[.string (⟨#[]⟩ : ByteArray), .string (⟨#[]⟩ : ByteArray), .slice ASz24_2 ([] : List (S88)).length cSz24_2, .string (⟨#[]⟩ : ByteArray), .string (⟨#[]⟩ : ByteArray), .bool false, .int .i64 0, .bool false, .bool false]) ?_ 5 _ rfl; (with_reducible repeat (first | refine bN_ ?_ _ | refine bD_ ?_ | refine bA_ ?_ _)); refine blk_put (cs := #[.string (⟨#[]⟩ : ByteArray), .string (⟨#[]⟩ : ByteArray), .slice ASz24_2 ([] : List (S88)).length cSz24_2, .string (⟨#[]⟩ : ByteArray), .string (⟨#[]⟩ : ByteArray), .bool false, .int .i64 0, .bool false, .bool false]) ?_ 4 _ rfl; (with_reducible repeat (first | refine bN_ ?_ _ | refine bD_ ?_ | refine bA_ ?_ _)); refine blk_put (cs := #[.string (⟨#[]⟩ : ByteArray), .string (⟨#[]⟩ : ByteArray), .slice ASz24_2 ([] : List (S88)).length cSz24_2, .string (⟨#[]⟩ : ByteArray), .string (⟨#[]⟩ : ByteArray), .bool false, .int .i64 0, .bool false, .bool false]) ?_ 3 _ rfl; (with_reducible repeat (first | refine bN_ ?_ _ | refine bD_ ?_ | refine bA_ ?_ _)); refine blk_put (cs := #[.string (⟨#[]⟩ : ByteArray), .string (⟨#[]⟩ : ByteArray), .slice none 0 0, .string (⟨#[]⟩ : ByteArray), .string (⟨#[]⟩ : ByteArray), .bool false, .int .i64 0, .bool false, .bool false]) ?_ 2 _ rfl; (with_reducible repeat (first | refine bN_ ?_ _ | refine bD_ ?_ | refine bA_ ?_ _)); refine blk_put (cs := #[.string (⟨#[]⟩ : ByteArray), .string (⟨#[]⟩ : ByteArray), .slice none 0 0, .string (⟨#[]⟩ : ByteArray), .string (⟨#[]⟩ : ByteArray), .bool false, .int .i64 0, .bool false, .bool false]) ?_ 1 _ rfl; (with_reducible repeat (first | refine bN_ ?_ _ | refine bD_ ?_ | refine bA_ ?_ _)); refine blk_put (cs := #[.string (⟨#[]⟩ : ByteArray), .string (⟨#[]⟩ : ByteArray), .slice none 0 0, .string (⟨#[]⟩ : ByteArray), .string (⟨#[]⟩ : ByteArray), .bool false, .int .i64 0, .bool false, .bool false]) ?_ 0 _ rfl; (with_reducible repeat (first | refine bN_ ?_ _ | refine bD_ ?_ | refine bA_ ?_ _)); exact BK415.1) Tryz.underlying113 rfl (by kernel_rfl)) rfl ?_
     exact ⟨_, q10_, by (with_reducible repeat (first | apply rA_ | apply rN_ | apply rD_)); exact Kd.R_mono (rF_ (p := ⟨gb415, 8, none⟩) (rF_ (p := ⟨gb415, 7, none⟩) (rF_ (p := ⟨gb415, 6, none⟩) (rF_ (p := ⟨gb415, 5, none⟩) (rF_ (p := ⟨gb415, 4, none⟩) (rF_ (p := ⟨gb415, 3, none⟩) (rF_ (p := ⟨gb415, 2, none⟩) (rF_ (p := ⟨gb415, 1, none⟩) (rF_ (p := ⟨gb415, 0, none⟩) (Kd.R_types HO429.1 BK415.1 (by decide)) (fun _ hk => hk.2) (.string (⟨#[]⟩ : ByteArray))) (fun _ hk => hk.2) (.string (⟨#[]⟩ : ByteArray))) (fun _ hk => hk.2) (.slice ASz24_2 ([] : List (S88)).length cSz24_2)) (fun _ hk => hk.2) (.string (⟨#[]⟩ : ByteArray))) (fun _ hk => hk.2) (.string (⟨#[]⟩ : ByteArray))) (fun _ hk => hk.2) (.bool false)) (fun _ hk => hk.2) (.int .i64 0)) (fun _ hk => hk.2) (.bool false)) (fun _ hk => hk.2) (.bool false)) (fun _ hk => trivial), q21_⟩
    ·replace c23 := Bool.eq_false_iff.mpr c23
     subst c23
     rw [if_neg (show ¬ (false = true) by decide)] at H
     by_cases c27 : 0 < (t420.length : Int)
     ·rw [if_pos c27] at H
      have c27b0 : decide (0 < (t420.length : Int)) = true := decide_eq_true c27
      have c27b1 : decide (0 < t420.length) = true := decide_eq_true (by omega)
      clear c27
      by_cases c28 : 1 < (t420.length : Int)
      ·rw [if_pos c28] at H
       have c28b0 : decide (1 < (t420.length : Int)) = true := decide_eq_true c28
       have c28b1 : decide (1 < t420.length) = true := decide_eq_true (by omega)
       clear c28
       by_cases c29 : 1 ≤ (t416.length : Int)
       ·rw [if_pos c29] at H
        have c29b0 := eq_true c29
        have c29b1 : decide (1 ≤ (t416.length : Int)) = true := decide_eq_true c29
        clear c29
        obtain ⟨y432, hy432⟩ : ∃ y_ : List ByteArray, y_ = (t416.drop 1) := ⟨_, rfl⟩
        replace H : (impl_readHead.l0 kj4 t416 y432 (y432.length : Int) 0 (rdOf ByteArray.empty t420 0) (rdOf ByteArray.empty t420 1) ([] : List (S88)) (⟨#[]⟩ : ByteArray) (⟨#[]⟩ : ByteArray) false 0 false false) = some (r1, r2, r3, r4, r5, r6, r7, r8, r9, r10) := by first | (rw [hy432]; with_reducible exact H) | (have H2_ := (Option.bind_some _ _).symm.trans H; rw [hy432]; with_reducible exact H2_) | (have H2_ := (Option.bind_some _ _).symm.trans H; with_reducible exact H2_) | with_reducible exact H | (rw [hy432]; exact H) | exact H
        have Ny432 := Aside0.mk hy432
        clear hy432
        have H' := Aside0.mk H
        clear H
        try go_wp2
        have n0_ := Aside0.mk (rD_ HO_4.1)
        have n1_ := Aside0.mk (rD_ HO_5.1)
        have n2_ := Aside0.mk (bD_ BK415.1)
        have n3_ := Aside0.mk (IsS113.drew HI423.1)
        have n4_ := Aside0.mk (dB_ HB.1)
        clear HO_4 HO_5 BK415 HI423 HB
        have HO_4 := n0_
        have HO_5 := n1_
        have BK415 := n2_
        have HI423 := n3_
        have HB := n4_
        clear n0_ n1_ n2_ n3_ n4_
        obtain ⟨Ao31, co31, eo31⟩ := Kd.R_slice HO_5.1
        (first | subst eo31 | (injection eo31 with f1_ f2_ f3_; have f4_ := f1_.symm; have f5_ := f3_.symm; clear f1_ f2_ f3_; subst f4_; subst f5_))
        have p430 : 0 ≤ (0 : Int) := (by omega)
        have q430 : 0 < (t420.length : Int) := of_decide_eq_true q4_
        obtain ⟨ad430, e430, hx430_0⟩ := Kd.at_string (Kd.R_reads' HO_5.1).2.2 0 p430 q430
        cases e430
        have qi430 : (0 < t420.length) = True := eq_true (by omega)
        (try rw [show ((0 : Int)).toNat = 0 from rfl] at hx430_0)
        (try rw [Addr.add_zero'] at hx430_0)
        replace p430 := eq_true p430
        replace q430 := eq_true q430
        have p431 : 0 ≤ (1 : Int) := (by omega)
        have q431 : 1 < (t420.length : Int) := of_decide_eq_true q4_
        obtain ⟨ad431, e431, hx431_0⟩ := Kd.at_string (Kd.R_reads' HO_5.1).2.2 1 p431 q431
        obtain rfl : ad430 = ad431 := (by injection e431)
        (try simp only [show (1 : Int).toNat = 1 from rfl, Nat.reduceMul, Nat.reduceEqDiff, Go.Addr.add, ↓reduceIte] at hx431_0)
        have qi431 : (1 < t420.length) = True := eq_true (by omega)
        (try rw [show ((1 : Int)).toNat = 1 from rfl] at hx431_0)
        replace p431 := eq_true p431
        replace q431 := eq_true q431
        refine start_ (n := 12) (S := fun w' => w'.cell? ad430 = some (.string (rdOf ByteArray.empty t420 0)) ∧ w'.cell? ⟨ad430.block, ad430.off + 1, none⟩ = some (.string (rdOf ByteArray.empty t420 1))) (ds := []) #[false, false, false, false, false, false, false, false, false, false, false, false] (by kernel_rfl) rfl rfl ⟨hx430_0, hx431_0⟩ (fun hHeld => ?_); refine with_tabW impl_readHead.tab6 impl_readHead.bits6 (fun HT_ HW_ => ?_)
        generalize wc.drew = w30 at HO_4 HO_5 BK415 HI423 HB hx430_0 hx431_0 hHeld ⊢
        refine pure_ (i := 0) (N := some 35) (v := ?_) (a' := ?_) #[true, false, false, false, false, false, false, false, false, false, false, false] rfl rfl (any_of HT_.1 (by kernel_rfl)) (fun _ _ _ h => h) (Or.inl ⟨by rfl, ?_⟩) ?_ ?_
        rotate_left
        ·intro w'
         go_simp
         with_reducible rfl
        rotate_left
        ·simp only [Act.put, List.setIfInBounds_toArray, List.set_cons_zero, List.set_cons_succ, i64_w, i32_w]
         rfl
        refine pure_ (i := 1) (N := some 36) (v := ?_) (a' := ?_) #[true, true, false, false, false, false, false, false, false, false, false, false] rfl rfl (any_of HT_.1 (by kernel_rfl)) (fun _ _ _ h => h) (Or.inl ⟨by rfl, ?_⟩) ?_ ?_
        rotate_left
        ·intro w'
         go_simp
         with_reducible rfl
        rotate_left
        ·simp only [Act.put, List.setIfInBounds_toArray, List.set_cons_zero, List.set_cons_succ, i64_w, i32_w]
         rfl
        refine pure_ (i := 3) (N := some 38) (v := ?_) (a' := ?_) #[true, true, false, true, false, false, false, false, false, false, false, false] rfl rfl (any_of HT_.1 (by kernel_rfl)) (fun _ _ _ h => h) (Or.inl ⟨by rfl, ?_⟩) ?_ ?_
        rotate_left
        ·intro w'
         go_simp
         with_reducible rfl
        rotate_left
        ·simp only [Act.put, List.setIfInBounds_toArray, List.set_cons_zero, List.set_cons_succ, i64_w, i32_w]
         rfl
        refine pure_ (i := 4) (N := some 39) (v := ?_) (a' := ?_) #[true, true, false, true, true, false, false, false, false, false, false, false] rfl rfl (any_of HT_.1 (by kernel_rfl)) (fun _ _ _ h => h) (Or.inl ⟨by rfl, ?_⟩) ?_ ?_
        rotate_left
        ·intro w'
         go_simp
         with_reducible rfl
        rotate_left
        ·simp only [Act.put, List.setIfInBounds_toArray, List.set_cons_zero, List.set_cons_succ, i64_w, i32_w]
         rfl
        refine take_ (i := 2) (N := some 37) (v := ?_) (a' := ?_) #[true, true, true, true, true, false, false, false, false, false, false, false] rfl rfl (take_ofW HT_.1 HW_.1 (by kernel_rfl)) (fun _ _ _ h => h) (Or.inl ⟨by rfl, ?_⟩) hHeld ?_ ?_
        rotate_left
        ·rintro w' ⟨s0, s1⟩
         go_simp
         with_reducible rfl
        rotate_left
        ·simp only [Act.put, List.setIfInBounds_toArray, List.set_cons_zero, List.set_cons_succ, i64_w, i32_w]
         rfl
        refine take_ (i := 5) (N := some 40) (v := ?_) (a' := ?_) #[true, true, true, true, true, true, false, false, false, false, false, false] rfl rfl (take_ofW HT_.1 HW_.1 (by kernel_rfl)) (fun _ _ _ h => h) (Or.inl ⟨by rfl, ?_⟩) hHeld ?_ ?_
        rotate_left
        ·rintro w' ⟨s0, s1⟩
         go_simp
         with_reducible rfl
        rotate_left
        ·simp only [Act.put, List.setIfInBounds_toArray, List.set_cons_zero, List.set_cons_succ, i64_w, i32_w]
         rfl
        refine pure_ (i := 6) (N := some 41) (v := ?_) (a' := ?_) #[true, true, true, true, true, true, true, false, false, false, false, false] rfl rfl (any_of HT_.1 (by kernel_rfl)) (fun _ _ _ h => h) (Or.inl ⟨by rfl, ?_⟩) ?_ ?_
        rotate_left
        ·intro w'
         go_simp
         with_reducible rfl
        rotate_left
        ·simp only [Act.put, List.setIfInBounds_toArray, List.set_cons_zero, List.set_cons_succ, i64_w, i32_w]
         rfl
        refine pure_ (i := 7) (N := some 42) (v := ?_) (a' := ?_) #[true, true, true, true, true, true, true, true, false, false, false, false] rfl rfl (any_of HT_.1 (by kernel_rfl)) (fun _ _ _ h => h) (Or.inl ⟨by rfl, ?_⟩) ?_ ?_
        rotate_left
        ·intro w'
         go_simp
         with_reducible rfl
        rotate_left
        ·simp only [Act.put, List.setIfInBounds_toArray, List.set_cons_zero, List.set_cons_succ, i64_w, i32_w]
         rfl
        refine one_ (i := 8) (N := none) #[true, true, true, true, true, true, true, true, true, false, false, false] rfl rfl (one_of HT_.1 (by kernel_rfl)) (by decide) (fun K hK => ?_)
        obtain ⟨ASs32_2, cSs32_2, HGs32, hgs32, HSs32_2⟩ := HI423.1
        have hs32 := cellS113_0 HGs32
        have hfs32 := bF_ HGs32 0
        clear HGs32 hgs32
        refine skip_ (w1 := ?_) (by rfl) rfl ?_ ?_
        rotate_left
        ·go_simp
         rfl
        refine hK.out _ _ ⟨((cell_far (p := ⟨gb423, _, none⟩) q52_ _).trans (hHeld.1)), ((cell_far (p := ⟨gb423, _, none⟩) q52_ _).trans (hHeld.2))⟩ (fun hHeld => ?_)
        clear hK K
        refine pure_ (i := 9) (N := some 43) (v := ?_) (a' := ?_) #[true, true, true, true, true, true, true, true, true, true, false, false] rfl rfl (any_of HT_.1 (by kernel_rfl)) (fun _ _ _ h => h) (Or.inl ⟨by rfl, ?_⟩) ?_ ?_
        rotate_left
        ·intro w'
         go_simp
         with_reducible rfl
        rotate_left
        ·simp only [Act.put, List.setIfInBounds_toArray, List.set_cons_zero, List.set_cons_succ, i64_w, i32_w]
         rfl
        refine pure_ (i := 10) (N := some 44) (v := ?_) (a' := ?_) #[true, true, true, true, true, true, true, true, true, true, true, false] rfl rfl (any_of HT_.1 (by kernel_rfl)) (fun _ _ _ h => h) (Or.inl ⟨by rfl, ?_⟩) ?_ ?_
        rotate_left
        ·intro w'
         go_simp
         with_reducible rfl
        rotate_left
        ·simp only [Act.put, List.setIfInBounds_toArray, List.set_cons_zero, List.set_cons_succ, i64_w, i32_w]
         rfl
        refine one_ (i := 11) (N := none) #[true, true, true, true, true, true, true, true, true, true, true, true] rfl rfl (one_of HT_.1 (by kernel_rfl)) (by decide) (fun K hK => ?_)
        obtain ⟨ASs33_2, cSs33_2, HGs33, hgs33, HSs33_2⟩ := HI423.1
        have hs33 := cellS113_1 HGs33
        have hfs33 := bF_ HGs33 1
        clear HGs33 hgs33
        refine skip_ (w1 := ?_) (by rfl) rfl ?_ ?_
        rotate_left
        ·go_simp
         rfl
        refine hK.out _ _ ⟨((cell_far (p := ⟨gb423, _, none⟩) q52_ _).trans (hHeld.1)), ((cell_far (p := ⟨gb423, _, none⟩) q52_ _).trans (hHeld.2))⟩ (fun hHeld => ?_)
        clear hK K
        refine done_ (done_of HT_.1 (by kernel_rfl)) ?_
        have n0_ : Aside0 (Kd.R Kd.string 9 ((w30.setCell ⟨gb423, 0, none⟩ (.string (rdOf ByteArray.empty t420 0))).setCell ⟨gb423, 1, none⟩ (.string (rdOf ByteArray.empty t420 1))) w.heap.size (fun k_ => some k_ ≠ (.slice (some ad430) t420.length co31 : Value).ownBlock) (.slice (some ad419) t416.length co8) t416) := ⟨by (with_reducible repeat (first | apply rA_ | apply rN_ | apply rD_)); exact Kd.R_mono (rF_ (p := ⟨gb423, 1, none⟩) (rF_ (p := ⟨gb423, 0, none⟩) (IsS113.apart HI423.1 HO_4.1 (by decide)) (fun _ hk => hk.2) (.string (rdOf ByteArray.empty t420 0))) (fun _ hk => hk.2) (.string (rdOf ByteArray.empty t420 1))) (fun _ hk => hk.1)⟩
        have n1_ : Aside0 (Kd.R Kd.string 9 ((w30.setCell ⟨gb423, 0, none⟩ (.string (rdOf ByteArray.empty t420 0))).setCell ⟨gb423, 1, none⟩ (.string (rdOf ByteArray.empty t420 1))) w.heap.size (fun k_ => some k_ ≠ (.slice (some ad419) t416.length co8 : Value).ownBlock) (.slice (some ad430) t420.length co31) t420) := ⟨by (with_reducible repeat (first | apply rA_ | apply rN_ | apply rD_)); exact Kd.R_mono (rF_ (p := ⟨gb423, 1, none⟩) (rF_ (p := ⟨gb423, 0, none⟩) (IsS113.apart HI423.1 HO_5.1 (by decide)) (fun _ hk => hk.2) (.string (rdOf ByteArray.empty t420 0))) (fun _ hk => hk.2) (.string (rdOf ByteArray.empty t420 1))) (fun _ hk => hk.1)⟩
        have n2_ : Aside0 (((w30.setCell ⟨gb423, 0, none⟩ (.string (rdOf ByteArray.empty t420 0))).setCell ⟨gb423, 1, none⟩ (.string (rdOf ByteArray.empty t420 1))).heap[gb415]? = some (.cells #[.string (⟨#[]⟩ : ByteArray), .string (⟨#[]⟩ : ByteArray), .slice none 0 0, .string (⟨#[]⟩ : ByteArray), .string (⟨#[]⟩ : ByteArray), .bool false, .int .i64 0, .bool false, .bool false] 113 (0, 0))) := ⟨by (with_reducible repeat (first | refine bN_ ?_ _ | refine bD_ ?_ | refine bA_ ?_ _)); refine blk_far ?_ NB415_423.1 _; (with_reducible repeat (first | refine bN_ ?_ _ | refine bD_ ?_ | refine bA_ ?_ _)); refine blk_far ?_ NB415_423.1 _; (with_reducible repeat (first | refine bN_ ?_ _ | refine bD_ ?_ | refine bA_ ?_ _)); exact BK415.1⟩
        have n3_ : Aside0 (IsS113 w ((w30.setCell ⟨gb423, 0, none⟩ (.string (rdOf ByteArray.empty t420 0))).setCell ⟨gb423, 1, none⟩ (.string (rdOf ByteArray.empty t420 1))) gb423 (rdOf ByteArray.empty t420 0) (rdOf ByteArray.empty t420 1) ([] : List (S88)) (⟨#[]⟩ : ByteArray) (⟨#[]⟩ : ByteArray) false 0 false false) := ⟨q22_⟩
        have n4_ : Aside0 (Below w.heap.size w ((w30.setCell ⟨gb423, 0, none⟩ (.string (rdOf ByteArray.empty t420 0))).setCell ⟨gb423, 1, none⟩ (.string (rdOf ByteArray.empty t420 1)))) := ⟨q21_⟩
        (try clear HO_4)
        (try clear HO_5)
        (try clear BK415)
        (try clear HI423)
        (try clear HB)
        generalize ((w30.setCell ⟨gb423, 0, none⟩ (.string (rdOf ByteArray.empty t420 0))).setCell ⟨gb423, 1, none⟩ (.string (rdOf ByteArray.empty t420 1))) = w34 at n0_ n1_ n2_ n3_ n4_ ⊢
        have HO_4 := n0_
        have HO_5 := n1_
        have BK415 := n2_
        have HI423 := n3_
        have HB := n4_
        clear n0_ n1_ n2_ n3_ n4_
        have q35 : (1 : Int) ≤ ((t416.length : Int) : Int) := of_decide_eq_true q4_
        obtain ⟨i035, hi035, _, hsz35, _⟩ := info_parts info9
        have hroom35 : t416.length ≤ co8 := (Kd.R_reads' HO_4.1).2.1
        have hC35 : Kd.C Kd.string _ (some ad419) t416.length t416 := (Kd.R_reads' HO_4.1).2.2
        have hcut35 := cut_from (P := Tryz.prog) 83 9 .i64 Tryz.underlying83 hi035 1 hsz35 (some ad419) t416.length co8 1 (by omega) q35
        have hr35 := Kd.C_drop (m := (1 : Int).toNat) (c := co8) hC35 (by omega) hroom35
        obtain ⟨A35, hA35⟩ : ∃ A1, A1 = (if co8 = (1 : Int).toNat then (some ad419) else ((some ad419) : Option Addr).map (·.add ((1 : Int).toNat * 1))) := ⟨_, rfl⟩
        obtain ⟨c35, hc35⟩ : ∃ c1, c1 = co8 - (1 : Int).toNat := ⟨_, rfl⟩
        have hy35 : y432.length = t416.length - (1 : Int).toNat := (by rw [Ny432.1, List.length_drop] <;> omega)
        rw [show (t416).drop (1 : Int).toNat = y432 from Ny432.1.symm] at hr35
        replace hr35 : Kd.C Kd.string _ A35 y432.length y432 := (by rw [hA35]; exact hr35)
        rw [← hy35, ← hA35, ← hc35] at hcut35
        have HR435 := Aside0.mk hr35
        have HC435 := Aside0.mk (show y432.length ≤ c35 from by rw [hy35, hc35]; exact Nat.sub_le_sub_right hroom35 _)
        clear hr35 hC35 hroom35 hi035 hsz35 hc35
        have KY35 := Aside0.mk hy35
        have KA35 := Aside0.mk hA35
        clear hy35 hA35
        have KL35 := Aside0.mk (show 1 ≤ t416.length from by omega)
        replace q35 := eq_true q35
        try go_wp2
        go_loopg [48] kj4 (fun kq v48 w' => ∃ (x48_2 : Int) (x424000_2 : ByteArray) (x424001_2 : ByteArray) (x424002_2 : List (S88)) (x424003_2 : ByteArray) (x424004_2 : ByteArray) (x424005_2 : Bool) (x424006_2 : Int) (x424007_2 : Bool) (x424008_2 : Bool), v48 = .int .i64 x48_2 ∧ Aside0 (impl_readHead.l0 kq t416 y432 (y432.length : Int) x48_2 x424000_2 x424001_2 x424002_2 x424003_2 x424004_2 x424005_2 x424006_2 x424007_2 x424008_2 = some (r1, r2, r3, r4, r5, r6, r7, r8, r9, r10)) ∧ Aside0 (kq ≤ kj4) ∧ Aside0 (Kd.R Kd.string 9 w' w.heap.size (fun _ => True) (.slice (some ad419) t416.length co8) t416) ∧ Aside0 (w'.heap[gb415]? = some (.cells #[.string (⟨#[]⟩ : ByteArray), .string (⟨#[]⟩ : ByteArray), (.slice none 0 0), .string (⟨#[]⟩ : ByteArray), .string (⟨#[]⟩ : ByteArray), .bool false, .int .i64 0, .bool false, .bool false] 113 (0, 0))) ∧ Aside0 (Kd.C Kd.string w' A35 y432.length y432) ∧ Aside0 (IsS113 w w' gb423 x424000_2 x424001_2 x424002_2 x424003_2 x424004_2 x424005_2 x424006_2 x424007_2 x424008_2) ∧ Aside0 (Below w.heap.size w w'))
        case atStart => exact ⟨(0), (rdOf ByteArray.empty t420 0), (rdOf ByteArray.empty t420 1), (([] : List (S88))), ((⟨#[]⟩ : ByteArray)), ((⟨#[]⟩ : ByteArray)), (false), (0), (false), (false), q3_, H', ⟨Nat.le_refl _⟩, ⟨by (with_reducible repeat (first | apply rA_ | apply rN_ | apply rD_)); exact Kd.R_mono HO_4.1 (fun _ hk => trivial)⟩, ⟨q43_⟩, ⟨q76_⟩, ⟨q22_⟩, ⟨q21_⟩⟩
        case round =>
         clear H'
         try clear c1
         try clear c2
         try clear p2
         try clear c3
         try clear c3b0
         try clear c3b1
         try clear q3
         try clear p4
         try clear q4
         try clear hx4
         try clear qi4
         try clear c7
         try clear c10
         try clear c11
         try clear c11b0
         try clear c11b1
         try clear c12
         try clear c12b0
         try clear c12b1
         try clear c13
         try clear c13b0
         try clear c13b1
         try clear c14
         try clear c14b0
         try clear c14b1
         try clear c15
         try clear c15b0
         try clear c15b1
         try clear c23
         try clear c25
         try clear c27
         try clear c27b0
         try clear c27b1
         try clear c28
         try clear c28b0
         try clear c28b1
         try clear c29
         try clear c29b0
         try clear c29b1
         try clear c35
         try clear q35
         try clear hcz24_0
         try clear hcz24_1
         try clear hcz24_2
         try clear hcz24_3
         try clear hcz24_4
         try clear hcz24_5
         try clear hcz24_6
         try clear hcz24_7
         try clear hcz24_8
         try clear hcz26_0
         try clear hcz26_1
         try clear hcz26_2
         try clear hcz26_3
         try clear hcz26_4
         try clear hcz26_5
         try clear hcz26_6
         try clear hcz26_7
         try clear hcz26_8
         try clear hfz24_0
         try clear hfz24_1
         try clear hfz24_2
         try clear hfz24_3
         try clear hfz24_4
         try clear hfz24_5
         try clear hfz24_6
         try clear hfz24_7
         try clear hfz24_8
         try clear hfz26_0
         try clear hfz26_1
         try clear hfz26_2
         try clear hfz26_3
         try clear hfz26_4
         try clear hfz26_5
         try clear hfz26_6
         try clear hfz26_7
         try clear hfz26_8
         try clear hx419_0
         try clear hx424_0
         try clear hx425_0
         try clear hx426_0
         try clear hx430_0
         try clear hx431_0
         try clear p2
         try clear p4
         try clear p419
         try clear p424
         try clear p425
         try clear p426
         try clear p430
         try clear p431
         try clear q35
         try clear q4
         try clear q419
         try clear q424
         try clear q425
         try clear q426
         try clear q430
         try clear q431
         obtain ⟨x48_2, x424000_2, x424001_2, x424002_2, x424003_2, x424004_2, x424005_2, x424006_2, x424007_2, x424008_2, rfl, HA, HK2, HO_4, BK415, HR435, HI423, HB⟩ := hrel
         cases gk with
         | zero => exact absurd HA.1 (by simp [impl_readHead.l0])
         | succ k2 =>
          have H := HA.1
          clear HA
          simp only [impl_readHead.l0] at H
          by_cases c36 : x48_2 < (y432.length : Int)
          ·rw [if_pos c36] at H
           have c36b0 : decide (x48_2 < (y432.length : Int)) = true := decide_eq_true c36
           clear c36
           by_cases c37 : 0 ≤ x48_2
           ·rw [if_pos c37] at H
            have c37b0 : decide (0 ≤ x48_2) = true := decide_eq_true c37
            clear c37
            by_cases c38 : x48_2 < (y432.length : Int)
            ·rw [if_pos c38] at H
             have c38b0 : decide (x48_2 < (y432.length : Int)) = true := decide_eq_true c38
             clear c38
             replace H := Option.bind_eq_some_iff.mp H
             obtain ⟨⟨t437, t438, t439, t440, t441, t442, t443, t444, t445⟩, A390, H⟩ := H
             replace H : (impl_readHead.l0 k2 t416 y432 (y432.length : Int) (wrap64 (x48_2 + 1)) t437 t438 t439 t440 t441 t442 t443 t444 t445) = some (r1, r2, r3, r4, r5, r6, r7, r8, r9, r10) := H
             have A39 := Aside0.mk A390
             clear A390
             have H' := Aside0.mk H
             clear H
             have p436 : 0 ≤ (x48_2 : Int) := of_decide_eq_true q4_
             have q436 : x48_2 < (y432.length : Int) := of_decide_eq_true q4_
             obtain ⟨ad436, e436, hx436_0⟩ := Kd.at_string q76_ x48_2 p436 q436
             cases e436
             replace p436 := eq_true p436
             replace q436 := eq_true q436
             go_wp2_with (first | ((with_reducible refine gate_callee (f := 143) rfl ?_); refine goesL_ (some 53) rfl rfl Tryz.func143 (by kernel_rfl) rfl #[.pointer (some ⟨gb423, 0, none⟩), .string (rdOf ByteArray.empty y432 x48_2)] rfl q2_ ?_; (with_reducible refine (impl_reqHead_line.calls k2 gb423 x424000_2 x424001_2 x424002_2 x424003_2 x424004_2 x424005_2 x424006_2 x424007_2 x424008_2 (rdOf ByteArray.empty y432 x48_2) t437 t438 t439 t440 t441 t442 t443 t444 t445 w _ ?side1 ?side2 A39.1 ?side99).mono ?_); (case side1 => exact q22_); (case side2 => exact q21_); (case side99 => exact q72_); rintro e w40 ⟨rfl, hi, hb, hk⟩; refine ⟨_, rfl, ?_⟩; have n0_ := Aside0.mk (Kd.R_mono (R_keepG (IsS113.apart (show IsS113 w _ gb423 x424000_2 x424001_2 x424002_2 x424003_2 x424004_2 x424005_2 x424006_2 x424007_2 x424008_2 from by repeat (first | (with_reducible first | exact HI423.1 | apply IsS113.alloc | apply IsS113.drewN | apply IsS113.drew | apply IsS113.set_0 | apply IsS113.set_1 | apply IsS113.set_3 | apply IsS113.set_4 | apply IsS113.set_5 | apply IsS113.set_6 | apply IsS113.set_7 | apply IsS113.set_8 | refine IsS113.far ?_ NB423_415.1 _) | exact HI423.1)) q12_ (by decide)) hk (fun _ h => h.2) (by decide)) (fun _ h => h.1)); have n1_ := Aside0.mk (KeptG.blk hk q43_ NB415_423.1 (by decide)); have n2_ := Aside0.mk ((show Kd.C Kd.string w40 (some ad436) y432.length y432 from by rw [Ny432.1, KA35.1]; exact Kd.C_drop (m := 1) (c := co8) ((Kd.R_reads' (Kd.R_mono (R_keepG (IsS113.apart (show IsS113 w _ gb423 x424000_2 x424001_2 x424002_2 x424003_2 x424004_2 x424005_2 x424006_2 x424007_2 x424008_2 from by repeat (first | (with_reducible first | exact HI423.1 | apply IsS113.alloc | apply IsS113.drewN | apply IsS113.drew | apply IsS113.set_0 | apply IsS113.set_1 | apply IsS113.set_3 | apply IsS113.set_4 | apply IsS113.set_5 | apply IsS113.set_6 | apply IsS113.set_7 | apply IsS113.set_8 | refine IsS113.far ?_ NB423_415.1 _) | exact HI423.1)) q12_ (by decide)) hk (fun _ h => h.2) (by decide)) (fun _ h => h.1))).2.2) KL35.1 ((Kd.R_reads' (Kd.R_mono (R_keepG (IsS113.apart (show IsS113 w _ gb423 x424000_2 x424001_2 x424002_2 x424003_2 x424004_2 x424005_2 x424006_2 x424007_2 x424008_2 from by repeat (first | (with_reducible first | exact HI423.1 | apply IsS113.alloc | apply IsS113.drewN | apply IsS113.drew | apply IsS113.set_0 | apply IsS113.set_1 | apply IsS113.set_3 | apply IsS113.set_4 | apply IsS113.set_5 | apply IsS113.set_6 | apply IsS113.set_7 | apply IsS113.set_8 | refine IsS113.far ?_ NB423_415.1 _) | exact HI423.1)) q12_ (by decide)) hk (fun _ h => h.2) (by decide)) (fun _ h => h.1))).2.1))); have n3_ := Aside0.mk (hb); have n4_ := Aside0.mk (hi); clear HO_4 BK415; clear HR435 HB HI423; have HO_4 := n0_; have BK415 := n1_; have HR435 := n2_; have HB := n3_; have HI423 := n4_; clear n0_ n1_ n2_ n3_ n4_; (try clear hb); (try clear hb2); (try clear hk); (try clear hi)))
             go_roundg k2
             case measure => have := HJ4.1; have := HK2.1; omega
             case rel => exact ⟨(wrap64 (x48_2 + 1)), (t437), (t438), (t439), (t440), (t441), (t442), (t443), (t444), (t445), q3_, H', ⟨by have := HJ4.1; have := HK2.1; omega⟩, ⟨by (with_reducible repeat (first | apply rA_ | apply rN_ | apply rD_)); first | exact HO_4.1 | exact Kd.R_mono HO_4.1 (fun k_ h_ e_ => h_ (e_.trans (ob_len _ _ _ _ _)))⟩, ⟨q43_⟩, ⟨q76_⟩, ⟨q22_⟩, ⟨q21_⟩⟩
            ·rw [if_neg c38] at H
             exact absurd H (by simp)
           ·rw [if_neg c37] at H
            exact absurd H (by simp)
          ·rw [if_neg c36] at H
           have c36b0 : decide (x48_2 < (y432.length : Int)) = false := decide_eq_false c36
           clear c36
           by_cases c41 : x424008_2 = true
           ·subst c41
            rw [if_pos rfl] at H
            simp only [Option.some.injEq, Prod.mk.injEq] at H
            obtain ⟨rfl, rfl, rfl, rfl, rfl, rfl, rfl, rfl, rfl, rfl⟩ := H
            obtain ⟨ASz42_2, cSz42_2, HGz42, hgz42, HSz42_2⟩ := HI423.1
            have hcz42_0 := cellS113_0 HGz42
            have hcz42_1 := cellS113_1 HGz42
            have hcz42_2 := cellS113_2 HGz42
            have hcz42_3 := cellS113_3 HGz42
            have hcz42_4 := cellS113_4 HGz42
            have hcz42_5 := cellS113_5 HGz42
            have hcz42_6 := cellS113_6 HGz42
            have hcz42_7 := cellS113_7 HGz42
            have hcz42_8 := cellS113_8 HGz42
            have hfz42_0 := bF_ HGz42 0
            have hfz42_1 := bF_ HGz42 1
            have hfz42_2 := bF_ HGz42 2
            have hfz42_3 := bF_ HGz42 3
            have hfz42_4 := bF_ HGz42 4
            have hfz42_5 := bF_ HGz42 5
            have hfz42_6 := bF_ HGz42 6
            have hfz42_7 := bF_ HGz42 7
            have hfz42_8 := bF_ HGz42 8
            clear HGz42 hgz42
            have HO447 := Aside0.mk HSz42_2
            have hnb43 := NB415_423.1
            have hnc43 := NB423_415.1
            have hcz44_0 : wr.cell? ⟨gb415, 0, none⟩ = some (.string (⟨#[]⟩ : ByteArray)) := (bc_ BK415.1 0).trans rfl
            have hcz44_1 : wr.cell? ⟨gb415, 1, none⟩ = some (.string (⟨#[]⟩ : ByteArray)) := (bc_ BK415.1 1).trans rfl
            have hcz44_2 : wr.cell? ⟨gb415, 2, none⟩ = some (.slice none 0 0) := (bc_ BK415.1 2).trans rfl
            have hcz44_3 : wr.cell? ⟨gb415, 3, none⟩ = some (.string (⟨#[]⟩ : ByteArray)) := (bc_ BK415.1 3).trans rfl
            have hcz44_4 : wr.cell? ⟨gb415, 4, none⟩ = some (.string (⟨#[]⟩ : ByteArray)) := (bc_ BK415.1 4).trans rfl
            have hcz44_5 : wr.cell? ⟨gb415, 5, none⟩ = some (.bool false) := (bc_ BK415.1 5).trans rfl
            have hcz44_6 : wr.cell? ⟨gb415, 6, none⟩ = some (.int .i64 0) := (bc_ BK415.1 6).trans rfl
            have hcz44_7 : wr.cell? ⟨gb415, 7, none⟩ = some (.bool false) := (bc_ BK415.1 7).trans rfl
            have hcz44_8 : wr.cell? ⟨gb415, 8, none⟩ = some (.bool false) := (bc_ BK415.1 8).trans rfl
            have hfz44_0 := bF_ BK415.1 0
            have hfz44_1 := bF_ BK415.1 1
            have hfz44_2 := bF_ BK415.1 2
            have hfz44_3 := bF_ BK415.1 3
            have hfz44_4 := bF_ BK415.1 4
            have hfz44_5 := bF_ BK415.1 5
            have hfz44_6 := bF_ BK415.1 6
            have hfz44_7 := bF_ BK415.1 7
            have hfz44_8 := bF_ BK415.1 8
            go_wp2
            refine bodyPost_ret (results_ct rfl _ _ gb415 113 #[.string x424000_2, .string x424001_2, .slice ASz42_2 x424002_2.length cSz42_2, .string x424003_2, .string x424004_2, .bool x424005_2, .int .i64 x424006_2, .bool x424007_2, .bool true] (0, 0) _ rfl (by (with_reducible repeat (first | refine bN_ ?_ _ | refine bD_ ?_ | refine bA_ ?_ _)); refine blk_put (cs := #[.string x424000_2, .string x424001_2, .slice ASz42_2 x424002_2.length cSz42_2, .string x424003_2, .string x424004_2, .bool x424005_2, .int .i64 x424006_2, .bool x424007_2, .bool false]) ?_ 8 _ rfl; (with_reducible repeat (first | refine bN_ ?_ _ | refine bD_ ?_ | refine bA_ ?_ _)); refine blk_put (cs := #[.string x424000_2, .string x424001_2, .slice ASz42_2 x424002_2.length cSz42_2, .string x424003_2, .string x424004_2, .bool x424005_2, .int .i64 x424006_2, .bool false, .bool false]) ?_ 7 _ rfl; (with_reducible repeat (first | refine bN_ ?_ _ | refine bD_ ?_ | refine bA_ ?_ _)); refine blk_put (cs := #[.string x424000_2, .string x424001_2, .slice ASz42_2 x424002_2.length cSz42_2, .string x424003_2, .string x424004_2, .bool x424005_2, .int .i64 0, .bool false, .bool false]) ?_ 6 _ rfl; (with_reducible repeat (first | refine bN_ ?_ _ | refine bD_ ?_ | refine bA_ ?_ _)); refine blk_put (cs := #[.string x424000_2, .string x424001_2, .slice ASz42_2 x424002_2.length cSz42_2, .string x424003_2, .string x424004_2, .bool false, .int .i64 0, .bool false, .bool false]) ?_ 5 _ rfl; (with_reducible repeat (first | refine bN_ ?_ _ | refine bD_ ?_ | refine bA_ ?_ _)); refine blk_put (cs := #[.string x424000_2, .string x424001_2, .slice ASz42_2 x424002_2.length cSz42_2, .string x424003_2, .string (⟨#[]⟩ : ByteArray), .bool false, .int .i64 0, .bool false, .bool false]) ?_ 4 _ rfl; (with_reducible repeat (first | refine bN_ ?_ _ | refine bD_ ?_ | refine bA_ ?_ _)); refine blk_put (cs := #[.string x424000_2, .string x424001_2, .slice ASz42_2 x424002_2.length cSz42_2, .string (⟨#[]⟩ : ByteArray), .string (⟨#[]⟩ : ByteArray), .bool false, .int .i64 0, .bool false, .bool false]) ?_ 3 _ rfl; (with_reducible repeat (first | refine bN_ ?_ _ | refine bD_ ?_ | refine bA_ ?_ _)); refine blk_put (cs := #[.string x424000_2, .string x424001_2, .slice none 0 0, .string (⟨#[]⟩ : ByteArray), .string (⟨#[]⟩ : ByteArray), .bool false, .int .i64 0, .bool false, .bool false]) ?_ 2 _ rfl; (with_reducible repeat (first | refine bN_ ?_ _ | refine bD_ ?_ | refine bA_ ?_ _)); refine blk_put (cs := #[.string x424000_2, .string (⟨#[]⟩ : ByteArray), .slice none 0 0, .string (⟨#[]⟩ : ByteArray), .string (⟨#[]⟩ : ByteArray), .bool false, .int .i64 0, .bool false, .bool false]) ?_ 1 _ rfl; (with_reducible repeat (first | refine bN_ ?_ _ | refine bD_ ?_ | refine bA_ ?_ _)); refine blk_put (cs := #[.string (⟨#[]⟩ : ByteArray), .string (⟨#[]⟩ : ByteArray), .slice none 0 0, .string (⟨#[]⟩ : ByteArray), .string (⟨#[]⟩ : ByteArray), .bool false, .int .i64 0, .bool false, .bool false]) ?_ 0 _ rfl; (with_reducible repeat (first | refine bN_ ?_ _ | refine bD_ ?_ | refine bA_ ?_ _)); exact BK415.1) Tryz.underlying113 rfl (by kernel_rfl)) rfl ?_
            exact ⟨_, q10_, by (with_reducible repeat (first | apply rA_ | apply rN_ | apply rD_)); exact Kd.R_mono (rF_ (p := ⟨gb415, 8, none⟩) (rF_ (p := ⟨gb415, 7, none⟩) (rF_ (p := ⟨gb415, 6, none⟩) (rF_ (p := ⟨gb415, 5, none⟩) (rF_ (p := ⟨gb415, 4, none⟩) (rF_ (p := ⟨gb415, 3, none⟩) (rF_ (p := ⟨gb415, 2, none⟩) (rF_ (p := ⟨gb415, 1, none⟩) (rF_ (p := ⟨gb415, 0, none⟩) (Kd.R_types HO447.1 BK415.1 (by decide)) (fun _ hk => hk.2) (.string x424000_2)) (fun _ hk => hk.2) (.string x424001_2)) (fun _ hk => hk.2) (.slice ASz42_2 x424002_2.length cSz42_2)) (fun _ hk => hk.2) (.string x424003_2)) (fun _ hk => hk.2) (.string x424004_2)) (fun _ hk => hk.2) (.bool x424005_2)) (fun _ hk => hk.2) (.int .i64 x424006_2)) (fun _ hk => hk.2) (.bool x424007_2)) (fun _ hk => hk.2) (.bool true)) (fun _ hk => trivial), q21_⟩
           ·replace c41 := Bool.eq_false_iff.mpr c41
            subst c41
            rw [if_neg (show ¬ (false = true) by decide)] at H
            by_cases c45 : (x424002_2.length : Int) > 8
            ·rw [if_pos c45] at H
             have c45b0 : decide (8 < (x424002_2.length : Int)) = true := decide_eq_true c45
             have c45b1 : decide (8 < x424002_2.length) = true := decide_eq_true (by omega)
             clear c45
             simp only [Option.some.injEq, Prod.mk.injEq] at H
             obtain ⟨rfl, rfl, rfl, rfl, rfl, rfl, rfl, rfl, rfl, rfl⟩ := H
             obtain ⟨ASz46_2, cSz46_2, HGz46, hgz46, HSz46_2⟩ := HI423.1
             have hcz46_0 := cellS113_0 HGz46
             have hcz46_1 := cellS113_1 HGz46
             have hcz46_2 := cellS113_2 HGz46
             have hcz46_3 := cellS113_3 HGz46
             have hcz46_4 := cellS113_4 HGz46
             have hcz46_5 := cellS113_5 HGz46
             have hcz46_6 := cellS113_6 HGz46
             have hcz46_7 := cellS113_7 HGz46
             have hcz46_8 := cellS113_8 HGz46
             have hfz46_0 := bF_ HGz46 0
             have hfz46_1 := bF_ HGz46 1
             have hfz46_2 := bF_ HGz46 2
             have hfz46_3 := bF_ HGz46 3
             have hfz46_4 := bF_ HGz46 4
             have hfz46_5 := bF_ HGz46 5
             have hfz46_6 := bF_ HGz46 6
             have hfz46_7 := bF_ HGz46 7
             have hfz46_8 := bF_ HGz46 8
             clear HGz46 hgz46
             have HO449 := Aside0.mk HSz46_2
             have hnb47 := NB415_423.1
             have hnc47 := NB423_415.1
             have hcz48_0 : wr.cell? ⟨gb415, 0, none⟩ = some (.string (⟨#[]⟩ : ByteArray)) := (bc_ BK415.1 0).trans rfl
             have hcz48_1 : wr.cell? ⟨gb415, 1, none⟩ = some (.string (⟨#[]⟩ : ByteArray)) := (bc_ BK415.1 1).trans rfl
             have hcz48_2 : wr.cell? ⟨gb415, 2, none⟩ = some (.slice none 0 0) := (bc_ BK415.1 2).trans rfl
             have hcz48_3 : wr.cell? ⟨gb415, 3, none⟩ = some (.string (⟨#[]⟩ : ByteArray)) := (bc_ BK415.1 3).trans rfl
             have hcz48_4 : wr.cell? ⟨gb415, 4, none⟩ = some (.string (⟨#[]⟩ : ByteArray)) := (bc_ BK415.1 4).trans rfl
             have hcz48_5 : wr.cell? ⟨gb415, 5, none⟩ = some (.bool false) := (bc_ BK415.1 5).trans rfl
             have hcz48_6 : wr.cell? ⟨gb415, 6, none⟩ = some (.int .i64 0) := (bc_ BK415.1 6).trans rfl
             have hcz48_7 : wr.cell? ⟨gb415, 7, none⟩ = some (.bool false) := (bc_ BK415.1 7).trans rfl
             have hcz48_8 : wr.cell? ⟨gb415, 8, none⟩ = some (.bool false) := (bc_ BK415.1 8).trans rfl
             have hfz48_0 := bF_ BK415.1 0
             have hfz48_1 := bF_ BK415.1 1
             have hfz48_2 := bF_ BK415.1 2
             have hfz48_3 := bF_ BK415.1 3
             have hfz48_4 := bF_ BK415.1 4
             have hfz48_5 := bF_ BK415.1 5
             have hfz48_6 := bF_ BK415.1 6
             have hfz48_7 := bF_ BK415.1 7
             have hfz48_8 := bF_ BK415.1 8
             go_wp2
             refine bodyPost_ret (results_ct rfl _ _ gb415 113 #[.string x424000_2, .string x424001_2, .slice ASz46_2 x424002_2.length cSz46_2, .string x424003_2, .string x424004_2, .bool x424005_2, .int .i64 x424006_2, .bool x424007_2, .bool false] (0, 0) _ rfl (by (with_reducible repeat (first | refine bN_ ?_ _ | refine bD_ ?_ | refine bA_ ?_ _)); refine blk_put (cs := #[.string x424000_2, .string x424001_2, .slice ASz46_2 x424002_2.length cSz46_2, .string x424003_2, .string x424004_2, .bool x424005_2, .int .i64 x424006_2, .bool x424007_2, .bool false]) ?_ 8 _ rfl; (with_reducible repeat (first | refine bN_ ?_ _ | refine bD_ ?_ | refine bA_ ?_ _)); refine blk_put (cs := #[.string x424000_2, .string x424001_2, .slice ASz46_2 x424002_2.length cSz46_2, .string x424003_2, .string x424004_2, .bool x424005_2, .int .i64 x424006_2, .bool false, .bool false]) ?_ 7 _ rfl; (with_reducible repeat (first | refine bN_ ?_ _ | refine bD_ ?_ | refine bA_ ?_ _)); refine blk_put (cs := #[.string x424000_2, .string x424001_2, .slice ASz46_2 x424002_2.length cSz46_2, .string x424003_2, .string x424004_2, .bool x424005_2, .int .i64 0, .bool false, .bool false]) ?_ 6 _ rfl; (with_reducible repeat (first | refine bN_ ?_ _ | refine bD_ ?_ | refine bA_ ?_ _)); refine blk_put (cs := #[.string x424000_2, .string x424001_2, .slice ASz46_2 x424002_2.length cSz46_2, .string x424003_2, .string x424004_2, .bool false, .int .i64 0, .bool false, .bool false]) ?_ 5 _ rfl; (with_reducible repeat (first | refine bN_ ?_ _ | refine bD_ ?_ | refine bA_ ?_ _)); refine blk_put (cs := #[.string x424000_2, .string x424001_2, .slice ASz46_2 x424002_2.length cSz46_2, .string x424003_2, .string (⟨#[]⟩ : ByteArray), .bool false, .int .i64 0, .bool false, .bool false]) ?_ 4 _ rfl; (with_reducible repeat (first | refine bN_ ?_ _ | refine bD_ ?_ | refine bA_ ?_ _)); refine blk_put (cs := #[.string x424000_2, .string x424001_2, .slice ASz46_2 x424002_2.length cSz46_2, .string (⟨#[]⟩ : ByteArray), .string (⟨#[]⟩ : ByteArray), .bool false, .int .i64 0, .bool false, .bool false]) ?_ 3 _ rfl; (with_reducible repeat (first | refine bN_ ?_ _ | refine bD_ ?_ | refine bA_ ?_ _)); refine blk_put (cs := #[.string x424000_2, .string x424001_2, .slice none 0 0, .string (⟨#[]⟩ : ByteArray), .string (⟨#[]⟩ : ByteArray), .bool false, .int .i64 0, .bool false, .bool false]) ?_ 2 _ rfl; (with_reducible repeat (first | refine bN_ ?_ _ | refine bD_ ?_ | refine bA_ ?_ _)); refine blk_put (cs := #[.string x424000_2, .string (⟨#[]⟩ : ByteArray), .slice none 0 0, .string (⟨#[]⟩ : ByteArray), .string (⟨#[]⟩ : ByteArray), .bool false, .int .i64 0, .bool false, .bool false]) ?_ 1 _ rfl; (with_reducible repeat (first | refine bN_ ?_ _ | refine bD_ ?_ | refine bA_ ?_ _)); refine blk_put (cs := #[.string (⟨#[]⟩ : ByteArray), .string (⟨#[]⟩ : ByteArray), .slice none 0 0, .string (⟨#[]⟩ : ByteArray), .string (⟨#[]⟩ : ByteArray), .bool false, .int .i64 0, .bool false, .bool false]) ?_ 0 _ rfl; (with_reducible repeat (first | refine bN_ ?_ _ | refine bD_ ?_ | refine bA_ ?_ _)); exact BK415.1) Tryz.underlying113 rfl (by kernel_rfl)) rfl ?_
             exact ⟨_, q10_, by (with_reducible repeat (first | apply rA_ | apply rN_ | apply rD_)); exact Kd.R_mono (rF_ (p := ⟨gb415, 8, none⟩) (rF_ (p := ⟨gb415, 7, none⟩) (rF_ (p := ⟨gb415, 6, none⟩) (rF_ (p := ⟨gb415, 5, none⟩) (rF_ (p := ⟨gb415, 4, none⟩) (rF_ (p := ⟨gb415, 3, none⟩) (rF_ (p := ⟨gb415, 2, none⟩) (rF_ (p := ⟨gb415, 1, none⟩) (rF_ (p := ⟨gb415, 0, none⟩) (Kd.R_types HO449.1 BK415.1 (by decide)) (fun _ hk => hk.2) (.string x424000_2)) (fun _ hk => hk.2) (.string x424001_2)) (fun _ hk => hk.2) (.slice ASz46_2 x424002_2.length cSz46_2)) (fun _ hk => hk.2) (.string x424003_2)) (fun _ hk => hk.2) (.string x424004_2)) (fun _ hk => hk.2) (.bool x424005_2)) (fun _ hk => hk.2) (.int .i64 x424006_2)) (fun _ hk => hk.2) (.bool x424007_2)) (fun _ hk => hk.2) (.bool false)) (fun _ hk => trivial), q21_⟩
            ·rw [if_neg c45] at H
             have c45b0 : decide (8 < (x424002_2.length : Int)) = false := decide_eq_false c45
             have c45b1 : decide (8 < x424002_2.length) = false := decide_eq_false (by omega)
             clear c45
             have HC49 := Aside0.mk H
             clear H
             obtain ⟨ASz50_2, cSz50_2, HGz50, hgz50, HSz50_2⟩ := HI423.1
             have hcz50_0 := cellS113_0 HGz50
             have hcz50_1 := cellS113_1 HGz50
             have hcz50_2 := cellS113_2 HGz50
             have hcz50_3 := cellS113_3 HGz50
             have hcz50_4 := cellS113_4 HGz50
             have hcz50_5 := cellS113_5 HGz50
             have hcz50_6 := cellS113_6 HGz50
             have hcz50_7 := cellS113_7 HGz50
             have hcz50_8 := cellS113_8 HGz50
             have hfz50_0 := bF_ HGz50 0
             have hfz50_1 := bF_ HGz50 1
             have hfz50_2 := bF_ HGz50 2
             have hfz50_3 := bF_ HGz50 3
             have hfz50_4 := bF_ HGz50 4
             have hfz50_5 := bF_ HGz50 5
             have hfz50_6 := bF_ HGz50 6
             have hfz50_7 := bF_ HGz50 7
             have hfz50_8 := bF_ HGz50 8
             clear HGz50 hgz50
             go_upto_region 16 with (fail)
             go_cut [66] (fun v66 wc => ∃ (kq : Nat) (x66_48 : Bool), v66 = .bool x66_48 ∧ Aside0 (impl_readHead.j2 kq x66_48 x424000_2 x424001_2 x424002_2 x424003_2 x424004_2 x424005_2 x424006_2 x424007_2 false = some (r1, r2, r3, r4, r5, r6, r7, r8, r9, r10)) ∧ Aside0 (kq ≤ k2) ∧ Aside0 (wc.heap[gb415]? = some (.cells #[.string (⟨#[]⟩ : ByteArray), .string (⟨#[]⟩ : ByteArray), (.slice none 0 0), .string (⟨#[]⟩ : ByteArray), .string (⟨#[]⟩ : ByteArray), .bool false, .int .i64 0, .bool false, .bool false] 113 (0, 0))) ∧ Aside0 (IsS113 w wc gb423 x424000_2 x424001_2 x424002_2 x424003_2 x424004_2 x424005_2 x424006_2 x424007_2 false) ∧ Aside0 (Below w.heap.size w wc))
             case first =>
              have H := HC49.1
              clear HC49
              by_cases c51 : x424005_2 = true
              ·subst c51
               rw [if_pos rfl] at H
               replace H := Option.bind_eq_some_iff.mp H
               obtain ⟨t450, A520, H⟩ := H
               replace H : (impl_readHead.j2 k2 (t450.toList != ([99, 104, 117, 110, 107, 101, 100] : List UInt8)) x424000_2 x424001_2 x424002_2 x424003_2 x424004_2 true x424006_2 x424007_2 false) = some (r1, r2, r3, r4, r5, r6, r7, r8, r9, r10) := H
               have A52 := Aside0.mk A520
               clear A520
               have H' := Aside0.mk H
               clear H
               obtain ⟨ASz53_2, cSz53_2, HGz53, hgz53, HSz53_2⟩ := HI423.1
               have hcz53_0 := cellS113_0 HGz53
               have hcz53_1 := cellS113_1 HGz53
               have hcz53_2 := cellS113_2 HGz53
               have hcz53_3 := cellS113_3 HGz53
               have hcz53_4 := cellS113_4 HGz53
               have hcz53_5 := cellS113_5 HGz53
               have hcz53_6 := cellS113_6 HGz53
               have hcz53_7 := cellS113_7 HGz53
               have hcz53_8 := cellS113_8 HGz53
               have hfz53_0 := bF_ HGz53 0
               have hfz53_1 := bF_ HGz53 1
               have hfz53_2 := bF_ HGz53 2
               have hfz53_3 := bF_ HGz53 3
               have hfz53_4 := bF_ HGz53 4
               have hfz53_5 := bF_ HGz53 5
               have hfz53_6 := bF_ HGz53 6
               have hfz53_7 := bF_ HGz53 7
               have hfz53_8 := bF_ HGz53 8
               clear HGz53 hgz53
               go_wp2_with (first | (go_at_call 144; (with_reducible refine (impl_Lower.calls k2 x424004_2 t450 _ A52.1).mono ?_); rintro e w54 ⟨rfl, hb⟩; have n0_ := Aside0.mk (Kd.R_below q12_ hb); have n1_ := Aside0.mk (bB_ (g := gb415) (o := .cells #[.string (⟨#[]⟩ : ByteArray), .string (⟨#[]⟩ : ByteArray), .slice none 0 0, .string (⟨#[]⟩ : ByteArray), .string (⟨#[]⟩ : ByteArray), .bool false, .int .i64 0, .bool false, .bool false] 113 (0, 0)) q43_ hb); have n2_ := Aside0.mk (IsS113.below q22_ hb); have n3_ := Aside0.mk (Kd.C_below q76_ hb); have n4_ := Aside0.mk (below_step q21_ hb); clear HO_4 BK415; clear HI423 HR435 HB; have HO_4 := n0_; have BK415 := n1_; have HI423 := n2_; have HR435 := n3_; have HB := n4_; clear n0_ n1_ n2_ n3_ n4_; (try clear hb); (try clear hb2); (try clear hk); (try clear hi)))
               go_meet
               case rel => exact ⟨_, ((t450.toList != ([99, 104, 117, 110, 107, 101, 100] : List UInt8))), q3_, H', ⟨by have := HJ4.1; have := HK2.1; first | omega | exact Nat.le_refl _⟩, ⟨q43_⟩, ⟨q22_⟩, ⟨q21_⟩⟩
              ·replace c51 := Bool.eq_false_iff.mpr c51
               subst c51
               rw [if_neg (show ¬ (false = true) by decide)] at H
               have H' := Aside0.mk H
               clear H
               obtain ⟨ASz55_2, cSz55_2, HGz55, hgz55, HSz55_2⟩ := HI423.1
               have hcz55_0 := cellS113_0 HGz55
               have hcz55_1 := cellS113_1 HGz55
               have hcz55_2 := cellS113_2 HGz55
               have hcz55_3 := cellS113_3 HGz55
               have hcz55_4 := cellS113_4 HGz55
               have hcz55_5 := cellS113_5 HGz55
               have hcz55_6 := cellS113_6 HGz55
               have hcz55_7 := cellS113_7 HGz55
               have hcz55_8 := cellS113_8 HGz55
               have hfz55_0 := bF_ HGz55 0
               have hfz55_1 := bF_ HGz55 1
               have hfz55_2 := bF_ HGz55 2
               have hfz55_3 := bF_ HGz55 3
               have hfz55_4 := bF_ HGz55 4
               have hfz55_5 := bF_ HGz55 5
               have hfz55_6 := bF_ HGz55 6
               have hfz55_7 := bF_ HGz55 7
               have hfz55_8 := bF_ HGz55 8
               clear HGz55 hgz55
               go_wp2
               go_meet
               case rel => exact ⟨_, (false), q3_, H', ⟨by have := HJ4.1; have := HK2.1; first | omega | exact Nat.le_refl _⟩, ⟨q43_⟩, ⟨q22_⟩, ⟨q21_⟩⟩
             case rest =>
              clear HC49
              try clear c1
              try clear c2
              try clear p2
              try clear c3
              try clear c3b0
              try clear c3b1
              try clear q3
              try clear c4
              try clear p4
              try clear q4
              try clear hx4
              try clear qi4
              try clear c5
              try clear p6
              try clear c7
              try clear c10
              try clear c11
              try clear c11b0
              try clear c11b1
              try clear c12
              try clear c12b0
              try clear c12b1
              try clear c13
              try clear c13b0
              try clear c13b1
              try clear c14
              try clear c14b0
              try clear c14b1
              try clear c15
              try clear c15b0
              try clear c15b1
              try clear c23
              try clear c25
              try clear c27
              try clear c27b0
              try clear c27b1
              try clear c28
              try clear c28b0
              try clear c28b1
              try clear c29
              try clear c29b0
              try clear c29b1
              try clear c35
              try clear q35
              try clear c36
              try clear c36b0
              try clear c37
              try clear c37b0
              try clear c38
              try clear c38b0
              try clear c41
              try clear p41
              try clear q41
              try clear hx41
              try clear p42
              try clear q42
              try clear hx42
              try clear c43
              try clear p43
              try clear q43
              try clear hx43
              try clear qi43
              try clear c45
              try clear c45b0
              try clear c45b1
              try clear c47
              try clear c51
              try clear hcz24_0
              try clear hcz24_1
              try clear hcz24_2
              try clear hcz24_3
              try clear hcz24_4
              try clear hcz24_5
              try clear hcz24_6
              try clear hcz24_7
              try clear hcz24_8
              try clear hcz26_0
              try clear hcz26_1
              try clear hcz26_2
              try clear hcz26_3
              try clear hcz26_4
              try clear hcz26_5
              try clear hcz26_6
              try clear hcz26_7
              try clear hcz26_8
              try clear hcz42_0
              try clear hcz42_1
              try clear hcz42_2
              try clear hcz42_3
              try clear hcz42_4
              try clear hcz42_5
              try clear hcz42_6
              try clear hcz42_7
              try clear hcz42_8
              try clear hcz44_0
              try clear hcz44_1
              try clear hcz44_2
              try clear hcz44_3
              try clear hcz44_4
              try clear hcz44_5
              try clear hcz44_6
              try clear hcz44_7
              try clear hcz44_8
              try clear hcz46_0
              try clear hcz46_1
              try clear hcz46_2
              try clear hcz46_3
              try clear hcz46_4
              try clear hcz46_5
              try clear hcz46_6
              try clear hcz46_7
              try clear hcz46_8
              try clear hcz48_0
              try clear hcz48_1
              try clear hcz48_2
              try clear hcz48_3
              try clear hcz48_4
              try clear hcz48_5
              try clear hcz48_6
              try clear hcz48_7
              try clear hcz48_8
              try clear hcz50_0
              try clear hcz50_1
              try clear hcz50_2
              try clear hcz50_3
              try clear hcz50_4
              try clear hcz50_5
              try clear hcz50_6
              try clear hcz50_7
              try clear hcz50_8
              try clear hcz53_0
              try clear hcz53_1
              try clear hcz53_2
              try clear hcz53_3
              try clear hcz53_4
              try clear hcz53_5
              try clear hcz53_6
              try clear hcz53_7
              try clear hcz53_8
              try clear hcz55_0
              try clear hcz55_1
              try clear hcz55_2
              try clear hcz55_3
              try clear hcz55_4
              try clear hcz55_5
              try clear hcz55_6
              try clear hcz55_7
              try clear hcz55_8
              try clear hfz24_0
              try clear hfz24_1
              try clear hfz24_2
              try clear hfz24_3
              try clear hfz24_4
              try clear hfz24_5
              try clear hfz24_6
              try clear hfz24_7
              try clear hfz24_8
              try clear hfz26_0
              try clear hfz26_1
              try clear hfz26_2
              try clear hfz26_3
              try clear hfz26_4
              try clear hfz26_5
              try clear hfz26_6
              try clear hfz26_7
              try clear hfz26_8
              try clear hfz42_0
              try clear hfz42_1
              try clear hfz42_2
              try clear hfz42_3
              try clear hfz42_4
              try clear hfz42_5
              try clear hfz42_6
              try clear hfz42_7
              try clear hfz42_8
              try clear hfz44_0
              try clear hfz44_1
              try clear hfz44_2
              try clear hfz44_3
              try clear hfz44_4
              try clear hfz44_5
              try clear hfz44_6
              try clear hfz44_7
              try clear hfz44_8
              try clear hfz46_0
              try clear hfz46_1
              try clear hfz46_2
              try clear hfz46_3
              try clear hfz46_4
              try clear hfz46_5
              try clear hfz46_6
              try clear hfz46_7
              try clear hfz46_8
              try clear hfz48_0
              try clear hfz48_1
              try clear hfz48_2
              try clear hfz48_3
              try clear hfz48_4
              try clear hfz48_5
              try clear hfz48_6
              try clear hfz48_7
              try clear hfz48_8
              try clear hfz50_0
              try clear hfz50_1
              try clear hfz50_2
              try clear hfz50_3
              try clear hfz50_4
              try clear hfz50_5
              try clear hfz50_6
              try clear hfz50_7
              try clear hfz50_8
              try clear hfz53_0
              try clear hfz53_1
              try clear hfz53_2
              try clear hfz53_3
              try clear hfz53_4
              try clear hfz53_5
              try clear hfz53_6
              try clear hfz53_7
              try clear hfz53_8
              try clear hfz55_0
              try clear hfz55_1
              try clear hfz55_2
              try clear hfz55_3
              try clear hfz55_4
              try clear hfz55_5
              try clear hfz55_6
              try clear hfz55_7
              try clear hfz55_8
              try clear hx419_0
              try clear hx424_0
              try clear hx425_0
              try clear hx426_0
              try clear hx430_0
              try clear hx431_0
              try clear hx436_0
              try clear p2
              try clear p4
              try clear p419
              try clear p424
              try clear p425
              try clear p426
              try clear p430
              try clear p431
              try clear p436
              try clear q3
              try clear q35
              try clear q4
              try clear q419
              try clear q424
              try clear q425
              try clear q426
              try clear q430
              try clear q431
              try clear q436
              obtain ⟨kq, x66_48, rfl, HA, HJ48, BK415, HI423, HB⟩ := hcut
              cases kq with
              | zero => exact absurd HA.1 (by simp [impl_readHead.j2])
              | succ kj48 =>
               have H := HA.1
               clear HA
               simp only [impl_readHead.j2] at H
               by_cases c56 : x66_48 = true
               ·subst c56
                rw [if_pos rfl] at H
                simp only [Option.some.injEq, Prod.mk.injEq] at H
                obtain ⟨rfl, rfl, rfl, rfl, rfl, rfl, rfl, rfl, rfl, rfl⟩ := H
                obtain ⟨ASz57_2, cSz57_2, HGz57, hgz57, HSz57_2⟩ := HI423.1
                have hcz57_0 := cellS113_0 HGz57
                have hcz57_1 := cellS113_1 HGz57
                have hcz57_2 := cellS113_2 HGz57
                have hcz57_3 := cellS113_3 HGz57
                have hcz57_4 := cellS113_4 HGz57
                have hcz57_5 := cellS113_5 HGz57
                have hcz57_6 := cellS113_6 HGz57
                have hcz57_7 := cellS113_7 HGz57
                have hcz57_8 := cellS113_8 HGz57
                have hfz57_0 := bF_ HGz57 0
                have hfz57_1 := bF_ HGz57 1
                have hfz57_2 := bF_ HGz57 2
                have hfz57_3 := bF_ HGz57 3
                have hfz57_4 := bF_ HGz57 4
                have hfz57_5 := bF_ HGz57 5
                have hfz57_6 := bF_ HGz57 6
                have hfz57_7 := bF_ HGz57 7
                have hfz57_8 := bF_ HGz57 8
                clear HGz57 hgz57
                have HO452 := Aside0.mk HSz57_2
                have hnb58 := NB415_423.1
                have hnc58 := NB423_415.1
                have hcz59_0 : wc.cell? ⟨gb415, 0, none⟩ = some (.string (⟨#[]⟩ : ByteArray)) := (bc_ BK415.1 0).trans rfl
                have hcz59_1 : wc.cell? ⟨gb415, 1, none⟩ = some (.string (⟨#[]⟩ : ByteArray)) := (bc_ BK415.1 1).trans rfl
                have hcz59_2 : wc.cell? ⟨gb415, 2, none⟩ = some (.slice none 0 0) := (bc_ BK415.1 2).trans rfl
                have hcz59_3 : wc.cell? ⟨gb415, 3, none⟩ = some (.string (⟨#[]⟩ : ByteArray)) := (bc_ BK415.1 3).trans rfl
                have hcz59_4 : wc.cell? ⟨gb415, 4, none⟩ = some (.string (⟨#[]⟩ : ByteArray)) := (bc_ BK415.1 4).trans rfl
                have hcz59_5 : wc.cell? ⟨gb415, 5, none⟩ = some (.bool false) := (bc_ BK415.1 5).trans rfl
                have hcz59_6 : wc.cell? ⟨gb415, 6, none⟩ = some (.int .i64 0) := (bc_ BK415.1 6).trans rfl
                have hcz59_7 : wc.cell? ⟨gb415, 7, none⟩ = some (.bool false) := (bc_ BK415.1 7).trans rfl
                have hcz59_8 : wc.cell? ⟨gb415, 8, none⟩ = some (.bool false) := (bc_ BK415.1 8).trans rfl
                have hfz59_0 := bF_ BK415.1 0
                have hfz59_1 := bF_ BK415.1 1
                have hfz59_2 := bF_ BK415.1 2
                have hfz59_3 := bF_ BK415.1 3
                have hfz59_4 := bF_ BK415.1 4
                have hfz59_5 := bF_ BK415.1 5
                have hfz59_6 := bF_ BK415.1 6
                have hfz59_7 := bF_ BK415.1 7
                have hfz59_8 := bF_ BK415.1 8
                go_wp2
                refine bodyPost_ret (results_ct rfl _ _ gb415 113 #[.string x424000_2, .string x424001_2, .slice ASz57_2 x424002_2.length cSz57_2, .string x424003_2, .string x424004_2, .bool x424005_2, .int .i64 x424006_2, .bool x424007_2, .bool false] (0, 0) _ rfl (by (with_reducible repeat (first | refine bN_ ?_ _ | refine bD_ ?_ | refine bA_ ?_ _)); refine blk_put (cs := #[.string x424000_2, .string x424001_2, .slice ASz57_2 x424002_2.length cSz57_2, .string x424003_2, .string x424004_2, .bool x424005_2, .int .i64 x424006_2, .bool x424007_2, .bool false]) ?_ 8 _ rfl; (with_reducible repeat (first | refine bN_ ?_ _ | refine bD_ ?_ | refine bA_ ?_ _)); refine blk_put (cs := #[.string x424000_2, .string x424001_2, .slice ASz57_2 x424002_2.length cSz57_2, .string x424003_2, .string x424004_2, .bool x424005_2, .int .i64 x424006_2, .bool false, .bool false]) ?_ 7 _ rfl; (with_reducible repeat (first | refine bN_ ?_ _ | refine bD_ ?_ | refine bA_ ?_ _)); refine blk_put (cs := #[.string x424000_2, .string x424001_2, .slice ASz57_2 x424002_2.length cSz57_2, .string x424003_2, .string x424004_2, .bool x424005_2, .int .i64 0, .bool false, .bool false]) ?_ 6 _ rfl; (with_reducible repeat (first | refine bN_ ?_ _ | refine bD_ ?_ | refine bA_ ?_ _)); refine blk_put (cs := #[.string x424000_2, .string x424001_2, .slice ASz57_2 x424002_2.length cSz57_2, .string x424003_2, .string x424004_2, .bool false, .int .i64 0, .bool false, .bool false]) ?_ 5 _ rfl; (with_reducible repeat (first | refine bN_ ?_ _ | refine bD_ ?_ | refine bA_ ?_ _)); refine blk_put (cs := #[.string x424000_2, .string x424001_2, .slice ASz57_2 x424002_2.length cSz57_2, .string x424003_2, .string (⟨#[]⟩ : ByteArray), .bool false, .int .i64 0, .bool false, .bool false]) ?_ 4 _ rfl; (with_reducible repeat (first | refine bN_ ?_ _ | refine bD_ ?_ | refine bA_ ?_ _)); refine blk_put (cs := #[.string x424000_2, .string x424001_2, .slice ASz57_2 x424002_2.length cSz57_2, .string (⟨#[]⟩ : ByteArray), .string (⟨#[]⟩ : ByteArray), .bool false, .int .i64 0, .bool false, .bool false]) ?_ 3 _ rfl; (with_reducible repeat (first | refine bN_ ?_ _ | refine bD_ ?_ | refine bA_ ?_ _)); refine blk_put (cs := #[.string x424000_2, .string x424001_2, .slice none 0 0, .string (⟨#[]⟩ : ByteArray), .string (⟨#[]⟩ : ByteArray), .bool false, .int .i64 0, .bool false, .bool false]) ?_ 2 _ rfl; (with_reducible repeat (first | refine bN_ ?_ _ | refine bD_ ?_ | refine bA_ ?_ _)); refine blk_put (cs := #[.string x424000_2, .string (⟨#[]⟩ : ByteArray), .slice none 0 0, .string (⟨#[]⟩ : ByteArray), .string (⟨#[]⟩ : ByteArray), .bool false, .int .i64 0, .bool false, .bool false]) ?_ 1 _ rfl; (with_reducible repeat (first | refine bN_ ?_ _ | refine bD_ ?_ | refine bA_ ?_ _)); refine blk_put (cs := #[.string (⟨#[]⟩ : ByteArray), .string (⟨#[]⟩ : ByteArray), .slice none 0 0, .string (⟨#[]⟩ : ByteArray), .string (⟨#[]⟩ : ByteArray), .bool false, .int .i64 0, .bool false, .bool false]) ?_ 0 _ rfl; (with_reducible repeat (first | refine bN_ ?_ _ | refine bD_ ?_ | refine bA_ ?_ _)); exact BK415.1) Tryz.underlying113 rfl (by kernel_rfl)) rfl ?_
                exact ⟨_, q10_, by (with_reducible repeat (first | apply rA_ | apply rN_ | apply rD_)); exact Kd.R_mono (rF_ (p := ⟨gb415, 8, none⟩) (rF_ (p := ⟨gb415, 7, none⟩) (rF_ (p := ⟨gb415, 6, none⟩) (rF_ (p := ⟨gb415, 5, none⟩) (rF_ (p := ⟨gb415, 4, none⟩) (rF_ (p := ⟨gb415, 3, none⟩) (rF_ (p := ⟨gb415, 2, none⟩) (rF_ (p := ⟨gb415, 1, none⟩) (rF_ (p := ⟨gb415, 0, none⟩) (Kd.R_types HO452.1 BK415.1 (by decide)) (fun _ hk => hk.2) (.string x424000_2)) (fun _ hk => hk.2) (.string x424001_2)) (fun _ hk => hk.2) (.slice ASz57_2 x424002_2.length cSz57_2)) (fun _ hk => hk.2) (.string x424003_2)) (fun _ hk => hk.2) (.string x424004_2)) (fun _ hk => hk.2) (.bool x424005_2)) (fun _ hk => hk.2) (.int .i64 x424006_2)) (fun _ hk => hk.2) (.bool x424007_2)) (fun _ hk => hk.2) (.bool false)) (fun _ hk => trivial), q21_⟩
               ·replace c56 := Bool.eq_false_iff.mpr c56
                subst c56
                rw [if_neg (show ¬ (false = true) by decide)] at H
                by_cases c60 : x424006_2 > 200
                ·rw [if_pos c60] at H
                 have c60b0 : decide (200 < x424006_2) = true := decide_eq_true c60
                 clear c60
                 simp only [Option.some.injEq, Prod.mk.injEq] at H
                 obtain ⟨rfl, rfl, rfl, rfl, rfl, rfl, rfl, rfl, rfl, rfl⟩ := H
                 obtain ⟨ASz61_2, cSz61_2, HGz61, hgz61, HSz61_2⟩ := HI423.1
                 have hcz61_0 := cellS113_0 HGz61
                 have hcz61_1 := cellS113_1 HGz61
                 have hcz61_2 := cellS113_2 HGz61
                 have hcz61_3 := cellS113_3 HGz61
                 have hcz61_4 := cellS113_4 HGz61
                 have hcz61_5 := cellS113_5 HGz61
                 have hcz61_6 := cellS113_6 HGz61
                 have hcz61_7 := cellS113_7 HGz61
                 have hcz61_8 := cellS113_8 HGz61
                 have hfz61_0 := bF_ HGz61 0
                 have hfz61_1 := bF_ HGz61 1
                 have hfz61_2 := bF_ HGz61 2
                 have hfz61_3 := bF_ HGz61 3
                 have hfz61_4 := bF_ HGz61 4
                 have hfz61_5 := bF_ HGz61 5
                 have hfz61_6 := bF_ HGz61 6
                 have hfz61_7 := bF_ HGz61 7
                 have hfz61_8 := bF_ HGz61 8
                 clear HGz61 hgz61
                 have HO454 := Aside0.mk HSz61_2
                 have hnb62 := NB415_423.1
                 have hnc62 := NB423_415.1
                 have hcz63_0 : wc.cell? ⟨gb415, 0, none⟩ = some (.string (⟨#[]⟩ : ByteArray)) := (bc_ BK415.1 0).trans rfl
                 have hcz63_1 : wc.cell? ⟨gb415, 1, none⟩ = some (.string (⟨#[]⟩ : ByteArray)) := (bc_ BK415.1 1).trans rfl
                 have hcz63_2 : wc.cell? ⟨gb415, 2, none⟩ = some (.slice none 0 0) := (bc_ BK415.1 2).trans rfl
                 have hcz63_3 : wc.cell? ⟨gb415, 3, none⟩ = some (.string (⟨#[]⟩ : ByteArray)) := (bc_ BK415.1 3).trans rfl
                 have hcz63_4 : wc.cell? ⟨gb415, 4, none⟩ = some (.string (⟨#[]⟩ : ByteArray)) := (bc_ BK415.1 4).trans rfl
                 have hcz63_5 : wc.cell? ⟨gb415, 5, none⟩ = some (.bool false) := (bc_ BK415.1 5).trans rfl
                 have hcz63_6 : wc.cell? ⟨gb415, 6, none⟩ = some (.int .i64 0) := (bc_ BK415.1 6).trans rfl
                 have hcz63_7 : wc.cell? ⟨gb415, 7, none⟩ = some (.bool false) := (bc_ BK415.1 7).trans rfl
                 have hcz63_8 : wc.cell? ⟨gb415, 8, none⟩ = some (.bool false) := (bc_ BK415.1 8).trans rfl
                 have hfz63_0 := bF_ BK415.1 0
                 have hfz63_1 := bF_ BK415.1 1
                 have hfz63_2 := bF_ BK415.1 2
                 have hfz63_3 := bF_ BK415.1 3
                 have hfz63_4 := bF_ BK415.1 4
                 have hfz63_5 := bF_ BK415.1 5
                 have hfz63_6 := bF_ BK415.1 6
                 have hfz63_7 := bF_ BK415.1 7
                 have hfz63_8 := bF_ BK415.1 8
                 go_wp2
                 refine bodyPost_ret (results_ct rfl _ _ gb415 113 #[.string x424000_2, .string x424001_2, .slice ASz61_2 x424002_2.length cSz61_2, .string x424003_2, .string x424004_2, .bool x424005_2, .int .i64 x424006_2, .bool x424007_2, .bool false] (0, 0) _ rfl (by (with_reducible repeat (first | refine bN_ ?_ _ | refine bD_ ?_ | refine bA_ ?_ _)); refine blk_put (cs := #[.string x424000_2, .string x424001_2, .slice ASz61_2 x424002_2.length cSz61_2, .string x424003_2, .string x424004_2, .bool x424005_2, .int .i64 x424006_2, .bool x424007_2, .bool false]) ?_ 8 _ rfl; (with_reducible repeat (first | refine bN_ ?_ _ | refine bD_ ?_ | refine bA_ ?_ _)); refine blk_put (cs := #[.string x424000_2, .string x424001_2, .slice ASz61_2 x424002_2.length cSz61_2, .string x424003_2, .string x424004_2, .bool x424005_2, .int .i64 x424006_2, .bool false, .bool false]) ?_ 7 _ rfl; (with_reducible repeat (first | refine bN_ ?_ _ | refine bD_ ?_ | refine bA_ ?_ _)); refine blk_put (cs := #[.string x424000_2, .string x424001_2, .slice ASz61_2 x424002_2.length cSz61_2, .string x424003_2, .string x424004_2, .bool x424005_2, .int .i64 0, .bool false, .bool false]) ?_ 6 _ rfl; (with_reducible repeat (first | refine bN_ ?_ _ | refine bD_ ?_ | refine bA_ ?_ _)); refine blk_put (cs := #[.string x424000_2, .string x424001_2, .slice ASz61_2 x424002_2.length cSz61_2, .string x424003_2, .string x424004_2, .bool false, .int .i64 0, .bool false, .bool false]) ?_ 5 _ rfl; (with_reducible repeat (first | refine bN_ ?_ _ | refine bD_ ?_ | refine bA_ ?_ _)); refine blk_put (cs := #[.string x424000_2, .string x424001_2, .slice ASz61_2 x424002_2.length cSz61_2, .string x424003_2, .string (⟨#[]⟩ : ByteArray), .bool false, .int .i64 0, .bool false, .bool false]) ?_ 4 _ rfl; (with_reducible repeat (first | refine bN_ ?_ _ | refine bD_ ?_ | refine bA_ ?_ _)); refine blk_put (cs := #[.string x424000_2, .string x424001_2, .slice ASz61_2 x424002_2.length cSz61_2, .string (⟨#[]⟩ : ByteArray), .string (⟨#[]⟩ : ByteArray), .bool false, .int .i64 0, .bool false, .bool false]) ?_ 3 _ rfl; (with_reducible repeat (first | refine bN_ ?_ _ | refine bD_ ?_ | refine bA_ ?_ _)); refine blk_put (cs := #[.string x424000_2, .string x424001_2, .slice none 0 0, .string (⟨#[]⟩ : ByteArray), .string (⟨#[]⟩ : ByteArray), .bool false, .int .i64 0, .bool false, .bool false]) ?_ 2 _ rfl; (with_reducible repeat (first | refine bN_ ?_ _ | refine bD_ ?_ | refine bA_ ?_ _)); refine blk_put (cs := #[.string x424000_2, .string (⟨#[]⟩ : ByteArray), .slice none 0 0, .string (⟨#[]⟩ : ByteArray), .string (⟨#[]⟩ : ByteArray), .bool false, .int .i64 0, .bool false, .bool false]) ?_ 1 _ rfl; (with_reducible repeat (first | refine bN_ ?_ _ | refine bD_ ?_ | refine bA_ ?_ _)); refine blk_put (cs := #[.string (⟨#[]⟩ : ByteArray), .string (⟨#[]⟩ : ByteArray), .slice none 0 0, .string (⟨#[]⟩ : ByteArray), .string (⟨#[]⟩ : ByteArray), .bool false, .int .i64 0, .bool false, .bool false]) ?_ 0 _ rfl; (with_reducible repeat (first | refine bN_ ?_ _ | refine bD_ ?_ | refine bA_ ?_ _)); exact BK415.1) Tryz.underlying113 rfl (by kernel_rfl)) rfl ?_
                 exact ⟨_, q10_, by (with_reducible repeat (first | apply rA_ | apply rN_ | apply rD_)); exact Kd.R_mono (rF_ (p := ⟨gb415, 8, none⟩) (rF_ (p := ⟨gb415, 7, none⟩) (rF_ (p := ⟨gb415, 6, none⟩) (rF_ (p := ⟨gb415, 5, none⟩) (rF_ (p := ⟨gb415, 4, none⟩) (rF_ (p := ⟨gb415, 3, none⟩) (rF_ (p := ⟨gb415, 2, none⟩) (rF_ (p := ⟨gb415, 1, none⟩) (rF_ (p := ⟨gb415, 0, none⟩) (Kd.R_types HO454.1 BK415.1 (by decide)) (fun _ hk => hk.2) (.string x424000_2)) (fun _ hk => hk.2) (.string x424001_2)) (fun _ hk => hk.2) (.slice ASz61_2 x424002_2.length cSz61_2)) (fun _ hk => hk.2) (.string x424003_2)) (fun _ hk => hk.2) (.string x424004_2)) (fun _ hk => hk.2) (.bool x424005_2)) (fun _ hk => hk.2) (.int .i64 x424006_2)) (fun _ hk => hk.2) (.bool x424007_2)) (fun _ hk => hk.2) (.bool false)) (fun _ hk => trivial), q21_⟩
                ·rw [if_neg c60] at H
                 have c60b0 : decide (200 < x424006_2) = false := decide_eq_false c60
                 clear c60
                 simp only [Option.some.injEq, Prod.mk.injEq] at H
                 obtain ⟨rfl, rfl, rfl, rfl, rfl, rfl, rfl, rfl, rfl, rfl⟩ := H
                 obtain ⟨ASz64_2, cSz64_2, HGz64, hgz64, HSz64_2⟩ := HI423.1
                 have hcz64_0 := cellS113_0 HGz64
                 have hcz64_1 := cellS113_1 HGz64
                 have hcz64_2 := cellS113_2 HGz64
                 have hcz64_3 := cellS113_3 HGz64
                 have hcz64_4 := cellS113_4 HGz64
                 have hcz64_5 := cellS113_5 HGz64
                 have hcz64_6 := cellS113_6 HGz64
                 have hcz64_7 := cellS113_7 HGz64
                 have hcz64_8 := cellS113_8 HGz64
                 have hfz64_0 := bF_ HGz64 0
                 have hfz64_1 := bF_ HGz64 1
                 have hfz64_2 := bF_ HGz64 2
                 have hfz64_3 := bF_ HGz64 3
                 have hfz64_4 := bF_ HGz64 4
                 have hfz64_5 := bF_ HGz64 5
                 have hfz64_6 := bF_ HGz64 6
                 have hfz64_7 := bF_ HGz64 7
                 have hfz64_8 := bF_ HGz64 8
                 clear HGz64 hgz64
                 have HO456 := Aside0.mk HSz64_2
                 have hnb65 := NB415_423.1
                 have hnc65 := NB423_415.1
                 have hcz66_0 : wc.cell? ⟨gb415, 0, none⟩ = some (.string (⟨#[]⟩ : ByteArray)) := (bc_ BK415.1 0).trans rfl
                 have hcz66_1 : wc.cell? ⟨gb415, 1, none⟩ = some (.string (⟨#[]⟩ : ByteArray)) := (bc_ BK415.1 1).trans rfl
                 have hcz66_2 : wc.cell? ⟨gb415, 2, none⟩ = some (.slice none 0 0) := (bc_ BK415.1 2).trans rfl
                 have hcz66_3 : wc.cell? ⟨gb415, 3, none⟩ = some (.string (⟨#[]⟩ : ByteArray)) := (bc_ BK415.1 3).trans rfl
                 have hcz66_4 : wc.cell? ⟨gb415, 4, none⟩ = some (.string (⟨#[]⟩ : ByteArray)) := (bc_ BK415.1 4).trans rfl
                 have hcz66_5 : wc.cell? ⟨gb415, 5, none⟩ = some (.bool false) := (bc_ BK415.1 5).trans rfl
                 have hcz66_6 : wc.cell? ⟨gb415, 6, none⟩ = some (.int .i64 0) := (bc_ BK415.1 6).trans rfl
                 have hcz66_7 : wc.cell? ⟨gb415, 7, none⟩ = some (.bool false) := (bc_ BK415.1 7).trans rfl
                 have hcz66_8 : wc.cell? ⟨gb415, 8, none⟩ = some (.bool false) := (bc_ BK415.1 8).trans rfl
                 have hfz66_0 := bF_ BK415.1 0
                 have hfz66_1 := bF_ BK415.1 1
                 have hfz66_2 := bF_ BK415.1 2
                 have hfz66_3 := bF_ BK415.1 3
                 have hfz66_4 := bF_ BK415.1 4
                 have hfz66_5 := bF_ BK415.1 5
                 have hfz66_6 := bF_ BK415.1 6
                 have hfz66_7 := bF_ BK415.1 7
                 have hfz66_8 := bF_ BK415.1 8
                 go_wp2
                 refine bodyPost_ret (results_ct rfl _ _ gb415 113 #[.string x424000_2, .string x424001_2, .slice ASz64_2 x424002_2.length cSz64_2, .string x424003_2, .string x424004_2, .bool x424005_2, .int .i64 x424006_2, .bool x424007_2, .bool false] (0, 0) _ rfl (by (with_reducible repeat (first | refine bN_ ?_ _ | refine bD_ ?_ | refine bA_ ?_ _)); refine blk_put (cs := #[.string x424000_2, .string x424001_2, .slice ASz64_2 x424002_2.length cSz64_2, .string x424003_2, .string x424004_2, .bool x424005_2, .int .i64 x424006_2, .bool x424007_2, .bool false]) ?_ 8 _ rfl; (with_reducible repeat (first | refine bN_ ?_ _ | refine bD_ ?_ | refine bA_ ?_ _)); refine blk_put (cs := #[.string x424000_2, .string x424001_2, .slice ASz64_2 x424002_2.length cSz64_2, .string x424003_2, .string x424004_2, .bool x424005_2, .int .i64 x424006_2, .bool false, .bool false]) ?_ 7 _ rfl; (with_reducible repeat (first | refine bN_ ?_ _ | refine bD_ ?_ | refine bA_ ?_ _)); refine blk_put (cs := #[.string x424000_2, .string x424001_2, .slice ASz64_2 x424002_2.length cSz64_2, .string x424003_2, .string x424004_2, .bool x424005_2, .int .i64 0, .bool false, .bool false]) ?_ 6 _ rfl; (with_reducible repeat (first | refine bN_ ?_ _ | refine bD_ ?_ | refine bA_ ?_ _)); refine blk_put (cs := #[.string x424000_2, .string x424001_2, .slice ASz64_2 x424002_2.length cSz64_2, .string x424003_2, .string x424004_2, .bool false, .int .i64 0, .bool false, .bool false]) ?_ 5 _ rfl; (with_reducible repeat (first | refine bN_ ?_ _ | refine bD_ ?_ | refine bA_ ?_ _)); refine blk_put (cs := #[.string x424000_2, .string x424001_2, .slice ASz64_2 x424002_2.length cSz64_2, .string x424003_2, .string (⟨#[]⟩ : ByteArray), .bool false, .int .i64 0, .bool false, .bool false]) ?_ 4 _ rfl; (with_reducible repeat (first | refine bN_ ?_ _ | refine bD_ ?_ | refine bA_ ?_ _)); refine blk_put (cs := #[.string x424000_2, .string x424001_2, .slice ASz64_2 x424002_2.length cSz64_2, .string (⟨#[]⟩ : ByteArray), .string (⟨#[]⟩ : ByteArray), .bool false, .int .i64 0, .bool false, .bool false]) ?_ 3 _ rfl; (with_reducible repeat (first | refine bN_ ?_ _ | refine bD_ ?_ | refine bA_ ?_ _)); refine blk_put (cs := #[.string x424000_2, .string x424001_2, .slice none 0 0, .string (⟨#[]⟩ : ByteArray), .string (⟨#[]⟩ : ByteArray), .bool false, .int .i64 0, .bool false, .bool false]) ?_ 2 _ rfl; (with_reducible repeat (first | refine bN_ ?_ _ | refine bD_ ?_ | refine bA_ ?_ _)); refine blk_put (cs := #[.string x424000_2, .string (⟨#[]⟩ : ByteArray), .slice none 0 0, .string (⟨#[]⟩ : ByteArray), .string (⟨#[]⟩ : ByteArray), .bool false, .int .i64 0, .bool false, .bool false]) ?_ 1 _ rfl; (with_reducible repeat (first | refine bN_ ?_ _ | refine bD_ ?_ | refine bA_ ?_ _)); refine blk_put (cs := #[.string (⟨#[]⟩ : ByteArray), .string (⟨#[]⟩ : ByteArray), .slice none 0 0, .string (⟨#[]⟩ : ByteArray), .string (⟨#[]⟩ : ByteArray), .bool false, .int .i64 0, .bool false, .bool false]) ?_ 0 _ rfl; (with_reducible repeat (first | refine bN_ ?_ _ | refine bD_ ?_ | refine bA_ ?_ _)); exact BK415.1) Tryz.underlying113 rfl (by kernel_rfl)) rfl ?_
                 exact ⟨_, q10_, by (with_reducible repeat (first | apply rA_ | apply rN_ | apply rD_)); exact Kd.R_mono (rF_ (p := ⟨gb415, 8, none⟩) (rF_ (p := ⟨gb415, 7, none⟩) (rF_ (p := ⟨gb415, 6, none⟩) (rF_ (p := ⟨gb415, 5, none⟩) (rF_ (p := ⟨gb415, 4, none⟩) (rF_ (p := ⟨gb415, 3, none⟩) (rF_ (p := ⟨gb415, 2, none⟩) (rF_ (p := ⟨gb415, 1, none⟩) (rF_ (p := ⟨gb415, 0, none⟩) (Kd.R_types HO456.1 BK415.1 (by decide)) (fun _ hk => hk.2) (.string x424000_2)) (fun _ hk => hk.2) (.string x424001_2)) (fun _ hk => hk.2) (.slice ASz64_2 x424002_2.length cSz64_2)) (fun _ hk => hk.2) (.string x424003_2)) (fun _ hk => hk.2) (.string x424004_2)) (fun _ hk => hk.2) (.bool x424005_2)) (fun _ hk => hk.2) (.int .i64 x424006_2)) (fun _ hk => hk.2) (.bool x424007_2)) (fun _ hk => hk.2) (.bool false)) (fun _ hk => trivial), q21_⟩
       ·rw [if_neg c29] at H
        exact absurd H (by simp)
      ·rw [if_neg c28] at H
       exact absurd H (by simp)
     ·rw [if_neg c27] at H
      exact absurd H (by simp)
 ·rw [if_neg c3] at H
  exact absurd H (by simp)

end Go.Proofs.YtfncjddolbghlaaGreatDoor.GFnMore
