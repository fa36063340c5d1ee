-- by gprint.py (this session's program over the kit's print.py) (a twelfth state) out of the translation. Not trusted: Lean checks it.
import Derived.Test.YtfncjddolbghlaaGreatDoorGFnRespsx0
import Derived.Test.YtfncjddolbghlaaGreatDoorGFnRespsx7
namespace Go.Proofs.YtfncjddolbghlaaGreatDoor.GFnResps
open Go.RowKit Go.Proofs.YtfncjddolbghlaaGreatDoorW.PrintWords Go.Proofs.YtfncjddolbghlaaGreatDoorW.PrintLast Go.Proofs.YtfncjddolbghlaaGreatDoorW.PrintMore
attribute [local go_sem] max2_int min2_int max_two min_two max_three min_three max_four min_four   -- for this text's walks alone
set_option linter.unusedVariables false
set_option linter.unusedSimpArgs false
set_option maxRecDepth 100000
set_option maxHeartbeats 8000000

def impl_PutResp.f (k : Nat) (a0_0 : Int) (l0_1 : List (S88)) (a0_2 : ByteArray) : Option (List Int) := (impl_RespOk.f k a0_0 l0_1 a0_2).bind fun t201 => (if t201 = true then ((impl_NumText.f a0_0).bind fun t202 => (if 9 + t202.size ≤ 9223372036854775807 then (if ((⟨#[72, 84, 84, 80, 47, 49, 46, 49, 32]⟩ : ByteArray) ++ t202).size + 2 ≤ 9223372036854775807 then ((impl_headText.f k l0_1).bind fun t203 => (if (((⟨#[72, 84, 84, 80, 47, 49, 46, 49, 32]⟩ : ByteArray) ++ t202) ++ (⟨#[13, 10]⟩ : ByteArray)).size + t203.size ≤ 9223372036854775807 then ((impl_lengthText.f a0_2).bind fun t204 => (if ((((⟨#[72, 84, 84, 80, 47, 49, 46, 49, 32]⟩ : ByteArray) ++ t202) ++ (⟨#[13, 10]⟩ : ByteArray)) ++ t203).size + t204.size ≤ 9223372036854775807 then (if (((((⟨#[72, 84, 84, 80, 47, 49, 46, 49, 32]⟩ : ByteArray) ++ t202) ++ (⟨#[13, 10]⟩ : ByteArray)) ++ t203) ++ t204).size + 2 ≤ 9223372036854775807 then (if ((((((⟨#[72, 84, 84, 80, 47, 49, 46, 49, 32]⟩ : ByteArray) ++ t202) ++ (⟨#[13, 10]⟩ : ByteArray)) ++ t203) ++ t204) ++ (⟨#[13, 10]⟩ : ByteArray)).size + a0_2.size ≤ 9223372036854775807 then (if (((((((⟨#[72, 84, 84, 80, 47, 49, 46, 49, 32]⟩ : ByteArray) ++ t202) ++ (⟨#[13, 10]⟩ : ByteArray)) ++ t203) ++ t204) ++ (⟨#[13, 10]⟩ : ByteArray)) ++ a0_2).size < 140737488355328 then (some (bytesOf (((((((⟨#[72, 84, 84, 80, 47, 49, 46, 49, 32]⟩ : ByteArray) ++ t202) ++ (⟨#[13, 10]⟩ : ByteArray)) ++ t203) ++ t204) ++ (⟨#[13, 10]⟩ : ByteArray)) ++ a0_2))) else (none)) else (none)) else (none)) else (none))) else (none))) else (none)) else (none))) else (some ([] : List Int)))

def impl_PutResp.T3 : Bool × List (List Nat × List Nat) := (true, [([], []), ([0], [0]), ([1], [1]), ([2], [2]), ([3], [3]), ([], []), ([5], [5]), ([6, 2], [6]), ([4, 7], [4, 7]), ([], []), ([9], [9]), ([10, 7], [10]), ([8, 11], [8, 11]), ([12], [12]), ([], []), ([14], [14]), ([13, 15], [13, 15]), ([16], [16]), ([17, 11, 0, 1, 2, 3, 4, 5, 6, 7, 8, 9, 10, 11, 12, 13, 14, 15, 16, 17], [17])])
def impl_PutResp.B3 : List Nat := [0, 1, 3, 7, 15, 0, 32, 103, 255, 0, 512, 1767, 4095, 8191, 0, 16384, 65535, 131071, 262143]
theorem impl_PutResp.tab3 : rtab .any (opsOf Tryz.f22 3) = impl_PutResp.T3 := by kernel_rfl
theorem impl_PutResp.bits3 : waitsOk impl_PutResp.T3.2 impl_PutResp.B3 = true := by kernel_rfl
theorem impl_PutResp.calls (k : Nat) (a0_0 : Int) (A0_1 : Option Addr) (c0_1 : Nat) (l0_1 : List (S88)) (a0_2 : ByteArray) (r : List Int) (w : World) (hr0_1 : Kd.C k88 w A0_1 l0_1.length l0_1) (hc0_1 : l0_1.length ≤ c0_1) (h : impl_PutResp.f k a0_0 l0_1 a0_2 = some r) (hG : GOK w) :
  Calls Tryz.prog 22 #[.agg #[.int .i64 a0_0, .slice A0_1 l0_1.length c0_1, .string a0_2]] w fun e w' => ∃ v0_ : Value, e = .returned (v0_) ∧ Kd.R (Kd.int .u8) 5 w' w.heap.size (fun _ => True) v0_ r ∧ Below w.heap.size w w' := by
 have hu25 := Tryz.underlying25; have HR0_1 := aK hr0_1; have HC0_1 := aK hc0_1; clear hr0_1 hc0_1; have HB := aK (Below.refl w.heap.size w); have H : ((impl_RespOk.f k a0_0 l0_1 a0_2).bind fun t201 => (if t201 = true then ((impl_NumText.f a0_0).bind fun t202 => (if 9 + t202.size ≤ 9223372036854775807 then (if ((⟨#[72, 84, 84, 80, 47, 49, 46, 49, 32]⟩ : ByteArray) ++ t202).size + 2 ≤ 9223372036854775807 then ((impl_headText.f k l0_1).bind fun t203 => (if (((⟨#[72, 84, 84, 80, 47, 49, 46, 49, 32]⟩ : ByteArray) ++ t202) ++ (⟨#[13, 10]⟩ : ByteArray)).size + t203.size ≤ 9223372036854775807 then ((impl_lengthText.f a0_2).bind fun t204 => (if ((((⟨#[72, 84, 84, 80, 47, 49, 46, 49, 32]⟩ : ByteArray) ++ t202) ++ (⟨#[13, 10]⟩ : ByteArray)) ++ t203).size + t204.size ≤ 9223372036854775807 then (if (((((⟨#[72, 84, 84, 80, 47, 49, 46, 49, 32]⟩ : ByteArray) ++ t202) ++ (⟨#[13, 10]⟩ : ByteArray)) ++ t203) ++ t204).size + 2 ≤ 9223372036854775807 then (if ((((((⟨#[72, 84, 84, 80, 47, 49, 46, 49, 32]⟩ : ByteArray) ++ t202) ++ (⟨#[13, 10]⟩ : ByteArray)) ++ t203) ++ t204) ++ (⟨#[13, 10]⟩ : ByteArray)).size + a0_2.size ≤ 9223372036854775807 then (if (((((((⟨#[72, 84, 84, 80, 47, 49, 46, 49, 32]⟩ : ByteArray) ++ t202) ++ (⟨#[13, 10]⟩ : ByteArray)) ++ t203) ++ t204) ++ (⟨#[13, 10]⟩ : ByteArray)) ++ a0_2).size < 140737488355328 then (some (bytesOf (((((((⟨#[72, 84, 84, 80, 47, 49, 46, 49, 32]⟩ : ByteArray) ++ t202) ++ (⟨#[13, 10]⟩ : ByteArray)) ++ t203) ++ t204) ++ (⟨#[13, 10]⟩ : ByteArray)) ++ a0_2))) else (none)) else (none)) else (none)) else (none))) else (none))) else (none)) else (none))) else (some ([] : List Int)))) = some r := h; clear h; replace H := Option.bind_eq_some_iff.mp H; obtain ⟨t201, A20, H⟩ := H; (try dsimp only at H); have A2 := aK A20; clear A20; by_cases c3 : t201 = true
 ·subst c3; rw [if_pos rfl] at H; replace H := Option.bind_eq_some_iff.mp H; obtain ⟨t202, A40, H⟩ := H; (try dsimp only at H); have A4 := aK A40; clear A40; by_cases c5 : 9 + t202.size ≤ 9223372036854775807
  ·rw [if_pos c5] at H; have c5b0 := eq_true c5; have c5b1 : decide (9 + t202.size ≤ 9223372036854775807) = true := decide_eq_true c5; try have c5b2 : (9223372036854775807 < 9 + t202.size) = False := eq_false (Nat.not_lt.2 c5)
   by_cases c6 : ((⟨#[72, 84, 84, 80, 47, 49, 46, 49, 32]⟩ : ByteArray) ++ t202).size + 2 ≤ 9223372036854775807
   ·rw [if_pos c6] at H; have c6b0 := eq_true c6; have c6b1 : decide (((⟨#[72, 84, 84, 80, 47, 49, 46, 49, 32]⟩ : ByteArray) ++ t202).size + 2 ≤ 9223372036854775807) = true := decide_eq_true c6; try have c6b2 : (9223372036854775807 < ((⟨#[72, 84, 84, 80, 47, 49, 46, 49, 32]⟩ : ByteArray) ++ t202).size + 2) = False := eq_false (Nat.not_lt.2 c6)
    have c6s : 9 + t202.size + 2 ≤ 9223372036854775807 := q213_; have c6s0 := eq_true c6s; have c6s1 : decide (9 + t202.size + 2 ≤ 9223372036854775807) = true := decide_eq_true c6s; have c6s2 : (9223372036854775807 < 9 + t202.size + 2) = False := eq_false (Nat.not_lt.2 c6s); replace H := Option.bind_eq_some_iff.mp H; obtain ⟨t203, A70, H⟩ := H; (try dsimp only at H); have A7 := aK A70; clear A70; by_cases c8 : (((⟨#[72, 84, 84, 80, 47, 49, 46, 49, 32]⟩ : ByteArray) ++ t202) ++ (⟨#[13, 10]⟩ : ByteArray)).size + t203.size ≤ 9223372036854775807
    ·rw [if_pos c8] at H; have c8b0 := eq_true c8; have c8b1 : decide ((((⟨#[72, 84, 84, 80, 47, 49, 46, 49, 32]⟩ : ByteArray) ++ t202) ++ (⟨#[13, 10]⟩ : ByteArray)).size + t203.size ≤ 9223372036854775807) = true := decide_eq_true c8; try have c8b2 : (9223372036854775807 < (((⟨#[72, 84, 84, 80, 47, 49, 46, 49, 32]⟩ : ByteArray) ++ t202) ++ (⟨#[13, 10]⟩ : ByteArray)).size + t203.size) = False := eq_false (Nat.not_lt.2 c8)
     have c8s : 9 + t202.size + 2 + t203.size ≤ 9223372036854775807 := q239_; have c8s0 := eq_true c8s; have c8s1 : decide (9 + t202.size + 2 + t203.size ≤ 9223372036854775807) = true := decide_eq_true c8s; have c8s2 : (9223372036854775807 < 9 + t202.size + 2 + t203.size) = False := eq_false (Nat.not_lt.2 c8s); replace H := Option.bind_eq_some_iff.mp H; obtain ⟨t204, A90, H⟩ := H; (try dsimp only at H); have A9 := aK A90; clear A90; by_cases c10 : ((((⟨#[72, 84, 84, 80, 47, 49, 46, 49, 32]⟩ : ByteArray) ++ t202) ++ (⟨#[13, 10]⟩ : ByteArray)) ++ t203).size + t204.size ≤ 9223372036854775807
     ·rw [if_pos c10] at H; have c10b0 := eq_true c10; have c10b1 : decide (((((⟨#[72, 84, 84, 80, 47, 49, 46, 49, 32]⟩ : ByteArray) ++ t202) ++ (⟨#[13, 10]⟩ : ByteArray)) ++ t203).size + t204.size ≤ 9223372036854775807) = true := decide_eq_true c10; try have c10b2 : (9223372036854775807 < ((((⟨#[72, 84, 84, 80, 47, 49, 46, 49, 32]⟩ : ByteArray) ++ t202) ++ (⟨#[13, 10]⟩ : ByteArray)) ++ t203).size + t204.size) = False := eq_false (Nat.not_lt.2 c10)
      have c10s : 9 + t202.size + 2 + t203.size + t204.size ≤ 9223372036854775807 := by have h_ := c10; simp only [ByteArray.size_append] at h_; exact h_
      have c10s0 := eq_true c10s; have c10s1 : decide (9 + t202.size + 2 + t203.size + t204.size ≤ 9223372036854775807) = true := decide_eq_true c10s; have c10s2 : (9223372036854775807 < 9 + t202.size + 2 + t203.size + t204.size) = False := eq_false (Nat.not_lt.2 c10s); by_cases c11 : (((((⟨#[72, 84, 84, 80, 47, 49, 46, 49, 32]⟩ : ByteArray) ++ t202) ++ (⟨#[13, 10]⟩ : ByteArray)) ++ t203) ++ t204).size + 2 ≤ 9223372036854775807
      ·rw [if_pos c11] at H; have c11b0 := eq_true c11; have c11b1 : decide ((((((⟨#[72, 84, 84, 80, 47, 49, 46, 49, 32]⟩ : ByteArray) ++ t202) ++ (⟨#[13, 10]⟩ : ByteArray)) ++ t203) ++ t204).size + 2 ≤ 9223372036854775807) = true := decide_eq_true c11; try have c11b2 : (9223372036854775807 < (((((⟨#[72, 84, 84, 80, 47, 49, 46, 49, 32]⟩ : ByteArray) ++ t202) ++ (⟨#[13, 10]⟩ : ByteArray)) ++ t203) ++ t204).size + 2) = False := eq_false (Nat.not_lt.2 c11)
       have c11s : 9 + t202.size + 2 + t203.size + t204.size + 2 ≤ 9223372036854775807 := by have h_ := c11; simp only [ByteArray.size_append] at h_; exact h_
       have c11s0 := eq_true c11s; have c11s1 : decide (9 + t202.size + 2 + t203.size + t204.size + 2 ≤ 9223372036854775807) = true := decide_eq_true c11s; have c11s2 : (9223372036854775807 < 9 + t202.size + 2 + t203.size + t204.size + 2) = False := eq_false (Nat.not_lt.2 c11s); by_cases c12 : ((((((⟨#[72, 84, 84, 80, 47, 49, 46, 49, 32]⟩ : ByteArray) ++ t202) ++ (⟨#[13, 10]⟩ : ByteArray)) ++ t203) ++ t204) ++ (⟨#[13, 10]⟩ : ByteArray)).size + a0_2.size ≤ 9223372036854775807
       ·rw [if_pos c12] at H; have c12b0 := eq_true c12; have c12b1 : decide (((((((⟨#[72, 84, 84, 80, 47, 49, 46, 49, 32]⟩ : ByteArray) ++ t202) ++ (⟨#[13, 10]⟩ : ByteArray)) ++ t203) ++ t204) ++ (⟨#[13, 10]⟩ : ByteArray)).size + a0_2.size ≤ 9223372036854775807) = true := decide_eq_true c12; try have c12b2 : (9223372036854775807 < ((((((⟨#[72, 84, 84, 80, 47, 49, 46, 49, 32]⟩ : ByteArray) ++ t202) ++ (⟨#[13, 10]⟩ : ByteArray)) ++ t203) ++ t204) ++ (⟨#[13, 10]⟩ : ByteArray)).size + a0_2.size) = False := eq_false (Nat.not_lt.2 c12)
        have c12s : 9 + t202.size + 2 + t203.size + t204.size + 2 + a0_2.size ≤ 9223372036854775807 := by have h_ := c12; simp only [ByteArray.size_append] at h_; exact h_
        have c12s0 := eq_true c12s; have c12s1 : decide (9 + t202.size + 2 + t203.size + t204.size + 2 + a0_2.size ≤ 9223372036854775807) = true := decide_eq_true c12s; have c12s2 : (9223372036854775807 < 9 + t202.size + 2 + t203.size + t204.size + 2 + a0_2.size) = False := eq_false (Nat.not_lt.2 c12s); by_cases c13 : (((((((⟨#[72, 84, 84, 80, 47, 49, 46, 49, 32]⟩ : ByteArray) ++ t202) ++ (⟨#[13, 10]⟩ : ByteArray)) ++ t203) ++ t204) ++ (⟨#[13, 10]⟩ : ByteArray)) ++ a0_2).size < 140737488355328
        ·rw [if_pos c13] at H; have LMc13 := aK c13; clear c13; obtain ⟨y205, hy205⟩ : ∃ y_ : List Int, y_ = (bytesOf (((((((⟨#[72, 84, 84, 80, 47, 49, 46, 49, 32]⟩ : ByteArray) ++ t202) ++ (⟨#[13, 10]⟩ : ByteArray)) ++ t203) ++ t204) ++ (⟨#[13, 10]⟩ : ByteArray)) ++ a0_2)) := ⟨_, rfl⟩; replace H : (some y205) = some r := by first | (rw [hy205]; with_reducible exact H) | (have H2_ := (Option.bind_some _ _).symm.trans H; rw [hy205]; with_reducible exact H2_) | (have H2_ := (Option.bind_some _ _).symm.trans H; with_reducible exact H2_) | with_reducible exact H | (rw [hy205]; exact H) | exact H
         have Ny205 := aK hy205; clear hy205; obtain rfl := Option.some.inj H; go_enter Tryz.func22, Tryz.ntmps22
         try go_wp2_with (first | ((with_reducible refine gate_dst (N := 1) rfl ?_); refine box_event ?hg (N := 1) ?hd (cs := #[.int .i64 a0_0, .slice A0_1 l0_1.length c0_1, .string a0_2]) (t := 25) ?hr ?_; (case hd => rfl); (case hg => rfl); (case hr => exact q26_); intro gb200 hg w14 hbox hb; have n0_ := aK (below_step q2_ hb); have n1_ := aK (hbox); have n2_ := aK ((q44_ : w.heap.size ≤ gb200)); have n3_ := aK ((q44_ : w.heap.size ≤ gb200)); clear HB; have HB := n0_; have BK200 := n1_; have GW200 := n2_; have GE200 := n3_; clear n0_ n1_ n2_ n3_; clear hb hbox hg; have hcz15_0 : w14.cell? ⟨gb200, 0, none⟩ = some (.int .i64 a0_0) := (bc_ BK200.1 0).trans rfl; have hcz15_1 : w14.cell? ⟨gb200, 1, none⟩ = some (.slice A0_1 l0_1.length c0_1) := (bc_ BK200.1 1).trans rfl; have hcz15_2 : w14.cell? ⟨gb200, 2, none⟩ = some (.string a0_2) := (bc_ BK200.1 2).trans rfl; have hfz15_0 := bF_ BK200.1 0; have hfz15_1 := bF_ BK200.1 1; have hfz15_2 := bF_ BK200.1 2) | ((with_reducible refine gate_callee (f := 27) rfl ?_); refine goesL_ (some 4) rfl rfl Tryz.func27 (by kernel_rfl) rfl #[.agg #[.int .i64 a0_0, .slice A0_1 l0_1.length c0_1, .string a0_2]] rfl q1_ ?_; (with_reducible refine (impl_RespOk.calls k a0_0 _ _ l0_1 a0_2 true _ ?side1 ?side2 A2.1).mono ?_); (case side1 => exact q49_); (case side2 => exact q235_); rintro e w16 ⟨rfl, hb⟩; refine ⟨_, rfl, ?_⟩; have n0_ := aK (bB_ (g := gb200) (o := .cells #[.int .i64 a0_0, .slice A0_1 l0_1.length c0_1, .string a0_2] 25 (0, 0)) q125_ hb); have n1_ := aK (below_step q61_ hb); clear BK200 HB; have BK200 := n0_; have HB := n1_; clear n0_ n1_; (try clear hb); (try clear hb2); (try clear hk); (try clear hi)))
         have n0_ := aK (bD_ BK200.1); have n1_ := aK (dB_ HB.1); clear BK200 HB; have BK200 := n0_; have HB := n1_; clear n0_ n1_; refine start_ (n := 19) (S := fun w' => w'.cell? ⟨gb200, 0, none⟩ = some (.int .i64 a0_0) ∧ w'.cell? ⟨gb200, 1, none⟩ = some (.slice A0_1 l0_1.length c0_1) ∧ w'.cell? ⟨gb200, 2, none⟩ = some (.string a0_2)) (ds := []) #[Z, Z, Z, Z, Z, Z, Z, Z, Z, Z, Z, Z, Z, Z, Z, Z, Z, Z, Z] (by kernel_rfl) rfl rfl ⟨(bc_ BK200.1 0).trans rfl, (bc_ BK200.1 1).trans rfl, (bc_ BK200.1 2).trans rfl⟩ (fun hHeld => ?_); refine with_tabW impl_PutResp.tab3 impl_PutResp.bits3 (fun HT_ HW_ => ?_); generalize w16.drew = w17 at BK200 HB hHeld ⊢; refine pure_ (i := 0) (N := some 6) (v := ?_) (a' := ?_) #[Y, Z, Z, Z, Z, Z, Z, Z, Z, Z, Z, Z, Z, Z, Z, Z, Z, Z, Z] rfl rfl (any_of HT_.1 (by kernel_rfl)) (fun _ _ _ h => h) (Or.inl ⟨by rfl, ?_⟩) ?_ ?_; rotate_left
         ·intro w'; go_simp
          with_reducible rfl
         rotate_left
         ·simp only [Act.put, sI, sZ, sS, i64_w, i32_w]; rfl
         refine pure_ (i := 5) (N := some 11) (v := ?_) (a' := ?_) #[Y, Z, Z, Z, Z, Y, Z, Z, Z, Z, Z, Z, Z, Z, Z, Z, Z, Z, Z] rfl rfl (any_of HT_.1 (by kernel_rfl)) (fun _ _ _ h => h) (Or.inl ⟨by rfl, ?_⟩) ?_ ?_; rotate_left
         ·intro w'; go_simp
          with_reducible rfl
         rotate_left
         ·simp only [Act.put, sI, sZ, sS, i64_w, i32_w]; rfl
         refine pure_ (i := 9) (N := some 15) (v := ?_) (a' := ?_) #[Y, Z, Z, Z, Z, Y, Z, Z, Z, Y, Z, Z, Z, Z, Z, Z, Z, Z, Z] rfl rfl (any_of HT_.1 (by kernel_rfl)) (fun _ _ _ h => h) (Or.inl ⟨by rfl, ?_⟩) ?_ ?_; rotate_left
         ·intro w'; go_simp
          with_reducible rfl
         rotate_left
         ·simp only [Act.put, sI, sZ, sS, i64_w, i32_w]; rfl
         refine pure_ (i := 14) (N := some 20) (v := ?_) (a' := ?_) #[Y, Z, Z, Z, Z, Y, Z, Z, Z, Y, Z, Z, Z, Z, Y, Z, Z, Z, Z] rfl rfl (any_of HT_.1 (by kernel_rfl)) (fun _ _ _ h => h) (Or.inl ⟨by rfl, ?_⟩) ?_ ?_; rotate_left
         ·intro w'; go_simp
          with_reducible rfl
         rotate_left
         ·simp only [Act.put, sI, sZ, sS, i64_w, i32_w]; rfl
         refine take_ (i := 1) (N := some 7) (v := ?_) (a' := ?_) #[Y, Y, Z, Z, Z, Y, Z, Z, Z, Y, Z, Z, Z, Z, Y, Z, Z, Z, Z] rfl rfl (take_ofW HT_.1 HW_.1 (by kernel_rfl)) (fun _ _ _ h => h) (Or.inl ⟨by rfl, ?_⟩) hHeld ?_ ?_; rotate_left
         ·rintro w' ⟨s0, s1, s2⟩; go_simp
          with_reducible rfl
         rotate_left
         ·simp only [Act.put, sI, sZ, sS, i64_w, i32_w]; rfl
         refine take_ (i := 6) (N := some 12) (v := ?_) (a' := ?_) #[Y, Y, Z, Z, Z, Y, Y, Z, Z, Y, Z, Z, Z, Z, Y, Z, Z, Z, Z] rfl rfl (take_ofW HT_.1 HW_.1 (by kernel_rfl)) (fun _ _ _ h => h) (Or.inl ⟨by rfl, ?_⟩) hHeld ?_ ?_; rotate_left
         ·rintro w' ⟨s0, s1, s2⟩; go_simp
          with_reducible rfl
         rotate_left
         ·simp only [Act.put, sI, sZ, sS, i64_w, i32_w]; rfl
         refine take_ (i := 10) (N := some 16) (v := ?_) (a' := ?_) #[Y, Y, Z, Z, Z, Y, Y, Z, Z, Y, Y, Z, Z, Z, Y, Z, Z, Z, Z] rfl rfl (take_ofW HT_.1 HW_.1 (by kernel_rfl)) (fun _ _ _ h => h) (Or.inl ⟨by rfl, ?_⟩) hHeld ?_ ?_; rotate_left
         ·rintro w' ⟨s0, s1, s2⟩; go_simp
          with_reducible rfl
         rotate_left
         ·simp only [Act.put, sI, sZ, sS, i64_w, i32_w]; rfl
         refine take_ (i := 15) (N := some 21) (v := ?_) (a' := ?_) #[Y, Y, Z, Z, Z, Y, Y, Z, Z, Y, Y, Z, Z, Z, Y, Y, Z, Z, Z] rfl rfl (take_ofW HT_.1 HW_.1 (by kernel_rfl)) (fun _ _ _ h => h) (Or.inl ⟨by rfl, ?_⟩) hHeld ?_ ?_; rotate_left
         ·rintro w' ⟨s0, s1, s2⟩; go_simp
          with_reducible rfl
         rotate_left
         ·simp only [Act.put, sI, sZ, sS, i64_w, i32_w]; rfl
         refine one_ (i := 2) (N := some 8) #[Y, Y, Y, Z, Z, Y, Y, Z, Z, Y, Y, Z, Z, Z, Y, Y, Z, Z, Z] rfl rfl (one_of HT_.1 (by kernel_rfl)) (by decide) (fun K hK => ?_); refine goes_ Tryz.func86 (by kernel_rfl) rfl #[.int .i64 a0_0] (by rfl) rfl rfl q1_ ?_; with_reducible refine (impl_NumText.calls a0_0 t202 _ A4.1 ?side99).mono ?_
         (case side99 => exact q182_); rintro e w18 ⟨rfl, hb⟩; refine ⟨_, rfl, ?_⟩; have n0_ := aK (bB_ (g := gb200) (o := .cells #[.int .i64 a0_0, .slice A0_1 l0_1.length c0_1, .string a0_2] 25 (0, 0)) q125_ hb); have n1_ := aK (below_step q61_ hb); clear BK200 HB; have BK200 := n0_; have HB := n1_; clear n0_ n1_; (try clear hb); (try clear hb2); (try clear hk); (try clear hi); refine hK.out _ _ ⟨(bc_ BK200.1 0).trans rfl, (bc_ BK200.1 1).trans rfl, (bc_ BK200.1 2).trans rfl⟩ (fun hHeld => ?_); clear hK K; refine norm_ (a' := ?_) ?_ ?_; rotate_left
         ·show Act.put _ (some 8) _ = _
          simp only [Act.put, sI, sZ, sS, i64_w, i32_w]; rfl
         refine pure_ (i := 3) (N := some 9) (v := ?_) (a' := ?_) #[Y, Y, Y, Y, Z, Y, Y, Z, Z, Y, Y, Z, Z, Z, Y, Y, Z, Z, Z] rfl rfl (any_of HT_.1 (by kernel_rfl)) (fun _ _ _ h => h) (Or.inl ⟨by rfl, ?_⟩) ?_ ?_; rotate_left
         ·intro w'; go_simp
          with_reducible rfl
         rotate_left
         ·simp only [Act.put, sI, sZ, sS, i64_w, i32_w]; rfl
         refine pure_ (i := 4) (N := some 10) (v := ?_) (a' := ?_) #[Y, Y, Y, Y, Y, Y, Y, Z, Z, Y, Y, Z, Z, Z, Y, Y, Z, Z, Z] rfl rfl (any_of HT_.1 (by kernel_rfl)) (fun _ _ _ h => h) (Or.inl ⟨by rfl, ?_⟩) ?_ ?_; rotate_left
         ·intro w'; go_simp
          with_reducible rfl
         rotate_left
         ·simp only [Act.put, sI, sZ, sS, i64_w, i32_w]; rfl
         refine one_ (i := 7) (N := some 13) #[Y, Y, Y, Y, Y, Y, Y, Y, Z, Y, Y, Z, Z, Z, Y, Y, Z, Z, Z] rfl rfl (one_of HT_.1 (by kernel_rfl)) (by decide) (fun K hK => ?_); refine goes_ Tryz.func87 (by kernel_rfl) rfl #[.slice A0_1 l0_1.length c0_1] (by rfl) rfl rfl q1_ ?_; with_reducible refine (impl_headText.calls k _ _ l0_1 t203 _ ?side1 ?side2 A7.1).mono ?_
         (case side1 => exact q49_); (case side2 => exact q235_); rintro e w19 ⟨rfl, hb⟩; refine ⟨_, rfl, ?_⟩; have n0_ := aK (bB_ (g := gb200) (o := .cells #[.int .i64 a0_0, .slice A0_1 l0_1.length c0_1, .string a0_2] 25 (0, 0)) q125_ hb); have n1_ := aK (below_step q61_ hb); clear BK200 HB; have BK200 := n0_; have HB := n1_; clear n0_ n1_; (try clear hb); (try clear hb2); (try clear hk); (try clear hi); refine hK.out _ _ ⟨(bc_ BK200.1 0).trans rfl, (bc_ BK200.1 1).trans rfl, (bc_ BK200.1 2).trans rfl⟩ (fun hHeld => ?_); clear hK K; refine norm_ (a' := ?_) ?_ ?_; rotate_left
         ·show Act.put _ (some 13) _ = _
          simp only [Act.put, sI, sZ, sS, i64_w, i32_w]; rfl
         refine pure_ (i := 8) (N := some 14) (v := ?_) (a' := ?_) #[Y, Y, Y, Y, Y, Y, Y, Y, Y, Y, Y, Z, Z, Z, Y, Y, Z, Z, Z] rfl rfl (any_of HT_.1 (by kernel_rfl)) (fun _ _ _ h => h) (Or.inl ⟨by rfl, ?_⟩) ?_ ?_; rotate_left
         ·intro w'; go_simp
          with_reducible rfl
         rotate_left
         ·simp only [Act.put, sI, sZ, sS, i64_w, i32_w]; rfl
         refine one_ (i := 11) (N := some 17) #[Y, Y, Y, Y, Y, Y, Y, Y, Y, Y, Y, Y, Z, Z, Y, Y, Z, Z, Z] rfl rfl (one_of HT_.1 (by kernel_rfl)) (by decide) (fun K hK => ?_); refine goes_ Tryz.func88 (by kernel_rfl) rfl #[.string a0_2] (by rfl) rfl rfl q1_ ?_; with_reducible refine (impl_lengthText.calls a0_2 t204 _ A9.1 ?side99).mono ?_
         (case side99 => exact q182_); rintro e w20 ⟨rfl, hb⟩; refine ⟨_, rfl, ?_⟩; have n0_ := aK (bB_ (g := gb200) (o := .cells #[.int .i64 a0_0, .slice A0_1 l0_1.length c0_1, .string a0_2] 25 (0, 0)) q125_ hb); have n1_ := aK (below_step q61_ hb); clear BK200 HB; have BK200 := n0_; have HB := n1_; clear n0_ n1_; (try clear hb); (try clear hb2); (try clear hk); (try clear hi); refine hK.out _ _ ⟨(bc_ BK200.1 0).trans rfl, (bc_ BK200.1 1).trans rfl, (bc_ BK200.1 2).trans rfl⟩ (fun hHeld => ?_); clear hK K; refine norm_ (a' := ?_) ?_ ?_; rotate_left
         ·show Act.put _ (some 17) _ = _
          simp only [Act.put, sI, sZ, sS, i64_w, i32_w]; rfl
         refine pure_ (i := 12) (N := some 18) (v := ?_) (a' := ?_) #[Y, Y, Y, Y, Y, Y, Y, Y, Y, Y, Y, Y, Y, Z, Y, Y, Z, Z, Z] rfl rfl (any_of HT_.1 (by kernel_rfl)) (fun _ _ _ h => h) (Or.inl ⟨by rfl, ?_⟩) ?_ ?_; rotate_left
         ·intro w'; go_simp
          with_reducible rfl
         rotate_left
         ·simp only [Act.put, sI, sZ, sS, i64_w, i32_w]; rfl
         refine pure_ (i := 13) (N := some 19) (v := ?_) (a' := ?_) #[Y, Y, Y, Y, Y, Y, Y, Y, Y, Y, Y, Y, Y, Y, Y, Y, Z, Z, Z] rfl rfl (any_of HT_.1 (by kernel_rfl)) (fun _ _ _ h => h) (Or.inl ⟨by rfl, ?_⟩) ?_ ?_; rotate_left
         ·intro w'; go_simp
          with_reducible rfl
         rotate_left
         ·simp only [Act.put, sI, sZ, sS, i64_w, i32_w]; rfl
         refine pure_ (i := 16) (N := some 22) (v := ?_) (a' := ?_) #[Y, Y, Y, Y, Y, Y, Y, Y, Y, Y, Y, Y, Y, Y, Y, Y, Y, Z, Z] rfl rfl (any_of HT_.1 (by kernel_rfl)) (fun _ _ _ h => h) (Or.inl ⟨by rfl, ?_⟩) ?_ ?_; rotate_left
         ·intro w'; go_simp
          with_reducible rfl
         rotate_left
         ·simp only [Act.put, sI, sZ, sS, i64_w, i32_w]; rfl
         refine one_ (i := 17) (N := some 23) #[Y, Y, Y, Y, Y, Y, Y, Y, Y, Y, Y, Y, Y, Y, Y, Y, Y, Y, Z] rfl rfl (one_of HT_.1 (by kernel_rfl)) (by decide) (fun K hK => ?_); refine Kd.R_conv_str_step (w0 := w) w.heap.size (by rfl) 9 22 5 _ rfl Tryz.underlying9 Tryz.underlying22 Tryz.underlying5 (((((((⟨#[72, 84, 84, 80, 47, 49, 46, 49, 32]⟩ : ByteArray) ++ t202) ++ (⟨#[13, 10]⟩ : ByteArray)) ++ t203) ++ t204) ++ (⟨#[13, 10]⟩ : ByteArray)) ++ a0_2) (fun _ => True) rfl ?aF ?aO ?aB ?aS ?aL ?_; (case aB => exact q61_); (case aF => exact q241_); (case aO => exact ((Kd.R_nil _ _ _ _ (fun _ => True)))); (case aS => exact (below_size q61_)); (case aL => have := LMc13.1; omega); intro v206 w21 ho hb hg hat; rw [← Ny205.1] at ho; have n0_ := aK (blk_grown (g := gb200) (o := .cells #[.int .i64 a0_0, .slice A0_1 l0_1.length c0_1, .string a0_2] 25 (0, 0)) q125_ hg (by simp [Value.ownBlock])); have n1_ := aK (hb); have n2_ := aK (ho); clear BK200 HB; have BK200 := n0_; have HB := n1_; have HO207 := n2_; clear n0_ n1_ n2_ ho hb hg hat; refine hK.out _ _ ⟨(bc_ BK200.1 0).trans rfl, (bc_ BK200.1 1).trans rfl, (bc_ BK200.1 2).trans rfl⟩ (fun hHeld => ?_); clear hK K; refine norm_ (a' := ?_) ?_ ?_; rotate_left
         ·show Act.put _ (some 23) _ = _
          simp only [Act.put, sI, sZ, sS, i64_w, i32_w]; rfl
         refine pure_ (i := 18) (N := some 2) (v := ?_) (a' := ?_) #[Y, Y, Y, Y, Y, Y, Y, Y, Y, Y, Y, Y, Y, Y, Y, Y, Y, Y, Y] rfl rfl (any_of HT_.1 (by kernel_rfl)) (fun _ _ _ h => h) (Or.inl ⟨by rfl, ?_⟩) ?_ ?_; rotate_left
         ·intro w'; go_simp
          with_reducible rfl
         rotate_left
         ·simp only [Act.put, sI, sZ, sS, i64_w, i32_w]; rfl
         refine done_ (done_of HT_.1 (by kernel_rfl)) ?_; try go_wp2
         go_ret
         exact ⟨_, q15_, by (with_reducible repeat (first | apply rA_ | apply rN_ | apply rD_)); exact HO207.1, q61_⟩
        ·rw [if_neg c13] at H; exact absurd H (by simp)
       ·rw [if_neg c12] at H; exact absurd H (by simp)
      ·rw [if_neg c11] at H; exact absurd H (by simp)
     ·rw [if_neg c10] at H; exact absurd H (by simp)
    ·rw [if_neg c8] at H; exact absurd H (by simp)
   ·rw [if_neg c6] at H; exact absurd H (by simp)
  ·rw [if_neg c5] at H; exact absurd H (by simp)
 ·replace c3 := Bool.eq_false_iff.mpr c3; subst c3; rw [if_neg (show ¬ (false = true) by decide)] at H; obtain rfl := Option.some.inj H; go_enter Tryz.func22, Tryz.ntmps22
  go_wp2_with (first | ((with_reducible refine gate_dst (N := 1) rfl ?_); refine box_event ?hg (N := 1) ?hd (cs := #[.int .i64 a0_0, .slice A0_1 l0_1.length c0_1, .string a0_2]) (t := 25) ?hr ?_; (case hd => rfl); (case hg => rfl); (case hr => exact q26_); intro gb200 hg w22 hbox hb; have n0_ := aK (below_step q2_ hb); have n1_ := aK (hbox); have n2_ := aK ((q44_ : w.heap.size ≤ gb200)); have n3_ := aK ((q44_ : w.heap.size ≤ gb200)); clear HB; have HB := n0_; have BK200 := n1_; have GW200 := n2_; have GE200 := n3_; clear n0_ n1_ n2_ n3_; clear hb hbox hg; have hcz23_0 : w22.cell? ⟨gb200, 0, none⟩ = some (.int .i64 a0_0) := (bc_ BK200.1 0).trans rfl; have hcz23_1 : w22.cell? ⟨gb200, 1, none⟩ = some (.slice A0_1 l0_1.length c0_1) := (bc_ BK200.1 1).trans rfl; have hcz23_2 : w22.cell? ⟨gb200, 2, none⟩ = some (.string a0_2) := (bc_ BK200.1 2).trans rfl; have hfz23_0 := bF_ BK200.1 0; have hfz23_1 := bF_ BK200.1 1; have hfz23_2 := bF_ BK200.1 2) | ((with_reducible refine gate_callee (f := 27) rfl ?_); refine goesL_ (some 4) rfl rfl Tryz.func27 (by kernel_rfl) rfl #[.agg #[.int .i64 a0_0, .slice A0_1 l0_1.length c0_1, .string a0_2]] rfl q1_ ?_; (with_reducible refine (impl_RespOk.calls k a0_0 _ _ l0_1 a0_2 false _ ?side1 ?side2 A2.1).mono ?_); (case side1 => exact q49_); (case side2 => exact q235_); rintro e w24 ⟨rfl, hb⟩; refine ⟨_, rfl, ?_⟩; have n0_ := aK (bB_ (g := gb200) (o := .cells #[.int .i64 a0_0, .slice A0_1 l0_1.length c0_1, .string a0_2] 25 (0, 0)) q125_ hb); have n1_ := aK (below_step q61_ hb); clear BK200 HB; have BK200 := n0_; have HB := n1_; clear n0_ n1_; (try clear hb); (try clear hb2); (try clear hk); (try clear hi)))
  go_ret
  exact ⟨_, q15_, q40_, q61_⟩


def strings_Cut.f (a0 : ByteArray) (a1 : ByteArray) : Option (ByteArray × ByteArray × Bool) := if a0.size < 4294967281 then some (⟨(Lib.cut a0.data.toList a1.data.toList).1.toArray⟩, ⟨(Lib.cut a0.data.toList a1.data.toList).2.1.toArray⟩, (Lib.cut a0.data.toList a1.data.toList).2.2) else none
theorem strings_Cut.calls (a0 : ByteArray) (a1 : ByteArray) (r1 : ByteArray) (r2 : ByteArray) (r3 : Bool) (w : World) (h : strings_Cut.f a0 a1 = some (r1, r2, r3)) (hG : GOK w) :
  Calls Tryz.prog 76 #[.string a0, .string a1] w fun e w' => e = .returned (.tuple #[.string r1, .string r2, .bool r3]) ∧ Drawn0 w w' := by
 unfold strings_Cut.f at h
 split at h
 ·rename_i hs
  simp only [Option.some.injEq, Prod.mk.injEq] at h; obtain ⟨rfl, rfl, rfl⟩ := h; obtain ⟨m, hm⟩ := hG.maxlen; exact (Go.Proofs.YtfncjddolbghlaaGreatDoor.Shelf.Tryz.strings_Cut a0 a1 m w hs hm).mono fun e w' ⟨he, hw⟩ => ⟨he, ⟨hw⟩⟩
 ·cases h


def strings_Split.f (a0 : ByteArray) (a1 : ByteArray) : Option (List ByteArray) := if a0.size < 4294967281 ∧ 1 ≤ a1.size then some (Go.Lib.splitB a1 0 (Go.Lib.countB a0 a1) a0) else none
theorem strings_Split.calls (a0 : ByteArray) (a1 : ByteArray) (r : List ByteArray) (w : World) (h : strings_Split.f a0 a1 = some r) (hG : GOK w) :
  Calls Tryz.prog 77 #[.string a0, .string a1] w fun e w' => ∃ v0_ : Value, e = .returned (v0_) ∧ Kd.R Kd.string 9 w' w.heap.size (fun _ => True) v0_ r ∧ Below w.heap.size w w' := by
 unfold strings_Split.f at h
 split at h
 ·rename_i hs
  obtain rfl := Option.some.inj h; obtain ⟨m, hm⟩ := hG.maxlen; have hl := Go.Lib.splitB_all a1 hs.2 0 _ a0 rfl; have hc := Go.Lib.countB_le a1 hs.2 a0.size a0 (Nat.le_refl _); refine (Go.Proofs.YtfncjddolbghlaaGreatDoor.Shelf.Tryz.strings_Split a0 a1 m w hs.1 hm hs.2).mono fun e w' ⟨he, hw⟩ => ⟨_, he, ?_, by subst hw; exact aB_ (Below.refl _ _) _⟩
  subst hw; refine Kd.R_of_own (enc := Value.string) (h1 := fun _ => rfl) ?_ (fun _ _ => trivial); refine ⟨by simp [encs], .inr ⟨w.heap.size, _, _, by rw [hl], Nat.le_refl _, (by first | exact blk_new w _ | exact HasRow.of (blk_new w _)), by rw [hl]; exact Nat.le_refl _, by unfold maxLen; omega, by simp [hl], ?_⟩⟩; rw [Nat.mul_one, List.take_of_length_le (by simp)]; simp [encs]
 ·cases h


/-- what strconv.Atoi hands back: a number and no error, or an error -/
theorem impl_ParseNum.atoi (s : ByteArray) (hs : s.size ≤ 281474976710656) (w : World) (hG : GOK w) :
  Calls Tryz.prog 131 #[.string s] w fun e w' => (∃ z x, e = .returned (.tuple #[.int .i64 z, x]) ∧ ((Go.Lib.atoiAll s.data.toList = .ok z ∧ x = .nilIface) ∨ ((∀ v, Go.Lib.atoiAll s.data.toList ≠ .ok v) ∧ ∃ N, x = .iface 168 (.pointer (some ⟨N, 0, none⟩))))) ∧ Below w.heap.size w w' := by
 cases hat : Go.Lib.atoiAll s.data.toList with
 | ok v =>
  refine (Go.Proofs.YtfncjddolbghlaaGreatDoor.Shelf.Tryz.strconv_Atoi_ok s (by omega) v hat w).mono ?_; rintro e w' ⟨rfl, hw⟩; refine ⟨⟨v, _, rfl, .inl ⟨rfl, rfl⟩⟩, ?_⟩; rcases hw with rfl | ⟨t, rfl⟩
  ·exact Below.refl _ _
  ·exact Go.Lib.bytesWorld_below _ _ _
 | range =>
  obtain ⟨tp, p, hv⟩ := hG.errr; refine (Go.Proofs.Any.strconv_Atoi_range_var Go.Proofs.YtfncjddolbghlaaGreatDoor.Shelf.Tryz.laysC172 s hs hat tp p w hv).mono ?_; rintro e w' ⟨N, rfl, _, _, hb⟩; exact ⟨⟨_, _, rfl, .inr ⟨fun v h => (by cases h), N, rfl⟩⟩, hb⟩
 | _ =>
  obtain ⟨tp, p, hv⟩ := hG.errs; refine (Go.Proofs.Any.strconv_Atoi_syntax_var Go.Proofs.YtfncjddolbghlaaGreatDoor.Shelf.Tryz.laysC172 s hs hat tp p w hv).mono ?_; rintro e w' ⟨N, rfl, _, _, hb⟩; exact ⟨⟨_, _, rfl, .inr ⟨fun v h => (by cases h), N, rfl⟩⟩, hb⟩
def impl_ParseNum.f (a0 : ByteArray) (a1 : Int) : Option (Int × Bool) :=
 if a0.size ≤ 281474976710656 then
  match Go.Lib.atoiAll a0.data.toList with
  | .ok v => if v < 0 then some (0, false) else if a1 < v then some (0, false) else if 7 < a0.size then some (0, false) else (impl_NumText.f v).bind fun t => if t.toList = a0.toList then some (v, true) else some (0, false)
  | _ => some (0, false)
 else none
theorem impl_ParseNum.calls (a0 : ByteArray) (a1 : Int) (r1 : Int) (r2 : Bool) (w : World) (h : impl_ParseNum.f a0 a1 = some (r1, r2)) (hG : GOK w) :
  Calls Tryz.prog 78 #[.string a0, .int .i64 a1] w fun e w' => e = .returned (.tuple #[.int .i64 r1, .bool r2]) ∧ Below w.heap.size w w' := by
 unfold impl_ParseNum.f at h
 split at h
 ·rename_i hs
  have hA := impl_ParseNum.atoi a0 hs w hG; go_enter Tryz.func78, Tryz.ntmps78
  go_wp2_with (go_at_call 131; refine hA.mono ?_)
  rintro e w1 ⟨⟨z, x, rfl, hx⟩, HB⟩; rcases hx with ⟨hat, rfl⟩ | ⟨hno, N, rfl⟩
  ·rw [hat] at h; simp only [] at h; clear hA hat; by_cases c1 : z < 0
   ·rw [if_pos c1] at h; have c1b := decide_eq_true c1; clear c1; obtain ⟨rfl, rfl⟩ := Prod.mk.inj (Option.some.inj h); go_wp2
    go_ret2
    exact ⟨rfl, HB⟩
   rw [if_neg c1] at h; have c1b := decide_eq_false c1; by_cases c2 : a1 < z
   ·rw [if_pos c2] at h; have c2b := decide_eq_true c2; clear c1 c2; obtain ⟨rfl, rfl⟩ := Prod.mk.inj (Option.some.inj h); go_wp2
    go_ret2
    exact ⟨rfl, HB⟩
   rw [if_neg c2] at h; have c2b := decide_eq_false c2; by_cases c3 : 7 < a0.size
   ·rw [if_pos c3] at h; have c3b : decide ((7 : Int) < (a0.size : Int)) = true := decide_eq_true (by omega); clear c1 c2 c3; obtain ⟨rfl, rfl⟩ := Prod.mk.inj (Option.some.inj h); go_wp2
    go_ret2
    exact ⟨rfl, HB⟩
   rw [if_neg c3] at h; have c3b : decide ((7 : Int) < (a0.size : Int)) = false := decide_eq_false (by omega); clear c1 c2 c3; obtain ⟨t, ht, h⟩ := Option.bind_eq_some_iff.1 h; have hN := fun W (hW : GOK W) => impl_NumText.calls z t W ht hW
   clear ht; by_cases c4 : t.toList = a0.toList
   ·rw [if_pos c4] at h; have c4b0 : (t.toList == a0.toList) = true := beq_iff_eq.mpr c4; have c4b1 : (t.toList != a0.toList) = false := bne_eq_false_iff_eq.mpr c4; clear c4; obtain ⟨rfl, rfl⟩ := Prod.mk.inj (Option.some.inj h); go_wp2_with (go_at_call 86; refine (hN _ (GOK_below hG HB)).mono ?_; rintro e w2 ⟨rfl, hb⟩)
    go_ret2
    exact ⟨rfl, below_step HB hb⟩
   ·rw [if_neg c4] at h; have c4b0 : (t.toList == a0.toList) = false := beq_eq_false_iff_ne.mpr c4; have c4b1 : (t.toList != a0.toList) = true := bne_iff_ne.mpr c4; clear c4; obtain ⟨rfl, rfl⟩ := Prod.mk.inj (Option.some.inj h); go_wp2_with (go_at_call 86; refine (hN _ (GOK_below hG HB)).mono ?_; rintro e w2 ⟨rfl, hb⟩)
    go_ret2
    exact ⟨rfl, below_step HB hb⟩
  ·have h2 : some ((0 : Int), false) = some (r1, r2) := by
    split at h
    ·rename_i v hv; exact absurd hv (hno v)
    ·exact h
   obtain ⟨rfl, rfl⟩ := Prod.mk.inj (Option.some.inj h2); clear h h2 hno hA; go_wp2
   go_ret2
   exact ⟨rfl, HB⟩
 ·cases h


def strings_TrimPrefix.f (a0 : ByteArray) (a1 : ByteArray) : Option ByteArray := some ⟨(Lib.trimPrefix a0.data.toList a1.data.toList).toArray⟩
theorem strings_TrimPrefix.calls (a0 : ByteArray) (a1 : ByteArray) (r : ByteArray) (w : World) (h : strings_TrimPrefix.f a0 a1 = some r) :
  Calls Tryz.prog 79 #[.string a0, .string a1] w fun e w' => e = .returned (.string r) ∧ Drawn0 w w' := by
 obtain rfl := Option.some.inj h; exact (Go.Proofs.YtfncjddolbghlaaGreatDoor.Shelf.Tryz.strings_TrimPrefix a0 a1 w).mono fun e w' ⟨he, hw⟩ => ⟨he, by subst hw; exact Drawn0.refl _⟩


def strings_HasPrefix.f (a0 : ByteArray) (a1 : ByteArray) : Option Bool := some (Lib.hasPrefix a0.data.toList a1.data.toList)
theorem strings_HasPrefix.calls (a0 : ByteArray) (a1 : ByteArray) (r : Bool) (w : World) (h : strings_HasPrefix.f a0 a1 = some r) :
  Calls Tryz.prog 80 #[.string a0, .string a1] w fun e w' => e = .returned (.bool r) ∧ Drawn0 w w' := by
 obtain rfl := Option.some.inj h; exact (Go.Proofs.YtfncjddolbghlaaGreatDoor.Shelf.Tryz.strings_HasPrefix a0 a1 w).mono fun e w' ⟨he, hw⟩ => ⟨he, by subst hw; exact Drawn0.refl _⟩

end Go.Proofs.YtfncjddolbghlaaGreatDoor.GFnResps
