-- by gprint.py (this session's program over the kit's print.py) (a twelfth state) out of the translation. Not trusted: Lean checks it.
import Derived.Test.YtaajhdljdmbhhaaGreatDoorGFnPipesx0
import Derived.Test.YtaajhdljdmbhhaaGreatDoorGFnPipesx12
namespace Go.Proofs.YtaajhdljdmbhhaaGreatDoor.GFnPipes
open Go.RowKit Go.Proofs.YtaajhdljdmbhhaaGreatDoorW.PrintWords Go.Proofs.YtaajhdljdmbhhaaGreatDoorW.PrintLast Go.Proofs.YtaajhdljdmbhhaaGreatDoorW.PrintMore
attribute [local go_sem] max2_int min2_int max_two min_two max_three min_three max_four min_four   -- for this text's walks alone
set_option linter.unusedVariables false
set_option linter.unusedSimpArgs false
set_option maxRecDepth 100000
set_option maxHeartbeats 8000000

def impl_PutChunks.l0 : Nat → ByteArray → ByteArray → List Int → Int → Int → Option (List Int)
 | 0, _, _, _, _, _ => none
 | k + 1, x0, x5, x13, x14, x15 => if x15 < x14 then (if 0 ≤ x15 then (if x15 < (x13.length : Int) then (if (rd x13 x15) < 1 then (impl_PutChunks.l0 k x0 x5 x13 x14 (wrap64 (x15 + 1))) else (if x0.toList = ([] : List UInt8) then (impl_PutChunks.l0 k x0 x5 x13 x14 (wrap64 (x15 + 1))) else ((impl_Hex.f (mn (rd x13 x15) (x0.size : Int))).bind fun t536 => (if t536.size + 2 ≤ 9223372036854775807 then (if 0 ≤ (mn (rd x13 x15) (x0.size : Int)) then (if (mn (rd x13 x15) (x0.size : Int)) ≤ (x0.size : Int) then (if (t536 ++ (⟨#[13, 10]⟩ : BA)).size + (x0.extract 0 ((mn (rd x13 x15) (x0.size : Int)) : Int).toNat).size ≤ 9223372036854775807 then (if ((t536 ++ (⟨#[13, 10]⟩ : BA)) ++ (x0.extract 0 ((mn (rd x13 x15) (x0.size : Int)) : Int).toNat)).size + 2 ≤ 9223372036854775807 then (if x5.size + (((t536 ++ (⟨#[13, 10]⟩ : BA)) ++ (x0.extract 0 ((mn (rd x13 x15) (x0.size : Int)) : Int).toNat)) ++ (⟨#[13, 10]⟩ : BA)).size ≤ 9223372036854775807 then (impl_PutChunks.l0 k (x0.extract ((mn (rd x13 x15) (x0.size : Int)) : Int).toNat x0.size) (x5 ++ (((t536 ++ (⟨#[13, 10]⟩ : BA)) ++ (x0.extract 0 ((mn (rd x13 x15) (x0.size : Int)) : Int).toNat)) ++ (⟨#[13, 10]⟩ : BA))) x13 x14 (wrap64 (x15 + 1))) else (none)) else (none)) else (none)) else (none)) else (none)) else (none))))) else (none)) else (none)) else (if x5.size + 1 ≤ 9223372036854775807 then (if (x5 ++ (⟨#[48]⟩ : BA)).size + 2 ≤ 9223372036854775807 then (if ((x5 ++ (⟨#[48]⟩ : BA)) ++ (⟨#[13, 10]⟩ : BA)).size + 2 ≤ 9223372036854775807 then (if (((x5 ++ (⟨#[48]⟩ : BA)) ++ (⟨#[13, 10]⟩ : BA)) ++ (⟨#[13, 10]⟩ : BA)).size < 140737488355328 then (some (bytesOf (((x5 ++ (⟨#[48]⟩ : BA)) ++ (⟨#[13, 10]⟩ : BA)) ++ (⟨#[13, 10]⟩ : BA)))) else (none)) else (none)) else (none)) else (none))
def impl_PutChunks.f (k : Nat) (a0 : ByteArray) (l1 : List Int) : Option (List Int) := (impl_copyInts.f l1).bind fun t529 => (if t529.length < 17592186044416 then ((some (t529 ++ [(a0.size : Int)] : List Int)).bind fun y532 => (impl_PutChunks.l0 k a0 (⟨#[]⟩ : BA) y532 (y532.length : Int) 0)) else (none))

def impl_PutChunks.T7 : Bool × List (List Nat × List Nat) := (true, [([], []), ([], []), ([1], [1]), ([2], [2]), ([], []), ([], []), ([4, 5], [4, 5]), ([3, 6], [3, 6]), ([7], [7]), ([0, 8], [0, 8]), ([9, 2, 0, 1, 2, 3, 4, 5, 6, 7, 8, 9], [0, 9])])
def impl_PutChunks.B7 : List Nat := [0, 0, 2, 6, 0, 0, 48, 126, 254, 511, 1023]
theorem impl_PutChunks.tab7 : rtab .any (opsOf Tryz.f44 7) = impl_PutChunks.T7 := by kernel_rfl
theorem impl_PutChunks.bits7 : waitsOk impl_PutChunks.T7.2 impl_PutChunks.B7 = true := by kernel_rfl
theorem impl_PutChunks.calls (k : Nat) (a0 : ByteArray) (A1 : Option Addr) (c1 : Nat) (l1 : List Int) (r : List Int) (w : World) (hr1 : Kd.C (Kd.int .i64) w A1 l1.length l1) (hc1 : l1.length ≤ c1) (h : impl_PutChunks.f k a0 l1 = some r) (hG : GOK w) :
  Calls Tryz.prog 44 #[.string a0, .slice A1 l1.length c1] w fun e w' => ∃ v0_ : Value, e = .returned (v0_) ∧ Kd.R (Kd.int .u8) 5 w' w.heap.size (fun _ => True) v0_ r ∧ Below w.heap.size w w' := by
 have HR1 := aK hr1; have HC1 := aK hc1; clear hr1 hc1; have HB := aK (Below.refl w.heap.size w); have H := h; clear h; unfold impl_PutChunks.f at H
 replace H := oB H; obtain ⟨t529, A3, H⟩ := H; (try dsimp only at H); by_cases c4 : t529.length < 17592186044416
 ·rw [if_pos c4] at H; have LMc4 := aK c4; clear c4; (first | (with_reducible replace H := oS H; obtain ⟨y532, Ny532, H⟩ := H) | (generalize hy_ : (t529 ++ [(a0.size : Int)] : List Int) = y532 at H; have Ny532 := aK hy_.symm; clear hy_)); (try dsimp only at H); have H' := aK H; clear H; go_enter Tryz.func44, Tryz.ntmps44
  go_wp2_with (first | ((with_reducible refine gate_callee (f := 78) rfl ?_); refine goesL_ (some 9) rfl rfl Tryz.func78 (by kernel_rfl) rfl #[.slice A1 l1.length c1] rfl q2_ ?_; (with_reducible refine (impl_copyInts.calls _ _ l1 t529 _ ?side1 ?side2 A3.1).mono ?_); (case side1 => repeat (first | exact HR1.1 | (with_reducible refine Kd.C_alloc ?_ _) | (with_reducible refine Kd.C_drewN ?_ _) | (with_reducible refine Kd.C_drew ?_))); (case side2 => exact HC1.1); rintro e w5 ⟨v530, rfl, ho0, hb⟩; refine ⟨_, rfl, ?_⟩; have HO531 := aK (Kd.R_lower ho0 (below_size q1_)); replace HB := aK (below_step q1_ hb); clear hb ho0) | ((with_reducible refine gate_builtin (b := .append) (xs := #[.tmp 9, .tmp 12]) rfl ?_); at_builtin; refine Kd.R_append (Kd.int .i64) (w0 := w) w.heap.size rfl (.tmp 9) (.tmp 12) 55 3 (.int .i64 0) 8 rfl Tryz.underlying55 info3 rfl (by decide) (by omega) v530 t529 (a0.size : Int) [.int .i64 (a0.size : Int)] (fun _ => True) (fun _ => False) rfl rfl ?aP (fun _ hk => hk.elim) ?aF ?aO ?aB ?aS ?aL ?_; (case aP => exact rfl); (case aB => exact q1_); (case aF => exact q117_); (case aO => exact (by (with_reducible repeat (first | apply rA_ | apply rN_ | apply rD_)); exact HO531.1)); (case aS => exact q184_); (case aL => have := LMc4.1; omega); intro v533 w6 ho hb hg hat; rw [← Ny532.1] at ho; replace HB := aK (hb); have HO534 := aK (ho); clear HO531; clear ho hb hg hat; obtain ⟨Ao7, co7, eo7⟩ := Kd.R_slice HO534.1; subst eo7))
  go_loopg [0, 5, 15] k (fun kq v0 v5 v15 w' => ∃ (x0_1 : ByteArray) (x5_1 : ByteArray) (x15_1 : Int), v0 = .string x0_1 ∧ v5 = .string x5_1 ∧ v15 = .int .i64 x15_1 ∧ Aside0 (impl_PutChunks.l0 kq x0_1 x5_1 y532 (y532.length : Int) x15_1 = some r) ∧ Aside0 (kq ≤ k) ∧ Aside0 (Kd.R (Kd.int .i64) 3 w' w.heap.size (fun _ => True) (.slice Ao7 y532.length co7) y532) ∧ Aside0 (Below w.heap.size w w'))
  case atStart => exact ⟨(a0), ((⟨#[]⟩ : BA)), (0), q3_, q3_, q3_, H', ⟨Nat.le_refl _⟩, ⟨by (with_reducible repeat (first | apply rA_ | apply rN_ | apply rD_)); first | exact HO534.1 | exact Kd.R_mono HO534.1 (fun k_ h_ e_ => h_ (e_.trans (ob_len _ _ _ _ _)))⟩, ⟨q1_⟩⟩
  case round =>
   clear H'; (try clear c1); (try clear p2); (try clear c4); (try clear c7); obtain ⟨x0_1, x5_1, x15_1, rfl, rfl, rfl, HA, HK1, HO_13, HB⟩ := hrel; cases gk with
   | zero => exact absurd HA.1 (by simp [impl_PutChunks.l0])
   | succ k1 =>
    have H := HA.1; clear HA; simp only [impl_PutChunks.l0] at H; by_cases c8 : x15_1 < (y532.length : Int)
    ·rw [if_pos c8] at H; have c8b0 := decide_eq_true c8; clear c8; by_cases c9 : 0 ≤ x15_1
     ·rw [if_pos c9] at H; have c9b0 := decide_eq_true c9; clear c9; by_cases c10 : x15_1 < (y532.length : Int)
      ·rw [if_pos c10] at H; have c10b0 := decide_eq_true c10; clear c10; by_cases c11 : (rd y532 x15_1) < 1
       ·rw [if_pos c11] at H; have c11b0 := decide_eq_true c11; clear c11; have H' := aK H; clear H; have p535 : 0 ≤ (x15_1 : Int) := of_decide_eq_true q6_; have q535 : x15_1 < (y532.length : Int) := of_decide_eq_true q6_; obtain ⟨ad535, e535, hx535_0⟩ := Kd.at_int (Kd.R_reads' HO_13.1).2.2 x15_1 p535 q535; cases e535
        replace p535 := eq_true p535; replace q535 := eq_true q535; go_wp2
        go_roundg k1
        case measure => have := HK1.1; omega
        case rel => exact ⟨(x0_1), (x5_1), (wrap64 (x15_1 + 1)), q3_, q3_, q3_, H', ⟨q82_⟩, ⟨q110_⟩, ⟨q1_⟩⟩
       ·rw [if_neg c11] at H; have c11b0 := decide_eq_false c11; clear c11; by_cases c12 : x0_1.toList = ([] : List UInt8)
        ·rw [if_pos c12] at H; have c12b0 := beq_iff_eq.mpr c12; have c12b1 : (x0_1.toList != ([] : List UInt8)) = false := bne_eq_false_iff_eq.mpr c12; clear c12; have H' := aK H; clear H; have p535 : 0 ≤ (x15_1 : Int) := of_decide_eq_true q6_; have q535 : x15_1 < (y532.length : Int) := of_decide_eq_true q6_; obtain ⟨ad535, e535, hx535_0⟩ := Kd.at_int (Kd.R_reads' HO_13.1).2.2 x15_1 p535 q535; cases e535
         replace p535 := eq_true p535; replace q535 := eq_true q535; go_wp2
         go_roundg k1
         case measure => have := HK1.1; omega
         case rel => exact ⟨(x0_1), (x5_1), (wrap64 (x15_1 + 1)), q3_, q3_, q3_, H', ⟨q82_⟩, ⟨q110_⟩, ⟨q1_⟩⟩
        ·rw [if_neg c12] at H; have c12b0 := beq_eq_false_iff_ne.mpr c12; have c12b1 : (x0_1.toList != ([] : List UInt8)) = true := bne_iff_ne.mpr c12; obtain ⟨ji13, hji13⟩ : ∃ j_ : Int, (mn (rd y532 x15_1) (x0_1.size : Int)) = j_ := ⟨_, rfl⟩; replace H : ((impl_Hex.f (ji13)).bind fun t536 => (if t536.size + 2 ≤ 9223372036854775807 then (if 0 ≤ (ji13) then (if (ji13) ≤ (x0_1.size : Int) then (if (t536 ++ (⟨#[13, 10]⟩ : BA)).size + (x0_1.extract 0 ((ji13) : Int).toNat).size ≤ 9223372036854775807 then (if ((t536 ++ (⟨#[13, 10]⟩ : BA)) ++ (x0_1.extract 0 ((ji13) : Int).toNat)).size + 2 ≤ 9223372036854775807 then (if x5_1.size + (((t536 ++ (⟨#[13, 10]⟩ : BA)) ++ (x0_1.extract 0 ((ji13) : Int).toNat)) ++ (⟨#[13, 10]⟩ : BA)).size ≤ 9223372036854775807 then (impl_PutChunks.l0 k1 (x0_1.extract ((ji13) : Int).toNat x0_1.size) (x5_1 ++ (((t536 ++ (⟨#[13, 10]⟩ : BA)) ++ (x0_1.extract 0 ((ji13) : Int).toNat)) ++ (⟨#[13, 10]⟩ : BA))) y532 (y532.length : Int) (wrap64 (x15_1 + 1))) else (none)) else (none)) else (none)) else (none)) else (none)) else (none))) = some r := by first | (rw [hji13] at H; exact H) | (simp only [hji13] at H ⊢; exact H)
         have hji13_ : (if (x0_1.size : Int) < (rd y532 x15_1) then (x0_1.size : Int) else (rd y532 x15_1)) = ji13 := hji13; replace H := oB H; obtain ⟨t536, A14, H⟩ := H; (try dsimp only at H); by_cases c15 : t536.size + 2 ≤ 9223372036854775807
         ·rw [if_pos c15] at H; have c15b0 := eq_true c15; have c15b1 := decide_eq_true c15; try have c15b2 : (9223372036854775807 < t536.size + 2) = False := eq_false (Nat.not_lt.2 c15)
          by_cases c16 : 0 ≤ (ji13)
          ·rw [if_pos c16] at H; have c16b0 := eq_true c16; have c16b1 := decide_eq_true c16; clear c16; by_cases c17 : (ji13) ≤ (x0_1.size : Int)
           ·rw [if_pos c17] at H; have c17b0 := eq_true c17; have c17b1 := decide_eq_true c17; clear c17; by_cases c18 : (t536 ++ (⟨#[13, 10]⟩ : BA)).size + (x0_1.extract 0 ((ji13) : Int).toNat).size ≤ 9223372036854775807
            ·rw [if_pos c18] at H; have c18b0 := eq_true c18; have c18b1 := decide_eq_true c18; try have c18b2 : (9223372036854775807 < (t536 ++ (⟨#[13, 10]⟩ : BA)).size + (x0_1.extract 0 ((ji13) : Int).toNat).size) = False := eq_false (Nat.not_lt.2 c18)
             have c18s : t536.size + 2 + (x0_1.extract 0 ((ji13) : Int).toNat).size ≤ 9223372036854775807 := by have h_ := c18; simp only [ByteArray.size_append] at h_; exact h_
             have c18s0 := eq_true c18s; have c18s1 : decide (t536.size + 2 + (x0_1.extract 0 ((ji13) : Int).toNat).size ≤ 9223372036854775807) = true := decide_eq_true c18s; have c18s2 : (9223372036854775807 < t536.size + 2 + (x0_1.extract 0 ((ji13) : Int).toNat).size) = False := eq_false (Nat.not_lt.2 c18s); have c18t : t536.size + 2 + ji13.toNat ≤ 9223372036854775807 := by have h_ := c18s; have dc17_ := of_decide_eq_true c17b1; simp only [ByteArray.size_extract] at h_; omega
             have c18t0 := eq_true c18t; have c18t1 : decide (t536.size + 2 + ji13.toNat ≤ 9223372036854775807) = true := decide_eq_true c18t; have c18t2 : (9223372036854775807 < t536.size + 2 + ji13.toNat) = False := eq_false (Nat.not_lt.2 c18t); by_cases c19 : ((t536 ++ (⟨#[13, 10]⟩ : BA)) ++ (x0_1.extract 0 ((ji13) : Int).toNat)).size + 2 ≤ 9223372036854775807
             ·rw [if_pos c19] at H; have c19b0 := eq_true c19; have c19b1 := decide_eq_true c19; try have c19b2 : (9223372036854775807 < ((t536 ++ (⟨#[13, 10]⟩ : BA)) ++ (x0_1.extract 0 ((ji13) : Int).toNat)).size + 2) = False := eq_false (Nat.not_lt.2 c19)
              have c19s : t536.size + 2 + (x0_1.extract 0 ((ji13) : Int).toNat).size + 2 ≤ 9223372036854775807 := by have h_ := c19; simp only [ByteArray.size_append] at h_; exact h_
              have c19s0 := eq_true c19s; have c19s1 : decide (t536.size + 2 + (x0_1.extract 0 ((ji13) : Int).toNat).size + 2 ≤ 9223372036854775807) = true := decide_eq_true c19s; have c19s2 : (9223372036854775807 < t536.size + 2 + (x0_1.extract 0 ((ji13) : Int).toNat).size + 2) = False := eq_false (Nat.not_lt.2 c19s); have c19t : t536.size + 2 + ji13.toNat + 2 ≤ 9223372036854775807 := by have h_ := c19s; have dc17_ := of_decide_eq_true c17b1; simp only [ByteArray.size_extract] at h_; omega
              have c19t0 := eq_true c19t; have c19t1 : decide (t536.size + 2 + ji13.toNat + 2 ≤ 9223372036854775807) = true := decide_eq_true c19t; have c19t2 : (9223372036854775807 < t536.size + 2 + ji13.toNat + 2) = False := eq_false (Nat.not_lt.2 c19t); by_cases c20 : x5_1.size + (((t536 ++ (⟨#[13, 10]⟩ : BA)) ++ (x0_1.extract 0 ((ji13) : Int).toNat)) ++ (⟨#[13, 10]⟩ : BA)).size ≤ 9223372036854775807
              ·rw [if_pos c20] at H; have c20b0 := eq_true c20; have c20b1 := decide_eq_true c20; try have c20b2 : (9223372036854775807 < x5_1.size + (((t536 ++ (⟨#[13, 10]⟩ : BA)) ++ (x0_1.extract 0 ((ji13) : Int).toNat)) ++ (⟨#[13, 10]⟩ : BA)).size) = False := eq_false (Nat.not_lt.2 c20)
               have c20s : x5_1.size + (t536.size + 2 + (x0_1.extract 0 ((ji13) : Int).toNat).size + 2) ≤ 9223372036854775807 := by have h_ := c20; simp only [ByteArray.size_append] at h_; exact h_
               have c20s0 := eq_true c20s; have c20s1 : decide (x5_1.size + (t536.size + 2 + (x0_1.extract 0 ((ji13) : Int).toNat).size + 2) ≤ 9223372036854775807) = true := decide_eq_true c20s; have c20s2 : (9223372036854775807 < x5_1.size + (t536.size + 2 + (x0_1.extract 0 ((ji13) : Int).toNat).size + 2)) = False := eq_false (Nat.not_lt.2 c20s); have c20t : x5_1.size + (t536.size + 2 + ji13.toNat + 2) ≤ 9223372036854775807 := by have h_ := c20s; have dc17_ := of_decide_eq_true c17b1; simp only [ByteArray.size_extract] at h_; omega
               have c20t0 := eq_true c20t; have c20t1 : decide (x5_1.size + (t536.size + 2 + ji13.toNat + 2) ≤ 9223372036854775807) = true := decide_eq_true c20t; have c20t2 : (9223372036854775807 < x5_1.size + (t536.size + 2 + ji13.toNat + 2)) = False := eq_false (Nat.not_lt.2 c20t); have c21b0 := eq_true (of_decide_eq_true q6_ : 0 ≤ (ji13)); have c22b0 := eq_true (of_decide_eq_true q6_ : (ji13) ≤ (x0_1.size : Int)); have H' := aK H; clear H; have p535 : 0 ≤ (x15_1 : Int) := of_decide_eq_true q6_; have q535 : x15_1 < (y532.length : Int) := of_decide_eq_true q6_; obtain ⟨ad535, e535, hx535_0⟩ := Kd.at_int (Kd.R_reads' HO_13.1).2.2 x15_1 p535 q535; cases e535
               replace p535 := eq_true p535; replace q535 := eq_true q535; try go_wp2
               replace HO_13 := aK (rD_ HO_13.1); replace HB := aK (dB_ HB.1); refine start_ (n := 11) (S := fun w' => True) (ds := []) #[Z, Z, Z, Z, Z, Z, Z, Z, Z, Z, Z] (by kernel_rfl) rfl rfl trivial (fun hHeld => ?_); refine with_tabW impl_PutChunks.tab7 impl_PutChunks.bits7 (fun HT_ HW_ => ?_); generalize wr.drew = w23 at HO_13 HB hHeld ⊢; refine pz_ 0 (some 29) HT_.1 ?_; refine pz_ 1 (some 30) HT_.1 ?_; refine pz_ 4 (some 33) HT_.1 ?_; refine pz_ 5 (some 34) HT_.1 ?_; refine pz_ 6 (some 35) HT_.1 ?_; refine oz_ 2 (some 31) HT_.1 (fun K hK => ?_); refine goes_ Tryz.func79 (by kernel_rfl) rfl #[.int .i64 ji13] (by rfl) rfl rfl (by (try simp only [List.map_toArray, List.map_cons, List.map_nil]); first | done | (simp only [hji13]; rfl) | rfl | (simp only [List.length_drop, List.length_take]; rfl)) ?_; with_reducible refine (impl_Hex.calls ji13 t536 _ A14.1 ?side99).mono ?_
               (case side99 => exact q16_); rintro e w24 ⟨rfl, hb⟩; refine ⟨_, rfl, ?_⟩; replace HO_13 := aK (Kd.R_below (by (with_reducible repeat (first | apply rA_ | apply rN_ | apply rD_)); exact HO_13.1) hb); replace HB := aK (below_step q1_ hb); clear hb; refine hK.out _ _ trivial (fun hHeld => ?_); clear hK K; refine nz_ (some 31) ?_; refine pz_ 3 (some 32) HT_.1 ?_; refine pz_ 7 (some 36) HT_.1 ?_; refine pz_ 8 (some 37) HT_.1 ?_; refine pz_ 9 (some 38) HT_.1 ?_; refine pz_ 10 (some 5) HT_.1 ?_; refine done_ (done_of HT_.1 (by kernel_rfl)) ?_; try go_wp2
               go_roundg k1
               case measure => have := HK1.1; omega
               case rel => exact ⟨(x0_1.extract ((ji13) : Int).toNat x0_1.size), (x5_1 ++ (((t536 ++ (⟨#[13, 10]⟩ : BA)) ++ (x0_1.extract 0 ((ji13) : Int).toNat)) ++ (⟨#[13, 10]⟩ : BA))), (wrap64 (x15_1 + 1)), q178_, q178_, q3_, H', ⟨q82_⟩, ⟨q110_⟩, ⟨q1_⟩⟩
              ·rw [if_neg c20] at H; exact absurd H (by simp)
             ·rw [if_neg c19] at H; exact absurd H (by simp)
            ·rw [if_neg c18] at H; exact absurd H (by simp)
           ·rw [if_neg c17] at H; exact absurd H (by simp)
          ·rw [if_neg c16] at H; exact absurd H (by simp)
         ·rw [if_neg c15] at H; exact absurd H (by simp)
      ·rw [if_neg c10] at H; exact absurd H (by simp)
     ·rw [if_neg c9] at H; exact absurd H (by simp)
    ·rw [if_neg c8] at H; have c8b0 := decide_eq_false c8; clear c8; by_cases c25 : x5_1.size + 1 ≤ 9223372036854775807
     ·rw [if_pos c25] at H; have c25b0 := eq_true c25; have c25b1 := decide_eq_true c25; try have c25b2 : (9223372036854775807 < x5_1.size + 1) = False := eq_false (Nat.not_lt.2 c25)
      by_cases c26 : (x5_1 ++ (⟨#[48]⟩ : BA)).size + 2 ≤ 9223372036854775807
      ·rw [if_pos c26] at H; have c26b0 := eq_true c26; have c26b1 := decide_eq_true c26; try have c26b2 : (9223372036854775807 < (x5_1 ++ (⟨#[48]⟩ : BA)).size + 2) = False := eq_false (Nat.not_lt.2 c26)
       have c26s : x5_1.size + 1 + 2 ≤ 9223372036854775807 := by have h_ := c26; simp only [ByteArray.size_append] at h_; exact h_
       have c26s0 := eq_true c26s; have c26s1 : decide (x5_1.size + 1 + 2 ≤ 9223372036854775807) = true := decide_eq_true c26s; have c26s2 : (9223372036854775807 < x5_1.size + 1 + 2) = False := eq_false (Nat.not_lt.2 c26s); by_cases c27 : ((x5_1 ++ (⟨#[48]⟩ : BA)) ++ (⟨#[13, 10]⟩ : BA)).size + 2 ≤ 9223372036854775807
       ·rw [if_pos c27] at H; have c27b0 := eq_true c27; have c27b1 := decide_eq_true c27; try have c27b2 : (9223372036854775807 < ((x5_1 ++ (⟨#[48]⟩ : BA)) ++ (⟨#[13, 10]⟩ : BA)).size + 2) = False := eq_false (Nat.not_lt.2 c27)
        have c27s : x5_1.size + 1 + 2 + 2 ≤ 9223372036854775807 := by have h_ := c27; simp only [ByteArray.size_append] at h_; exact h_
        have c27s0 := eq_true c27s; have c27s1 : decide (x5_1.size + 1 + 2 + 2 ≤ 9223372036854775807) = true := decide_eq_true c27s; have c27s2 : (9223372036854775807 < x5_1.size + 1 + 2 + 2) = False := eq_false (Nat.not_lt.2 c27s); by_cases c28 : (((x5_1 ++ (⟨#[48]⟩ : BA)) ++ (⟨#[13, 10]⟩ : BA)) ++ (⟨#[13, 10]⟩ : BA)).size < 140737488355328
        ·rw [if_pos c28] at H; have LMc28 := aK c28; clear c28; (first | (with_reducible replace H := oS H; obtain ⟨y537, Ny537, H⟩ := H) | (generalize hy_ : (bytesOf (((x5_1 ++ (⟨#[48]⟩ : BA)) ++ (⟨#[13, 10]⟩ : BA)) ++ (⟨#[13, 10]⟩ : BA)) : List Int) = y537 at H; have Ny537 := aK hy_.symm; clear hy_)); (try dsimp only at H); obtain rfl := Option.some.inj H; go_wp2_with (first | ((with_reducible refine gate_ (.convert 9 22 _) rfl ?_); refine Kd.R_conv_str (w0 := w) w.heap.size rfl 9 22 5 _ rfl Tryz.underlying9 Tryz.underlying22 Tryz.underlying5 (((x5_1 ++ (⟨#[48]⟩ : BA)) ++ (⟨#[13, 10]⟩ : BA)) ++ (⟨#[13, 10]⟩ : BA)) (fun _ => True) rfl ?aF ?aO ?aB ?aS ?aL ?_; (case aB => exact q1_); (case aF => exact q117_); (case aO => exact q118_); (case aS => exact q184_); (case aL => have := LMc28.1; omega); intro v538 w29 ho hb hg hat; rw [← Ny537.1] at ho; replace HO_13 := aK (Kd.R_grown (by (with_reducible repeat (first | apply rA_ | apply rN_ | apply rD_)); exact HO_13.1) hg (fun _ _ => by simp [Value.ownBlock])); replace HB := aK (hb); have HO539 := aK (ho); clear ho hb hg hat))
         go_ret
         exact ⟨_, q9_, by (with_reducible repeat (first | apply rA_ | apply rN_ | apply rD_)); exact HO539.1, q1_⟩
        ·rw [if_neg c28] at H; exact absurd H (by simp)
       ·rw [if_neg c27] at H; exact absurd H (by simp)
      ·rw [if_neg c26] at H; exact absurd H (by simp)
     ·rw [if_neg c25] at H; exact absurd H (by simp)
 ·rw [if_neg c4] at H; exact absurd H (by simp)

def impl_PutChunked.f (k : Nat) (a0_0 : ByteArray) (a0_1 : ByteArray) (l0_2 : List (S113)) (a0_3 : ByteArray) (l1 : List Int) : Option (List Int) := (impl_PutChunks.f k a0_3 l1).bind fun t541 => ((impl_putReq.f k a0_0 a0_1 l0_2 a0_3 (⟨#[116, 114, 97, 110, 115, 102, 101, 114, 45, 101, 110, 99, 111, 100, 105, 110, 103, 58, 32, 99, 104, 117, 110, 107, 101, 100, 13, 10]⟩ : BA) t541).bind fun t544 => (some t544))

theorem impl_PutChunked.calls (k : Nat) (a0_0 : ByteArray) (a0_1 : ByteArray) (A0_2 : Option Addr) (c0_2 : Nat) (l0_2 : List (S113)) (a0_3 : ByteArray) (A1 : Option Addr) (c1 : Nat) (l1 : List Int) (r : List Int) (w : World) (hr0_2 : Kd.C k113 w A0_2 l0_2.length l0_2) (hc0_2 : l0_2.length ≤ c0_2) (hr1 : Kd.C (Kd.int .i64) w A1 l1.length l1) (hc1 : l1.length ≤ c1) (h : impl_PutChunked.f k a0_0 a0_1 l0_2 a0_3 l1 = some r) (hG : GOK w) :
  Calls Tryz.prog 38 #[.agg #[.string a0_0, .string a0_1, .slice A0_2 l0_2.length c0_2, .string a0_3], .slice A1 l1.length c1] w fun e w' => ∃ v0_ : Value, e = .returned (v0_) ∧ Kd.R (Kd.int .u8) 5 w' w.heap.size (fun _ => True) v0_ r ∧ Below w.heap.size w w' := by
 have hu53 := Tryz.underlying53; have HR0_2 := aK hr0_2; have HC0_2 := aK hc0_2; clear hr0_2 hc0_2; have HR1 := aK hr1; have HC1 := aK hc1; clear hr1 hc1; have HB := aK (Below.refl w.heap.size w); have H := h; clear h; unfold impl_PutChunked.f at H
 replace H := oB H; obtain ⟨t541, A3, H⟩ := H; (try dsimp only at H); replace H := oB H; obtain ⟨t544, A4, H⟩ := H; (try dsimp only at H); obtain rfl := Option.some.inj H; go_enter Tryz.func38, Tryz.ntmps38
 try go_wp2_with (first | ((with_reducible refine gate_dst (N := 2) rfl ?_); refine box_event ?hg (N := 2) ?hd (cs := #[.string a0_0, .string a0_1, .slice A0_2 l0_2.length c0_2, .string a0_3]) (t := 53) ?hr ?_; (case hd => rfl); (case hg => rfl); (case hr => exact q20_); intro gb540 hg w5 hbox hb; have BK540 := aK (hbox); have GW540 := aK ((q31_ : w.heap.size ≤ gb540)); have GE540 := aK ((q31_ : w.heap.size ≤ gb540)); replace HB := aK (below_step q1_ hb); clear hb hbox hg))
 replace BK540 := aK (bD_ BK540.1); replace HB := aK (dB_ HB.1); refine start_ (n := 7) (S := fun w' => w'.cell? ⟨gb540, 0, none⟩ = some (.string a0_0) ∧ w'.cell? ⟨gb540, 1, none⟩ = some (.string a0_1) ∧ w'.cell? ⟨gb540, 2, none⟩ = some (.slice A0_2 l0_2.length c0_2) ∧ w'.cell? ⟨gb540, 3, none⟩ = some (.string a0_3)) (ds := []) #[Z, Z, Z, Z, Z, Z, Z] (by kernel_rfl) rfl rfl ⟨(bc_ BK540.1 0).trans rfl, (bc_ BK540.1 1).trans rfl, (bc_ BK540.1 2).trans rfl, (bc_ BK540.1 3).trans rfl⟩ (fun hHeld => ?_); generalize w5.drew = w6 at BK540 HB hHeld ⊢; refine pk_ 1 (some 6) ?_; refine pk_ 3 (some 8) ?_; refine tk_ 0 (some 5) hHeld ?_; refine tk_ 2 (some 7) hHeld ?_; refine ok_ 4 (some 9) (fun K hK => ?_); refine goes_ Tryz.func44 (by kernel_rfl) rfl #[.string a0_3, .slice A1 l1.length c1] (by rfl) rfl rfl q2_ ?_; with_reducible refine (impl_PutChunks.calls k a0_3 _ _ l1 t541 _ ?side1 ?side2 A3.1 ?side99).mono ?_
 (case side1 => exact q162_); (case side2 => exact HC1.1); (case side99 => first | (with_reducible exact hG) | (refine GOK_below hG ?_; (repeat (first | (with_reducible first | exact HB.1 | apply aB_ | apply pN_ | apply dB_ | refine sB_ ?_ GE540.1) | exact HB.1)); done) | (refine GOK_drawn hG ?_; (repeat (first | exact Drawn0.refl _ | apply Drawn0.step)); done) | exact hG); rintro e w7 ⟨v542, rfl, ho0, hb⟩; refine ⟨_, rfl, ?_⟩; have HO543 := aK (Kd.R_lower ho0 (below_size q81_)); replace BK540 := aK (bbk_ BK540.1 hb); replace HB := aK (below_step q81_ hb); clear hb ho0; obtain ⟨Ao8, co8, eo8⟩ := Kd.R_slice HO543.1; (first | subst eo8 | (injection eo8 with f1_ f2_ f3_; have f4_ := f1_.symm; have f5_ := f3_.symm; clear f1_ f2_ f3_; subst f4_; subst f5_)); refine hK.out _ _ ⟨(bc_ BK540.1 0).trans rfl, (bc_ BK540.1 1).trans rfl, (bc_ BK540.1 2).trans rfl, (bc_ BK540.1 3).trans rfl⟩ (fun hHeld => ?_); clear hK K; refine nz_ (some 9) ?_; refine ok_ 5 (some 10) (fun K hK => ?_); refine goes_ Tryz.func71 (by kernel_rfl) rfl #[.agg #[.string a0_0, .string a0_1, .slice A0_2 l0_2.length c0_2, .string a0_3], .string (⟨#[116, 114, 97, 110, 115, 102, 101, 114, 45, 101, 110, 99, 111, 100, 105, 110, 103, 58, 32, 99, 104, 117, 110, 107, 101, 100, 13, 10]⟩ : BA), .slice Ao8 t541.length co8] (by rfl) rfl rfl q2_ ?_; with_reducible refine (impl_putReq.calls k a0_0 a0_1 _ _ l0_2 a0_3 (⟨#[116, 114, 97, 110, 115, 102, 101, 114, 45, 101, 110, 99, 111, 100, 105, 110, 103, 58, 32, 99, 104, 117, 110, 107, 101, 100, 13, 10]⟩ : BA) _ _ t541 t544 _ ?side1 ?side2 ?side3 ?side4 A4.1).mono ?_
 (case side1 => exact q22_); (case side2 => exact q128_); (case side3 => repeat (first | exact (Kd.R_reads' HO543.1).2.2 | (with_reducible refine Kd.C_alloc ?_ _) | (with_reducible refine Kd.C_drewN ?_ _) | (with_reducible refine Kd.C_drew ?_))); (case side4 => exact (Kd.R_reads' HO543.1).2.1); rintro e w9 ⟨v545, rfl, ho0, hb⟩; refine ⟨_, rfl, ?_⟩; have HO546 := aK (Kd.R_lower (Kd.R_new' ho0 (Kd.R_lt (by (with_reducible repeat (first | apply rA_ | apply rN_ | apply rD_)); exact HO543.1))) (below_size q81_)); replace HO543 := aK (Kd.R_elder' (by (with_reducible repeat (first | apply rA_ | apply rN_ | apply rD_)); exact HO543.1) (Kd.R_base ho0) hb); replace BK540 := aK (bbk_ BK540.1 hb); replace HB := aK (below_step q81_ hb); clear hb ho0; refine hK.out _ _ ⟨(bc_ BK540.1 0).trans rfl, (bc_ BK540.1 1).trans rfl, (bc_ BK540.1 2).trans rfl, (bc_ BK540.1 3).trans rfl⟩ (fun hHeld => ?_); clear hK K; refine nz_ (some 10) ?_; refine pk_ 6 (some 4) ?_; refine done_ (by kernel_rfl) ?_; try go_wp2
 go_ret
 exact ⟨_, q9_, by (with_reducible repeat (first | apply rA_ | apply rN_ | apply rD_)); exact Kd.R_mono HO546.1 (fun _ hk => trivial), q81_⟩

def spec_l3HeadsText.l0 : Nat → List (S113) → ByteArray → Int → Option (ByteArray)
 | 0, _, _, _ => none
 | k + 1, x0, x3, x4 => if x4 < (x0.length : Int) then (if 0 ≤ x4 then (if x3.size + ((rd_T113 x0 x4).f0).size ≤ 9223372036854775807 then (if (x3 ++ ((rd_T113 x0 x4).f0)).size + 2 ≤ 9223372036854775807 then (if ((x3 ++ ((rd_T113 x0 x4).f0)) ++ (⟨#[58, 32]⟩ : BA)).size + ((rd_T113 x0 x4).f1).size ≤ 9223372036854775807 then (if (((x3 ++ ((rd_T113 x0 x4).f0)) ++ (⟨#[58, 32]⟩ : BA)) ++ ((rd_T113 x0 x4).f1)).size + 2 ≤ 9223372036854775807 then (spec_l3HeadsText.l0 k x0 ((((x3 ++ ((rd_T113 x0 x4).f0)) ++ (⟨#[58, 32]⟩ : BA)) ++ ((rd_T113 x0 x4).f1)) ++ (⟨#[13, 10]⟩ : BA)) (wrap64 (x4 + 1))) else (none)) else (none)) else (none)) else (none)) else (none)) else (some x3)
def spec_l3HeadsText.f (k : Nat) (l0 : List (S113)) : Option (ByteArray) := spec_l3HeadsText.l0 k l0 (⟨#[]⟩ : BA) 0

theorem spec_l3HeadsText.calls (k : Nat) (A0 : Option Addr) (c0 : Nat) (l0 : List (S113)) (r : ByteArray) (w : World) (hr0 : Kd.C k113 w A0 l0.length l0) (hc0 : l0.length ≤ c0) (h : spec_l3HeadsText.f k l0 = some r) :
  Calls Tryz.prog 98 #[.slice A0 l0.length c0] w fun e w' => e = .returned (.string r) ∧ Drawn0 w w' := by
 have HR0 := aK hr0; have HC0 := aK hc0; clear hr0 hc0; have H : (spec_l3HeadsText.l0 k l0 (⟨#[]⟩ : BA) 0) = some r := h; clear h; have H' := aK H; clear H; go_enter Tryz.func98, Tryz.ntmps98
 go_wp2
 repeat (go_quiet (fail); try go_wp2)
 go_loopg [3, 4] k (fun kq v3 v4 w' => ∃ (x3_1 : ByteArray) (x4_1 : Int), v3 = .string x3_1 ∧ v4 = .int .i64 x4_1 ∧ Aside0 (spec_l3HeadsText.l0 kq l0 x3_1 x4_1 = some r) ∧ Aside0 (kq ≤ k) ∧ Drawn0 w w')
 case atStart => exact ⟨((⟨#[]⟩ : BA)), (0), q3_, q3_, H', ⟨Nat.le_refl _⟩, q14_⟩
 case round =>
  clear H'; obtain ⟨x3_1, x4_1, rfl, rfl, HA, HK1, ⟨m1, rfl⟩⟩ := hrel; cases gk with
  | zero => exact absurd HA.1 (by simp [spec_l3HeadsText.l0])
  | succ k1 =>
   have H := HA.1; clear HA; simp only [spec_l3HeadsText.l0] at H; by_cases c2 : x4_1 < (l0.length : Int)
   ·rw [if_pos c2] at H; have c2b0 := decide_eq_true c2; clear c2; by_cases c3 : 0 ≤ x4_1
    ·rw [if_pos c3] at H; have c3b0 := decide_eq_true c3; clear c3; by_cases c4 : x3_1.size + ((rd_T113 l0 x4_1).f0).size ≤ 9223372036854775807
     ·rw [if_pos c4] at H; have c4b0 := eq_true c4; have c4b1 := decide_eq_true c4; try have c4b2 : (9223372036854775807 < x3_1.size + ((rd_T113 l0 x4_1).f0).size) = False := eq_false (Nat.not_lt.2 c4)
      by_cases c5 : (x3_1 ++ ((rd_T113 l0 x4_1).f0)).size + 2 ≤ 9223372036854775807
      ·rw [if_pos c5] at H; have c5b0 := eq_true c5; have c5b1 := decide_eq_true c5; try have c5b2 : (9223372036854775807 < (x3_1 ++ ((rd_T113 l0 x4_1).f0)).size + 2) = False := eq_false (Nat.not_lt.2 c5)
       have c5s : x3_1.size + ((rd_T113 l0 x4_1).f0).size + 2 ≤ 9223372036854775807 := q155_; have c5s0 := eq_true c5s; have c5s1 : decide (x3_1.size + ((rd_T113 l0 x4_1).f0).size + 2 ≤ 9223372036854775807) = true := decide_eq_true c5s; have c5s2 : (9223372036854775807 < x3_1.size + ((rd_T113 l0 x4_1).f0).size + 2) = False := eq_false (Nat.not_lt.2 c5s); by_cases c6 : ((x3_1 ++ ((rd_T113 l0 x4_1).f0)) ++ (⟨#[58, 32]⟩ : BA)).size + ((rd_T113 l0 x4_1).f1).size ≤ 9223372036854775807
       ·rw [if_pos c6] at H; have c6b0 := eq_true c6; have c6b1 := decide_eq_true c6; try have c6b2 : (9223372036854775807 < ((x3_1 ++ ((rd_T113 l0 x4_1).f0)) ++ (⟨#[58, 32]⟩ : BA)).size + ((rd_T113 l0 x4_1).f1).size) = False := eq_false (Nat.not_lt.2 c6)
        have c6s : x3_1.size + ((rd_T113 l0 x4_1).f0).size + 2 + ((rd_T113 l0 x4_1).f1).size ≤ 9223372036854775807 := q132_; have c6s0 := eq_true c6s; have c6s1 : decide (x3_1.size + ((rd_T113 l0 x4_1).f0).size + 2 + ((rd_T113 l0 x4_1).f1).size ≤ 9223372036854775807) = true := decide_eq_true c6s; have c6s2 : (9223372036854775807 < x3_1.size + ((rd_T113 l0 x4_1).f0).size + 2 + ((rd_T113 l0 x4_1).f1).size) = False := eq_false (Nat.not_lt.2 c6s); by_cases c7 : (((x3_1 ++ ((rd_T113 l0 x4_1).f0)) ++ (⟨#[58, 32]⟩ : BA)) ++ ((rd_T113 l0 x4_1).f1)).size + 2 ≤ 9223372036854775807
        ·rw [if_pos c7] at H; have c7b0 := eq_true c7; have c7b1 := decide_eq_true c7; try have c7b2 : (9223372036854775807 < (((x3_1 ++ ((rd_T113 l0 x4_1).f0)) ++ (⟨#[58, 32]⟩ : BA)) ++ ((rd_T113 l0 x4_1).f1)).size + 2) = False := eq_false (Nat.not_lt.2 c7)
         have c7s : x3_1.size + ((rd_T113 l0 x4_1).f0).size + 2 + ((rd_T113 l0 x4_1).f1).size + 2 ≤ 9223372036854775807 := q154_; have c7s0 := eq_true c7s; have c7s1 : decide (x3_1.size + ((rd_T113 l0 x4_1).f0).size + 2 + ((rd_T113 l0 x4_1).f1).size + 2 ≤ 9223372036854775807) = true := decide_eq_true c7s; have c7s2 : (9223372036854775807 < x3_1.size + ((rd_T113 l0 x4_1).f0).size + 2 + ((rd_T113 l0 x4_1).f1).size + 2) = False := eq_false (Nat.not_lt.2 c7s); have H' := aK H; clear H; have p547 : 0 ≤ (x4_1 : Int) := of_decide_eq_true q6_; have q547 : x4_1 < (l0.length : Int) := of_decide_eq_true q6_; obtain ⟨ad547, e547, hx547_0, hx547_1⟩ := at_T113 HR0.1 x4_1 p547 q547; cases e547
         replace p547 := eq_true p547; replace q547 := eq_true q547; have p548 : 0 ≤ (x4_1 : Int) := of_decide_eq_true q6_; have q548 : x4_1 < (l0.length : Int) := of_decide_eq_true q6_; obtain ⟨ad548, e548, hx548_0, hx548_1⟩ := at_T113 HR0.1 x4_1 p548 q548; obtain rfl : ad547 = ad548 := (by injection e548); replace p548 := eq_true p548; replace q548 := eq_true q548; go_wp2
         repeat (go_quiet (fail); try go_wp2)
         go_roundg k1
         case measure => have := HK1.1; omega
         case rel => exact ⟨((((x3_1 ++ ((rd_T113 l0 x4_1).f0)) ++ (⟨#[58, 32]⟩ : BA)) ++ ((rd_T113 l0 x4_1).f1)) ++ (⟨#[13, 10]⟩ : BA)), (wrap64 (x4_1 + 1)), q3_, q3_, H', ⟨q82_⟩, q14_⟩
        ·rw [if_neg c7] at H; exact absurd H (by simp)
       ·rw [if_neg c6] at H; exact absurd H (by simp)
      ·rw [if_neg c5] at H; exact absurd H (by simp)
     ·rw [if_neg c4] at H; exact absurd H (by simp)
    ·rw [if_neg c3] at H; exact absurd H (by simp)
   ·rw [if_neg c2] at H; have c2b0 := decide_eq_false c2; clear c2; obtain rfl := Option.some.inj H; go_wp2
    repeat (go_quiet (fail); try go_wp2)
    go_ret
    exact ⟨q3_, q14_⟩

def spec_l1In.f (a0 : Int) (a1 : Int) (a2 : Int) : Option (Bool) := if a0 ≥ a1 then (some (decide (a0 ≤ a2))) else (some false)
theorem spec_l1In.calls (a0 : Int) (a1 : Int) (a2 : Int) (r : Bool) (w : World) (h : spec_l1In.f a0 a1 a2 = some r) :
  Calls Tryz.prog 84 #[.int .i64 a0, .int .i64 a1, .int .i64 a2] w fun e w' => e = .returned (.bool r) ∧ Drawn0 w w' := by
 have H : (if a0 ≥ a1 then (some (decide (a0 ≤ a2))) else (some false)) = some r := h; clear h; by_cases c4 : a0 ≥ a1
 ·rw [if_pos c4] at H; have c4b0 : decide (a1 ≤ a0) = true := decide_eq_true c4; clear c4; obtain rfl := Option.some.inj H; go_enter Tryz.func84, Tryz.ntmps84
  go_wp2
  go_ret
  exact ⟨q3_, q14_⟩
 ·rw [if_neg c4] at H; have c4b0 : decide (a1 ≤ a0) = false := decide_eq_false c4; clear c4; obtain rfl := Option.some.inj H; go_enter Tryz.func84, Tryz.ntmps84
  go_wp2
  go_ret
  exact ⟨q3_, q14_⟩

def spec_l1Large.f (a0 : Int) : Option (Bool) := (spec_l1In.f (wrap64 (a0)) 65 90).bind fun t549 => (some t549)
theorem spec_l1Large.calls (a0 : Int) (r : Bool) (w : World) (h : spec_l1Large.f a0 = some r) :
  Calls Tryz.prog 146 #[.int .u8 a0] w fun e w' => e = .returned (.bool r) ∧ Drawn0 w w' := by
 have H : ((spec_l1In.f (wrap64 (a0)) 65 90).bind fun t549 => (some t549)) = some r := h; clear h; replace H := oB H; obtain ⟨t549, A2, H⟩ := H; (try dsimp only at H); obtain rfl := Option.some.inj H; go_enter Tryz.func146, Tryz.ntmps146
 go_wp2_with (first | ((with_reducible refine gate_callee (f := 84) rfl ?_); refine goesL_ (some 5) rfl rfl Tryz.func84 (by kernel_rfl) rfl #[.int .i64 (wrap64 (a0)), .int .i64 65, .int .i64 90] rfl q2_ ?_; (with_reducible refine (spec_l1In.calls (wrap64 (a0)) 65 90 t549 _ A2.1).mono ?_); rintro e w' ⟨rfl, ⟨nd, rfl⟩⟩; refine ⟨_, rfl, ?_⟩))
 go_ret
 exact ⟨q3_, q14_⟩

def spec_l3Method.l0 : Nat → ByteArray → Int → Option (Bool)
 | 0, _, _ => none
 | k + 1, x0, x3 => if x3 < (x0.size : Int) then (if 0 ≤ x3 then ((spec_l1Large.f (bt x0 x3)).bind fun t550 => (if t550 = true then (spec_l3Method.l0 k x0 (wrap64 (x3 + 1))) else (some false))) else (none)) else ((spec_l1In.f (x0.size : Int) 1 9).bind fun t551 => (some t551))
def spec_l3Method.f (k : Nat) (a0 : ByteArray) : Option (Bool) := spec_l3Method.l0 k a0 0

theorem spec_l3Method.calls (k : Nat) (a0 : ByteArray) (r : Bool) (w : World) (h : spec_l3Method.f k a0 = some r) :
  Calls Tryz.prog 121 #[.string a0] w fun e w' => e = .returned (.bool r) ∧ Drawn0 w w' := by
 have H : (spec_l3Method.l0 k a0 0) = some r := h; clear h; have H' := aK H; clear H; go_enter Tryz.func121, Tryz.ntmps121
 go_wp2
 go_loopg [3] k (fun kq v3 w' => ∃ (x3_1 : Int), v3 = .int .i64 x3_1 ∧ Aside0 (spec_l3Method.l0 kq a0 x3_1 = some r) ∧ Aside0 (kq ≤ k) ∧ Drawn0 w w')
 case atStart => exact ⟨(0), q3_, H', ⟨Nat.le_refl _⟩, q14_⟩
 case round =>
  clear H'; (try clear c1); obtain ⟨x3_1, rfl, HA, HK1, ⟨m1, rfl⟩⟩ := hrel; cases gk with
  | zero => exact absurd HA.1 (by simp [spec_l3Method.l0])
  | succ k1 =>
   have H := HA.1; clear HA; simp only [spec_l3Method.l0] at H; by_cases c2 : x3_1 < (a0.size : Int)
   ·rw [if_pos c2] at H; have c2b0 := decide_eq_true c2; clear c2; by_cases c3 : 0 ≤ x3_1
    ·rw [if_pos c3] at H; have c3b0 := decide_eq_true c3; clear c3; replace H := oB H; obtain ⟨t550, A5, H⟩ := H; (try dsimp only at H); have HC6 := aK H; clear H; have p4 : 0 ≤ (x3_1 : Int) := of_decide_eq_true q6_; have q4 : x3_1 < (a0.size : Int) := of_decide_eq_true q6_; have hx4 := bt_at a0 x3_1; replace p4 := eq_true p4; replace q4 := eq_true q4; go_upto_if 14 with (first | ((with_reducible refine gate_callee (f := 146) rfl ?_); refine goesL_ (some 13) rfl rfl Tryz.func146 (by kernel_rfl) rfl #[.int .u8 (bt a0 x3_1)] rfl q2_ ?_; (with_reducible refine (spec_l1Large.calls (bt a0 x3_1) t550 _ A5.1).mono ?_); rintro e w' ⟨rfl, ⟨nd, rfl⟩⟩; refine ⟨_, rfl, ?_⟩))
     (try simp only [Act.put, sI, sZ, sS]); have H := HC6.1; clear HC6; by_cases c7 : t550 = true
     ·subst c7; rw [if_pos rfl] at H; have H' := aK H; clear H; go_wp2
      go_roundg k1
      case measure => have := HK1.1; omega
      case rel => exact ⟨(wrap64 (x3_1 + 1)), q3_, H', ⟨q82_⟩, q14_⟩
     ·replace c7 := Bool.eq_false_iff.mpr c7; subst c7; rw [if_neg (show ¬ (false = true) by decide)] at H; obtain rfl := Option.some.inj H; go_wp2
      go_ret
      exact ⟨q3_, q14_⟩
    ·rw [if_neg c3] at H; exact absurd H (by simp)
   ·rw [if_neg c2] at H; have c2b0 := decide_eq_false c2; clear c2; replace H := oB H; obtain ⟨t551, A8, H⟩ := H; (try dsimp only at H); obtain rfl := Option.some.inj H; go_wp2_with (first | ((with_reducible refine gate_callee (f := 84) rfl ?_); refine goesL_ (some 17) rfl rfl Tryz.func84 (by kernel_rfl) rfl #[.int .i64 (a0.size : Int), .int .i64 1, .int .i64 9] rfl q2_ ?_; (with_reducible refine (spec_l1In.calls (a0.size : Int) 1 9 t551 _ A8.1).mono ?_); rintro e w' ⟨rfl, ⟨nd, rfl⟩⟩; refine ⟨_, rfl, ?_⟩))
    go_ret
    exact ⟨q3_, q14_⟩

def spec_l3Target.l0 : Nat → ByteArray → Int → Option (Bool)
 | 0, _, _ => none
 | k + 1, x0, x3 => if x3 < (x0.size : Int) then (if 0 ≤ x3 then ((spec_l1In.f (wrap64 (bt x0 x3)) 33 126).bind fun t552 => (if t552 = true then (spec_l3Target.l0 k x0 (wrap64 (x3 + 1))) else (some false))) else (none)) else ((spec_l1In.f (x0.size : Int) 1 80).bind fun t553 => (some t553))
def spec_l3Target.f (k : Nat) (a0 : ByteArray) : Option (Bool) := spec_l3Target.l0 k a0 0

theorem spec_l3Target.calls (k : Nat) (a0 : ByteArray) (r : Bool) (w : World) (h : spec_l3Target.f k a0 = some r) :
  Calls Tryz.prog 122 #[.string a0] w fun e w' => e = .returned (.bool r) ∧ Drawn0 w w' := by
 have H : (spec_l3Target.l0 k a0 0) = some r := h; clear h; have H' := aK H; clear H; go_enter Tryz.func122, Tryz.ntmps122
 go_wp2
 go_loopg [3] k (fun kq v3 w' => ∃ (x3_1 : Int), v3 = .int .i64 x3_1 ∧ Aside0 (spec_l3Target.l0 kq a0 x3_1 = some r) ∧ Aside0 (kq ≤ k) ∧ Drawn0 w w')
 case atStart => exact ⟨(0), q3_, H', ⟨Nat.le_refl _⟩, q14_⟩
 case round =>
  clear H'; (try clear c1); obtain ⟨x3_1, rfl, HA, HK1, ⟨m1, rfl⟩⟩ := hrel; cases gk with
  | zero => exact absurd HA.1 (by simp [spec_l3Target.l0])
  | succ k1 =>
   have H := HA.1; clear HA; simp only [spec_l3Target.l0] at H; by_cases c2 : x3_1 < (a0.size : Int)
   ·rw [if_pos c2] at H; have c2b0 := decide_eq_true c2; clear c2; by_cases c3 : 0 ≤ x3_1
    ·rw [if_pos c3] at H; have c3b0 := decide_eq_true c3; clear c3; replace H := oB H; obtain ⟨t552, A5, H⟩ := H; (try dsimp only at H); have HC6 := aK H; clear H; have p4 : 0 ≤ (x3_1 : Int) := of_decide_eq_true q6_; have q4 : x3_1 < (a0.size : Int) := of_decide_eq_true q6_; have hx4 := bt_at a0 x3_1; replace p4 := eq_true p4; replace q4 := eq_true q4; go_upto_if 15 with (first | ((with_reducible refine gate_callee (f := 84) rfl ?_); refine goesL_ (some 14) rfl rfl Tryz.func84 (by kernel_rfl) rfl #[.int .i64 (wrap64 (bt a0 x3_1)), .int .i64 33, .int .i64 126] rfl q2_ ?_; (with_reducible refine (spec_l1In.calls (wrap64 (bt a0 x3_1)) 33 126 t552 _ A5.1).mono ?_); rintro e w' ⟨rfl, ⟨nd, rfl⟩⟩; refine ⟨_, rfl, ?_⟩))
     (try simp only [Act.put, sI, sZ, sS]); have H := HC6.1; clear HC6; by_cases c7 : t552 = true
     ·subst c7; rw [if_pos rfl] at H; have H' := aK H; clear H; go_wp2
      go_roundg k1
      case measure => have := HK1.1; omega
      case rel => exact ⟨(wrap64 (x3_1 + 1)), q3_, H', ⟨q82_⟩, q14_⟩
     ·replace c7 := Bool.eq_false_iff.mpr c7; subst c7; rw [if_neg (show ¬ (false = true) by decide)] at H; obtain rfl := Option.some.inj H; go_wp2
      go_ret
      exact ⟨q3_, q14_⟩
    ·rw [if_neg c3] at H; exact absurd H (by simp)
   ·rw [if_neg c2] at H; have c2b0 := decide_eq_false c2; clear c2; replace H := oB H; obtain ⟨t553, A8, H⟩ := H; (try dsimp only at H); obtain rfl := Option.some.inj H; go_wp2_with (first | ((with_reducible refine gate_callee (f := 84) rfl ?_); refine goesL_ (some 18) rfl rfl Tryz.func84 (by kernel_rfl) rfl #[.int .i64 (a0.size : Int), .int .i64 1, .int .i64 80] rfl q2_ ?_; (with_reducible refine (spec_l1In.calls (a0.size : Int) 1 80 t553 _ A8.1).mono ?_); rintro e w' ⟨rfl, ⟨nd, rfl⟩⟩; refine ⟨_, rfl, ?_⟩))
    go_ret
    exact ⟨q3_, q14_⟩

def spec_l1Digit.f (a0 : Int) : Option (Bool) := (spec_l1In.f (wrap64 (a0)) 48 57).bind fun t554 => (some t554)
theorem spec_l1Digit.calls (a0 : Int) (r : Bool) (w : World) (h : spec_l1Digit.f a0 = some r) :
  Calls Tryz.prog 154 #[.int .u8 a0] w fun e w' => e = .returned (.bool r) ∧ Drawn0 w w' := by
 have H : ((spec_l1In.f (wrap64 (a0)) 48 57).bind fun t554 => (some t554)) = some r := h; clear h; replace H := oB H; obtain ⟨t554, A2, H⟩ := H; (try dsimp only at H); obtain rfl := Option.some.inj H; go_enter Tryz.func154, Tryz.ntmps154
 go_wp2_with (first | ((with_reducible refine gate_callee (f := 84) rfl ?_); refine goesL_ (some 5) rfl rfl Tryz.func84 (by kernel_rfl) rfl #[.int .i64 (wrap64 (a0)), .int .i64 48, .int .i64 57] rfl q2_ ?_; (with_reducible refine (spec_l1In.calls (wrap64 (a0)) 48 57 t554 _ A2.1).mono ?_); rintro e w' ⟨rfl, ⟨nd, rfl⟩⟩; refine ⟨_, rfl, ?_⟩))
 go_ret
 exact ⟨q3_, q14_⟩

def spec_l1Small.f (a0 : Int) : Option (Bool) := (spec_l1In.f (wrap64 (a0)) 97 122).bind fun t555 => (some t555)
theorem spec_l1Small.calls (a0 : Int) (r : Bool) (w : World) (h : spec_l1Small.f a0 = some r) :
  Calls Tryz.prog 160 #[.int .u8 a0] w fun e w' => e = .returned (.bool r) ∧ Drawn0 w w' := by
 have H : ((spec_l1In.f (wrap64 (a0)) 97 122).bind fun t555 => (some t555)) = some r := h; clear h; replace H := oB H; obtain ⟨t555, A2, H⟩ := H; (try dsimp only at H); obtain rfl := Option.some.inj H; go_enter Tryz.func160, Tryz.ntmps160
 go_wp2_with (first | ((with_reducible refine gate_callee (f := 84) rfl ?_); refine goesL_ (some 5) rfl rfl Tryz.func84 (by kernel_rfl) rfl #[.int .i64 (wrap64 (a0)), .int .i64 97, .int .i64 122] rfl q2_ ?_; (with_reducible refine (spec_l1In.calls (wrap64 (a0)) 97 122 t555 _ A2.1).mono ?_); rintro e w' ⟨rfl, ⟨nd, rfl⟩⟩; refine ⟨_, rfl, ?_⟩))
 go_ret
 exact ⟨q3_, q14_⟩

end Go.Proofs.YtaajhdljdmbhhaaGreatDoor.GFnPipes
