-- by gprint.py (this session's program over the kit's print.py) (a twelfth state) out of the translation. Not trusted: Lean checks it.
import Derived.Test.YtfncjddolbghlaaDoorGFnPiecesx0
import Derived.Test.YtfncjddolbghlaaDoorGFnPiecesx2
namespace Go.Proofs.YtfncjddolbghlaaDoor.GFnPieces
open Go.RowKit Go.Proofs.YtfncjddolbghlaaDoorW.PrintWords Go.Proofs.YtfncjddolbghlaaDoorW.PrintLast Go.Proofs.YtfncjddolbghlaaDoorW.PrintMore
attribute [local go_sem] max2_int min2_int max_two min_two max_three min_three max_four min_four   -- for this text's walks alone
set_option linter.unusedVariables false
set_option linter.unusedSimpArgs false
set_option maxRecDepth 100000
set_option maxHeartbeats 8000000

def impl_PieceText.j0 : Nat → ByteArray → Int → ByteArray → ByteArray → Bool → ByteArray → Option (ByteArray)
 | 0, _, _, _, _, _, _ => none
 | k + 1, x3, x179000, x179001, x179002, x179003, x179004 => if x179000 = 1 then (if 1 + x179001.size ≤ 9223372036854775807 then (if ((⟨#[60]⟩ : ByteArray) ++ x179001).size + x3.size ≤ 9223372036854775807 then (if (((⟨#[60]⟩ : ByteArray) ++ x179001) ++ x3).size + 1 ≤ 9223372036854775807 then (some ((((⟨#[60]⟩ : ByteArray) ++ x179001) ++ x3) ++ (⟨#[62]⟩ : ByteArray))) else (none)) else (none)) else (none)) else (if x179000 = 2 then (if 2 + x179001.size ≤ 9223372036854775807 then (if ((⟨#[60, 47]⟩ : ByteArray) ++ x179001).size + 1 ≤ 9223372036854775807 then (some (((⟨#[60, 47]⟩ : ByteArray) ++ x179001) ++ (⟨#[62]⟩ : ByteArray))) else (none)) else (none)) else (if x179000 = 3 then (if 1 + x179001.size ≤ 9223372036854775807 then (if ((⟨#[60]⟩ : ByteArray) ++ x179001).size + x3.size ≤ 9223372036854775807 then (if (((⟨#[60]⟩ : ByteArray) ++ x179001) ++ x3).size + 2 ≤ 9223372036854775807 then (some ((((⟨#[60]⟩ : ByteArray) ++ x179001) ++ x3) ++ (⟨#[47, 62]⟩ : ByteArray))) else (none)) else (none)) else (none)) else ((impl_Escape.f k x179004).bind fun t180 => (some t180))))
def impl_PieceText.f (k : Nat) (a0_0 : Int) (a0_1 : ByteArray) (a0_2 : ByteArray) (a0_3 : Bool) (a0_4 : ByteArray) : Option (ByteArray) := if a0_3 = true then ((impl_Escape.f k a0_2).bind fun t179 => (if 8 + t179.size ≤ 9223372036854775807 then (if ((⟨#[32, 120, 109, 108, 110, 115, 61, 34]⟩ : ByteArray) ++ t179).size + 1 ≤ 9223372036854775807 then (impl_PieceText.j0 k (((⟨#[32, 120, 109, 108, 110, 115, 61, 34]⟩ : ByteArray) ++ t179) ++ (⟨#[34]⟩ : ByteArray)) a0_0 a0_1 a0_2 a0_3 a0_4) else (none)) else (none))) else (impl_PieceText.j0 k (⟨#[]⟩ : ByteArray) a0_0 a0_1 a0_2 a0_3 a0_4)

theorem impl_PieceText.calls (k : Nat) (a0_0 : Int) (a0_1 : ByteArray) (a0_2 : ByteArray) (a0_3 : Bool) (a0_4 : ByteArray) (r : ByteArray) (w : World) (h : impl_PieceText.f k a0_0 a0_1 a0_2 a0_3 a0_4 = some r) :
  Calls Tryd.prog 6 #[.agg #[.int .i64 a0_0, .string a0_1, .string a0_2, .bool a0_3, .string a0_4]] w fun e w' => e = .returned (.string r) ∧ Below w.heap.size w w' := by
 have hu28 := Tryd.underlying28
 have HB := Aside0.mk (Below.refl w.heap.size w)
 have H : (if a0_3 = true then ((impl_Escape.f k a0_2).bind fun t179 => (if 8 + t179.size ≤ 9223372036854775807 then (if ((⟨#[32, 120, 109, 108, 110, 115, 61, 34]⟩ : ByteArray) ++ t179).size + 1 ≤ 9223372036854775807 then (impl_PieceText.j0 k (((⟨#[32, 120, 109, 108, 110, 115, 61, 34]⟩ : ByteArray) ++ t179) ++ (⟨#[34]⟩ : ByteArray)) a0_0 a0_1 a0_2 a0_3 a0_4) else (none)) else (none))) else (impl_PieceText.j0 k (⟨#[]⟩ : ByteArray) a0_0 a0_1 a0_2 a0_3 a0_4)) = some r := h
 clear h
 have HC2 := Aside0.mk H
 clear H
 go_enter Tryd.func6, Tryd.ntmps6
 go_upto_if 5 with (first | ((with_reducible refine gate_dst (N := 1) rfl ?_); refine box_event ?hg (N := 1) ?hd (cs := #[.int .i64 a0_0, .string a0_1, .string a0_2, .bool a0_3, .string a0_4]) (t := 28) ?hr ?_; (case hd => rfl); (case hg => rfl); (case hr => first | (go_simp; done) | (go_simp; rfl)); intro gb178 hg w3 hbox hb; have n0_ := Aside0.mk (below_step (by repeat (first | (with_reducible first | exact HB.1 | apply aB_ | apply pN_ | apply dB_) | exact HB.1)) hb); have n1_ := Aside0.mk (hbox); have n2_ := Aside0.mk ((by rw [hg]; exact (below_size (by repeat (first | (with_reducible first | exact HB.1 | apply aB_ | apply pN_ | apply dB_) | exact HB.1))) : w.heap.size ≤ gb178)); have n3_ := Aside0.mk ((by rw [hg]; exact (below_size (by repeat (first | (with_reducible first | exact HB.1 | apply aB_ | apply pN_ | apply dB_) | exact HB.1))) : w.heap.size ≤ gb178)); clear HB; have HB := n0_; have BK178 := n1_; have GW178 := n2_; have GE178 := n3_; clear n0_ n1_ n2_ n3_; clear hb hbox hg; have hcz4_0 : w3.cell? ⟨gb178, 0, none⟩ = some (.int .i64 a0_0) := (bc_ BK178.1 0).trans rfl; have hcz4_1 : w3.cell? ⟨gb178, 1, none⟩ = some (.string a0_1) := (bc_ BK178.1 1).trans rfl; have hcz4_2 : w3.cell? ⟨gb178, 2, none⟩ = some (.string a0_2) := (bc_ BK178.1 2).trans rfl; have hcz4_3 : w3.cell? ⟨gb178, 3, none⟩ = some (.bool a0_3) := (bc_ BK178.1 3).trans rfl; have hcz4_4 : w3.cell? ⟨gb178, 4, none⟩ = some (.string a0_4) := (bc_ BK178.1 4).trans rfl; have hfz4_0 := bF_ BK178.1 0; have hfz4_1 := bF_ BK178.1 1; have hfz4_2 := bF_ BK178.1 2; have hfz4_3 := bF_ BK178.1 3; have hfz4_4 := bF_ BK178.1 4))
 (try simp only [Act.put, List.setIfInBounds_toArray, List.set_cons_zero, List.set_cons_succ])
 go_cut [3] (fun v3 wc => ∃ (kq : Nat) (x3_1 : ByteArray), v3 = .string x3_1 ∧ Aside0 (impl_PieceText.j0 kq x3_1 a0_0 a0_1 a0_2 a0_3 a0_4 = some r) ∧ Aside0 (kq ≤ k) ∧ Aside0 (wc.heap[gb178]? = some (.cells #[.int .i64 a0_0, .string a0_1, .string a0_2, .bool a0_3, .string a0_4] 28 (0, 0))) ∧ Aside0 (Below w.heap.size w wc))
 case first =>
  have H := HC2.1
  clear HC2
  by_cases c5 : a0_3 = true
  ·subst c5
   have H1 : ((impl_Escape.f k a0_2).bind fun t179 => (if 8 + t179.size ≤ 9223372036854775807 then (if ((⟨#[32, 120, 109, 108, 110, 115, 61, 34]⟩ : ByteArray) ++ t179).size + 1 ≤ 9223372036854775807 then (impl_PieceText.j0 k (((⟨#[32, 120, 109, 108, 110, 115, 61, 34]⟩ : ByteArray) ++ t179) ++ (⟨#[34]⟩ : ByteArray)) a0_0 a0_1 a0_2 true a0_4) else (none)) else (none))) = some r := by rw [if_pos rfl] at H; exact H
   clear H
   have H := H1
   clear H1
   replace H := Option.bind_eq_some_iff.mp H
   obtain ⟨t179, A60, H⟩ := H
   replace H : (if 8 + t179.size ≤ 9223372036854775807 then (if ((⟨#[32, 120, 109, 108, 110, 115, 61, 34]⟩ : ByteArray) ++ t179).size + 1 ≤ 9223372036854775807 then (impl_PieceText.j0 k (((⟨#[32, 120, 109, 108, 110, 115, 61, 34]⟩ : ByteArray) ++ t179) ++ (⟨#[34]⟩ : ByteArray)) a0_0 a0_1 a0_2 true a0_4) else (none)) else (none)) = some r := H
   have A6 := Aside0.mk A60
   clear A60
   by_cases c7 : 8 + t179.size ≤ 9223372036854775807
   ·rw [if_pos c7] at H
    have c7b0 := eq_true c7
    have c7b1 : decide (8 + t179.size ≤ 9223372036854775807) = true := decide_eq_true c7
    try have c7b2 : (9223372036854775807 < 8 + t179.size) = False := eq_false (Nat.not_lt.2 c7)
    by_cases c8 : ((⟨#[32, 120, 109, 108, 110, 115, 61, 34]⟩ : ByteArray) ++ t179).size + 1 ≤ 9223372036854775807
    ·rw [if_pos c8] at H
     have c8b0 := eq_true c8
     have c8b1 : decide (((⟨#[32, 120, 109, 108, 110, 115, 61, 34]⟩ : ByteArray) ++ t179).size + 1 ≤ 9223372036854775807) = true := decide_eq_true c8
     try have c8b2 : (9223372036854775807 < ((⟨#[32, 120, 109, 108, 110, 115, 61, 34]⟩ : ByteArray) ++ t179).size + 1) = False := eq_false (Nat.not_lt.2 c8)
     have c8s : 8 + t179.size + 1 ≤ 9223372036854775807 := by have h_ := c8; simp only [ByteArray.size_append] at h_; exact h_
     have c8s0 := eq_true c8s
     have c8s1 : decide (8 + t179.size + 1 ≤ 9223372036854775807) = true := decide_eq_true c8s
     have c8s2 : (9223372036854775807 < 8 + t179.size + 1) = False := eq_false (Nat.not_lt.2 c8s)
     have H' := Aside0.mk H
     clear H
     have hcz9_0 : w3.cell? ⟨gb178, 0, none⟩ = some (.int .i64 a0_0) := (bc_ BK178.1 0).trans rfl
     have hcz9_1 : w3.cell? ⟨gb178, 1, none⟩ = some (.string a0_1) := (bc_ BK178.1 1).trans rfl
     have hcz9_2 : w3.cell? ⟨gb178, 2, none⟩ = some (.string a0_2) := (bc_ BK178.1 2).trans rfl
     have hcz9_3 : w3.cell? ⟨gb178, 3, none⟩ = some (.bool true) := (bc_ BK178.1 3).trans rfl
     have hcz9_4 : w3.cell? ⟨gb178, 4, none⟩ = some (.string a0_4) := (bc_ BK178.1 4).trans rfl
     have hfz9_0 := bF_ BK178.1 0
     have hfz9_1 := bF_ BK178.1 1
     have hfz9_2 := bF_ BK178.1 2
     have hfz9_3 := bF_ BK178.1 3
     have hfz9_4 := bF_ BK178.1 4
     go_wp2_with (first | ((with_reducible refine gate_callee (f := 16) rfl ?_); refine goesL_ (some 8) rfl rfl Tryd.func16 (by kernel_rfl) rfl #[.string a0_2] rfl (by (try simp only [List.map_toArray, List.map_cons, List.map_nil]); first | done | rfl | (simp only [List.length_drop, List.length_take]; rfl)) ?_; (with_reducible refine (impl_Escape.calls k a0_2 t179 _ A6.1).mono ?_); rintro e w' ⟨rfl, ⟨nd, rfl⟩⟩; refine ⟨_, rfl, ?_⟩))
     go_meet
     case rel => exact ⟨_, (((⟨#[32, 120, 109, 108, 110, 115, 61, 34]⟩ : ByteArray) ++ t179) ++ (⟨#[34]⟩ : ByteArray)), (by first | rfl | (simp; done) | (simp [*]; done) | (simp [empty_ne, *]; done)), H', ⟨by first | omega | exact Nat.le_refl _⟩, ⟨by (with_reducible repeat (first | refine bN_ ?_ _ | refine bD_ ?_ | refine bA_ ?_ _)); exact BK178.1⟩, ⟨by repeat (first | (with_reducible first | exact HB.1 | apply aB_ | apply pN_ | apply dB_ | refine sB_ ?_ GE178.1) | exact HB.1)⟩⟩
    ·rw [if_neg c8] at H
     exact absurd H (by simp)
   ·rw [if_neg c7] at H
    exact absurd H (by simp)
  ·replace c5 := Bool.eq_false_iff.mpr c5
   subst c5
   have H1 : (impl_PieceText.j0 k (⟨#[]⟩ : ByteArray) a0_0 a0_1 a0_2 false a0_4) = some r := by rw [if_neg (show ¬ (false = true) by decide)] at H; exact H
   clear H
   have H := H1
   clear H1
   have H' := Aside0.mk H
   clear H
   go_wp2
   go_meet
   case rel => exact ⟨_, ((⟨#[]⟩ : ByteArray)), (by first | rfl | (simp; done) | (simp [*]; done) | (simp [empty_ne, *]; done)), H', ⟨by first | omega | exact Nat.le_refl _⟩, ⟨by (with_reducible repeat (first | refine bN_ ?_ _ | refine bD_ ?_ | refine bA_ ?_ _)); exact BK178.1⟩, ⟨by repeat (first | (with_reducible first | exact HB.1 | apply aB_ | apply pN_ | apply dB_ | refine sB_ ?_ GE178.1) | exact HB.1)⟩⟩
 case rest =>
  clear HC2
  try clear c1
  try clear p2
  try clear c5
  try clear c6
  try clear c7
  try clear c7b0
  try clear c7b1
  try clear c7b2
  try clear c8
  try clear c8b0
  try clear c8b1
  try clear c8b2
  try clear hcz4_0
  try clear hcz4_1
  try clear hcz4_2
  try clear hcz4_3
  try clear hcz4_4
  try clear hcz9_0
  try clear hcz9_1
  try clear hcz9_2
  try clear hcz9_3
  try clear hcz9_4
  try clear hfz4_0
  try clear hfz4_1
  try clear hfz4_2
  try clear hfz4_3
  try clear hfz4_4
  try clear hfz9_0
  try clear hfz9_1
  try clear hfz9_2
  try clear hfz9_3
  try clear hfz9_4
  obtain ⟨kq, x3_1, rfl, HA, HJ1, BK178, HB⟩ := hcut
  cases kq with
  | zero => exact absurd HA.1 (by simp [impl_PieceText.j0])
  | succ kj1 =>
   have H := HA.1
   clear HA
   simp only [impl_PieceText.j0] at H
   by_cases c10 : a0_0 = 1
   ·rw [if_pos c10] at H
    have c10b0 : (a0_0 == 1) = true := beq_iff_eq.mpr c10
    have c10b1 : (a0_0 != 1) = false := bne_eq_false_iff_eq.mpr c10
    clear c10
    by_cases c11 : 1 + a0_1.size ≤ 9223372036854775807
    ·rw [if_pos c11] at H
     have c11b0 := eq_true c11
     have c11b1 : decide (1 + a0_1.size ≤ 9223372036854775807) = true := decide_eq_true c11
     try have c11b2 : (9223372036854775807 < 1 + a0_1.size) = False := eq_false (Nat.not_lt.2 c11)
     by_cases c12 : ((⟨#[60]⟩ : ByteArray) ++ a0_1).size + x3_1.size ≤ 9223372036854775807
     ·rw [if_pos c12] at H
      have c12b0 := eq_true c12
      have c12b1 : decide (((⟨#[60]⟩ : ByteArray) ++ a0_1).size + x3_1.size ≤ 9223372036854775807) = true := decide_eq_true c12
      try have c12b2 : (9223372036854775807 < ((⟨#[60]⟩ : ByteArray) ++ a0_1).size + x3_1.size) = False := eq_false (Nat.not_lt.2 c12)
      have c12s : 1 + a0_1.size + x3_1.size ≤ 9223372036854775807 := by have h_ := c12; simp only [ByteArray.size_append] at h_; exact h_
      have c12s0 := eq_true c12s
      have c12s1 : decide (1 + a0_1.size + x3_1.size ≤ 9223372036854775807) = true := decide_eq_true c12s
      have c12s2 : (9223372036854775807 < 1 + a0_1.size + x3_1.size) = False := eq_false (Nat.not_lt.2 c12s)
      by_cases c13 : (((⟨#[60]⟩ : ByteArray) ++ a0_1) ++ x3_1).size + 1 ≤ 9223372036854775807
      ·rw [if_pos c13] at H
       have c13b0 := eq_true c13
       have c13b1 : decide ((((⟨#[60]⟩ : ByteArray) ++ a0_1) ++ x3_1).size + 1 ≤ 9223372036854775807) = true := decide_eq_true c13
       try have c13b2 : (9223372036854775807 < (((⟨#[60]⟩ : ByteArray) ++ a0_1) ++ x3_1).size + 1) = False := eq_false (Nat.not_lt.2 c13)
       have c13s : 1 + a0_1.size + x3_1.size + 1 ≤ 9223372036854775807 := by have h_ := c13; simp only [ByteArray.size_append] at h_; exact h_
       have c13s0 := eq_true c13s
       have c13s1 : decide (1 + a0_1.size + x3_1.size + 1 ≤ 9223372036854775807) = true := decide_eq_true c13s
       have c13s2 : (9223372036854775807 < 1 + a0_1.size + x3_1.size + 1) = False := eq_false (Nat.not_lt.2 c13s)
       obtain rfl := Option.some.inj H
       have hcz14_0 : wc.cell? ⟨gb178, 0, none⟩ = some (.int .i64 a0_0) := (bc_ BK178.1 0).trans rfl
       have hcz14_1 : wc.cell? ⟨gb178, 1, none⟩ = some (.string a0_1) := (bc_ BK178.1 1).trans rfl
       have hcz14_2 : wc.cell? ⟨gb178, 2, none⟩ = some (.string a0_2) := (bc_ BK178.1 2).trans rfl
       have hcz14_3 : wc.cell? ⟨gb178, 3, none⟩ = some (.bool a0_3) := (bc_ BK178.1 3).trans rfl
       have hcz14_4 : wc.cell? ⟨gb178, 4, none⟩ = some (.string a0_4) := (bc_ BK178.1 4).trans rfl
       have hfz14_0 := bF_ BK178.1 0
       have hfz14_1 := bF_ BK178.1 1
       have hfz14_2 := bF_ BK178.1 2
       have hfz14_3 := bF_ BK178.1 3
       have hfz14_4 := bF_ BK178.1 4
       go_wp2
       go_ret
       exact ⟨by first | rfl | (simp [errW_none, errW_some] <;> rfl) | (simp [*, errW_none, errW_some] <;> rfl), by repeat (first | (with_reducible first | exact HB.1 | apply aB_ | apply pN_ | apply dB_ | refine sB_ ?_ GE178.1) | exact HB.1)⟩
      ·rw [if_neg c13] at H
       exact absurd H (by simp)
     ·rw [if_neg c12] at H
      exact absurd H (by simp)
    ·rw [if_neg c11] at H
     exact absurd H (by simp)
   ·rw [if_neg c10] at H
    have c10b0 : (a0_0 == 1) = false := beq_eq_false_iff_ne.mpr c10
    have c10b1 : (a0_0 != 1) = true := bne_iff_ne.mpr c10
    by_cases c15 : a0_0 = 2
    ·rw [if_pos c15] at H
     have c15b0 : (a0_0 == 2) = true := beq_iff_eq.mpr c15
     have c15b1 : (a0_0 != 2) = false := bne_eq_false_iff_eq.mpr c15
     clear c15
     by_cases c16 : 2 + a0_1.size ≤ 9223372036854775807
     ·rw [if_pos c16] at H
      have c16b0 := eq_true c16
      have c16b1 : decide (2 + a0_1.size ≤ 9223372036854775807) = true := decide_eq_true c16
      try have c16b2 : (9223372036854775807 < 2 + a0_1.size) = False := eq_false (Nat.not_lt.2 c16)
      by_cases c17 : ((⟨#[60, 47]⟩ : ByteArray) ++ a0_1).size + 1 ≤ 9223372036854775807
      ·rw [if_pos c17] at H
       have c17b0 := eq_true c17
       have c17b1 : decide (((⟨#[60, 47]⟩ : ByteArray) ++ a0_1).size + 1 ≤ 9223372036854775807) = true := decide_eq_true c17
       try have c17b2 : (9223372036854775807 < ((⟨#[60, 47]⟩ : ByteArray) ++ a0_1).size + 1) = False := eq_false (Nat.not_lt.2 c17)
       have c17s : 2 + a0_1.size + 1 ≤ 9223372036854775807 := by have h_ := c17; simp only [ByteArray.size_append] at h_; exact h_
       have c17s0 := eq_true c17s
       have c17s1 : decide (2 + a0_1.size + 1 ≤ 9223372036854775807) = true := decide_eq_true c17s
       have c17s2 : (9223372036854775807 < 2 + a0_1.size + 1) = False := eq_false (Nat.not_lt.2 c17s)
       obtain rfl := Option.some.inj H
       have hcz18_0 : wc.cell? ⟨gb178, 0, none⟩ = some (.int .i64 a0_0) := (bc_ BK178.1 0).trans rfl
       have hcz18_1 : wc.cell? ⟨gb178, 1, none⟩ = some (.string a0_1) := (bc_ BK178.1 1).trans rfl
       have hcz18_2 : wc.cell? ⟨gb178, 2, none⟩ = some (.string a0_2) := (bc_ BK178.1 2).trans rfl
       have hcz18_3 : wc.cell? ⟨gb178, 3, none⟩ = some (.bool a0_3) := (bc_ BK178.1 3).trans rfl
       have hcz18_4 : wc.cell? ⟨gb178, 4, none⟩ = some (.string a0_4) := (bc_ BK178.1 4).trans rfl
       have hfz18_0 := bF_ BK178.1 0
       have hfz18_1 := bF_ BK178.1 1
       have hfz18_2 := bF_ BK178.1 2
       have hfz18_3 := bF_ BK178.1 3
       have hfz18_4 := bF_ BK178.1 4
       go_wp2
       go_ret
       exact ⟨by first | rfl | (simp [errW_none, errW_some] <;> rfl) | (simp [*, errW_none, errW_some] <;> rfl), by repeat (first | (with_reducible first | exact HB.1 | apply aB_ | apply pN_ | apply dB_ | refine sB_ ?_ GE178.1) | exact HB.1)⟩
      ·rw [if_neg c17] at H
       exact absurd H (by simp)
     ·rw [if_neg c16] at H
      exact absurd H (by simp)
    ·rw [if_neg c15] at H
     have c15b0 : (a0_0 == 2) = false := beq_eq_false_iff_ne.mpr c15
     have c15b1 : (a0_0 != 2) = true := bne_iff_ne.mpr c15
     by_cases c19 : a0_0 = 3
     ·rw [if_pos c19] at H
      have c19b0 : (a0_0 == 3) = true := beq_iff_eq.mpr c19
      have c19b1 : (a0_0 != 3) = false := bne_eq_false_iff_eq.mpr c19
      clear c19
      by_cases c20 : 1 + a0_1.size ≤ 9223372036854775807
      ·rw [if_pos c20] at H
       have c20b0 := eq_true c20
       have c20b1 : decide (1 + a0_1.size ≤ 9223372036854775807) = true := decide_eq_true c20
       try have c20b2 : (9223372036854775807 < 1 + a0_1.size) = False := eq_false (Nat.not_lt.2 c20)
       by_cases c21 : ((⟨#[60]⟩ : ByteArray) ++ a0_1).size + x3_1.size ≤ 9223372036854775807
       ·rw [if_pos c21] at H
        have c21b0 := eq_true c21
        have c21b1 : decide (((⟨#[60]⟩ : ByteArray) ++ a0_1).size + x3_1.size ≤ 9223372036854775807) = true := decide_eq_true c21
        try have c21b2 : (9223372036854775807 < ((⟨#[60]⟩ : ByteArray) ++ a0_1).size + x3_1.size) = False := eq_false (Nat.not_lt.2 c21)
        have c21s : 1 + a0_1.size + x3_1.size ≤ 9223372036854775807 := by have h_ := c21; simp only [ByteArray.size_append] at h_; exact h_
        have c21s0 := eq_true c21s
        have c21s1 : decide (1 + a0_1.size + x3_1.size ≤ 9223372036854775807) = true := decide_eq_true c21s
        have c21s2 : (9223372036854775807 < 1 + a0_1.size + x3_1.size) = False := eq_false (Nat.not_lt.2 c21s)
        by_cases c22 : (((⟨#[60]⟩ : ByteArray) ++ a0_1) ++ x3_1).size + 2 ≤ 9223372036854775807
        ·rw [if_pos c22] at H
         have c22b0 := eq_true c22
         have c22b1 : decide ((((⟨#[60]⟩ : ByteArray) ++ a0_1) ++ x3_1).size + 2 ≤ 9223372036854775807) = true := decide_eq_true c22
         try have c22b2 : (9223372036854775807 < (((⟨#[60]⟩ : ByteArray) ++ a0_1) ++ x3_1).size + 2) = False := eq_false (Nat.not_lt.2 c22)
         have c22s : 1 + a0_1.size + x3_1.size + 2 ≤ 9223372036854775807 := by have h_ := c22; simp only [ByteArray.size_append] at h_; exact h_
         have c22s0 := eq_true c22s
         have c22s1 : decide (1 + a0_1.size + x3_1.size + 2 ≤ 9223372036854775807) = true := decide_eq_true c22s
         have c22s2 : (9223372036854775807 < 1 + a0_1.size + x3_1.size + 2) = False := eq_false (Nat.not_lt.2 c22s)
         obtain rfl := Option.some.inj H
         have hcz23_0 : wc.cell? ⟨gb178, 0, none⟩ = some (.int .i64 a0_0) := (bc_ BK178.1 0).trans rfl
         have hcz23_1 : wc.cell? ⟨gb178, 1, none⟩ = some (.string a0_1) := (bc_ BK178.1 1).trans rfl
         have hcz23_2 : wc.cell? ⟨gb178, 2, none⟩ = some (.string a0_2) := (bc_ BK178.1 2).trans rfl
         have hcz23_3 : wc.cell? ⟨gb178, 3, none⟩ = some (.bool a0_3) := (bc_ BK178.1 3).trans rfl
         have hcz23_4 : wc.cell? ⟨gb178, 4, none⟩ = some (.string a0_4) := (bc_ BK178.1 4).trans rfl
         have hfz23_0 := bF_ BK178.1 0
         have hfz23_1 := bF_ BK178.1 1
         have hfz23_2 := bF_ BK178.1 2
         have hfz23_3 := bF_ BK178.1 3
         have hfz23_4 := bF_ BK178.1 4
         go_wp2
         go_ret
         exact ⟨by first | rfl | (simp [errW_none, errW_some] <;> rfl) | (simp [*, errW_none, errW_some] <;> rfl), by repeat (first | (with_reducible first | exact HB.1 | apply aB_ | apply pN_ | apply dB_ | refine sB_ ?_ GE178.1) | exact HB.1)⟩
        ·rw [if_neg c22] at H
         exact absurd H (by simp)
       ·rw [if_neg c21] at H
        exact absurd H (by simp)
      ·rw [if_neg c20] at H
       exact absurd H (by simp)
     ·rw [if_neg c19] at H
      have c19b0 : (a0_0 == 3) = false := beq_eq_false_iff_ne.mpr c19
      have c19b1 : (a0_0 != 3) = true := bne_iff_ne.mpr c19
      replace H := Option.bind_eq_some_iff.mp H
      obtain ⟨t180, A240, H⟩ := H
      replace H : (some t180) = some r := H
      have A24 := Aside0.mk A240
      clear A240
      obtain rfl := Option.some.inj H
      have hcz25_0 : wc.cell? ⟨gb178, 0, none⟩ = some (.int .i64 a0_0) := (bc_ BK178.1 0).trans rfl
      have hcz25_1 : wc.cell? ⟨gb178, 1, none⟩ = some (.string a0_1) := (bc_ BK178.1 1).trans rfl
      have hcz25_2 : wc.cell? ⟨gb178, 2, none⟩ = some (.string a0_2) := (bc_ BK178.1 2).trans rfl
      have hcz25_3 : wc.cell? ⟨gb178, 3, none⟩ = some (.bool a0_3) := (bc_ BK178.1 3).trans rfl
      have hcz25_4 : wc.cell? ⟨gb178, 4, none⟩ = some (.string a0_4) := (bc_ BK178.1 4).trans rfl
      have hfz25_0 := bF_ BK178.1 0
      have hfz25_1 := bF_ BK178.1 1
      have hfz25_2 := bF_ BK178.1 2
      have hfz25_3 := bF_ BK178.1 3
      have hfz25_4 := bF_ BK178.1 4
      go_wp2_with (first | ((with_reducible refine gate_callee (f := 16) rfl ?_); refine goesL_ (some 37) rfl rfl Tryd.func16 (by kernel_rfl) rfl #[.string a0_4] rfl (by (try simp only [List.map_toArray, List.map_cons, List.map_nil]); first | done | rfl | (simp only [List.length_drop, List.length_take]; rfl)) ?_; (with_reducible refine (impl_Escape.calls kj1 a0_4 t180 _ A24.1).mono ?_); rintro e w' ⟨rfl, ⟨nd, rfl⟩⟩; refine ⟨_, rfl, ?_⟩))
      go_ret
      exact ⟨by first | rfl | (simp [errW_none, errW_some] <;> rfl) | (simp [*, errW_none, errW_some] <;> rfl), by repeat (first | (with_reducible first | exact HB.1 | apply aB_ | apply pN_ | apply dB_ | refine sB_ ?_ GE178.1) | exact HB.1)⟩

def impl_isPlain.f (a0 : Int) : Option (Bool) := if a0 ≥ 32 then (some (decide (a0 ≤ 126))) else (some false)
theorem impl_isPlain.calls (a0 : Int) (r : Bool) (w : World) (h : impl_isPlain.f a0 = some r) :
  Calls Tryd.prog 28 #[.int .u8 a0] w fun e w' => e = .returned (.bool r) ∧ Drawn0 w w' := by
 have H : (if a0 ≥ 32 then (some (decide (a0 ≤ 126))) else (some false)) = some r := h
 clear h
 by_cases c2 : a0 ≥ 32
 ·rw [if_pos c2] at H
  have c2b0 : decide (32 ≤ a0) = true := decide_eq_true c2
  clear c2
  obtain rfl := Option.some.inj H
  go_enter Tryd.func28, Tryd.ntmps28
  go_wp2
  go_ret
  exact ⟨by first | rfl | (simp; done) | (simp [*]; done) | (simp [empty_ne, *]; done), by repeat (first | exact Drawn0.refl _ | apply Drawn0.step)⟩
 ·rw [if_neg c2] at H
  have c2b0 : decide (32 ≤ a0) = false := decide_eq_false c2
  clear c2
  obtain rfl := Option.some.inj H
  go_enter Tryd.func28, Tryd.ntmps28
  go_wp2
  go_ret
  exact ⟨by first | rfl | (simp; done) | (simp [*]; done) | (simp [empty_ne, *]; done), by repeat (first | exact Drawn0.refl _ | apply Drawn0.step)⟩

def impl_Plain.l0 : Nat → ByteArray → Int → Option (Bool)
 | 0, _, _ => none
 | k + 1, x0, x3 => if x3 < (x0.size : Int) then (if 0 ≤ x3 then ((impl_isPlain.f (bt x0 x3)).bind fun t181 => (if t181 = true then (impl_Plain.l0 k x0 (wrap64 (x3 + 1))) else (some false))) else (none)) else (some true)
def impl_Plain.f (k : Nat) (a0 : ByteArray) : Option (Bool) := impl_Plain.l0 k a0 0

theorem impl_Plain.calls (k : Nat) (a0 : ByteArray) (r : Bool) (w : World) (h : impl_Plain.f k a0 = some r) :
  Calls Tryd.prog 17 #[.string a0] w fun e w' => e = .returned (.bool r) ∧ Drawn0 w w' := by
 have H : (impl_Plain.l0 k a0 0) = some r := h
 clear h
 have H' := Aside0.mk H
 clear H
 go_enter Tryd.func17, Tryd.ntmps17
 go_wp2
 go_loopg [3] k (fun kq v3 w' => ∃ (x3_1 : Int), v3 = .int .i64 x3_1 ∧ Aside0 (impl_Plain.l0 kq a0 x3_1 = some r) ∧ Aside0 (kq ≤ k) ∧ Drawn0 w w')
 case atStart => exact ⟨(0), (by first | rfl | (simp; done) | (simp [*]; done) | (simp [empty_ne, *]; done)), H', ⟨Nat.le_refl _⟩, by repeat (first | exact Drawn0.refl _ | apply Drawn0.step)⟩
 case round =>
  clear H'
  try clear c1
  obtain ⟨x3_1, rfl, HA, HK1, ⟨m1, rfl⟩⟩ := hrel
  cases gk with
  | zero => exact absurd HA.1 (by simp [impl_Plain.l0])
  | succ k1 =>
   have H := HA.1
   clear HA
   simp only [impl_Plain.l0] at H
   by_cases c2 : x3_1 < (a0.size : Int)
   ·rw [if_pos c2] at H
    have c2b0 : decide (x3_1 < (a0.size : Int)) = true := decide_eq_true c2
    clear c2
    by_cases c3 : 0 ≤ x3_1
    ·rw [if_pos c3] at H
     have c3b0 : decide (0 ≤ x3_1) = true := decide_eq_true c3
     clear c3
     replace H := Option.bind_eq_some_iff.mp H
     obtain ⟨t181, A50, H⟩ := H
     replace H : (if t181 = true then (impl_Plain.l0 k1 a0 (wrap64 (x3_1 + 1))) else (some false)) = some r := H
     have A5 := Aside0.mk A50
     clear A50
     by_cases c6 : t181 = true
     ·subst c6
      have H1 : (impl_Plain.l0 k1 a0 (wrap64 (x3_1 + 1))) = some r := by rw [if_pos rfl] at H; exact H
      clear H
      have H := H1
      clear H1
      have H' := Aside0.mk H
      clear H
      have p4 : 0 ≤ (x3_1 : Int) := of_decide_eq_true (by first | (with_reducible assumption) | assumption)
      have q4 : x3_1 < (a0.size : Int) := of_decide_eq_true (by first | (with_reducible assumption) | assumption)
      have hx4 := bt_at a0 x3_1
      replace p4 := eq_true p4
      replace q4 := eq_true q4
      go_wp2_with (first | ((with_reducible refine gate_callee (f := 28) rfl ?_); refine goesL_ (some 13) rfl rfl Tryd.func28 (by kernel_rfl) rfl #[.int .u8 (bt a0 x3_1)] rfl (by (try simp only [List.map_toArray, List.map_cons, List.map_nil]); first | done | rfl | (simp only [List.length_drop, List.length_take]; rfl)) ?_; (with_reducible refine (impl_isPlain.calls (bt a0 x3_1) true _ A5.1).mono ?_); rintro e w' ⟨rfl, ⟨nd, rfl⟩⟩; refine ⟨_, rfl, ?_⟩))
      go_roundg k1
      case measure => have := HK1.1; omega
      case rel => exact ⟨(wrap64 (x3_1 + 1)), (by first | rfl | (simp; done) | (simp [*]; done) | (simp [empty_ne, *]; done)), H', ⟨by have := HK1.1; omega⟩, by repeat (first | exact Drawn0.refl _ | apply Drawn0.step)⟩
     ·replace c6 := Bool.eq_false_iff.mpr c6
      subst c6
      have H1 : (some false) = some r := by rw [if_neg (show ¬ (false = true) by decide)] at H; exact H
      clear H
      have H := H1
      clear H1
      obtain rfl := Option.some.inj H
      have p4 : 0 ≤ (x3_1 : Int) := of_decide_eq_true (by first | (with_reducible assumption) | assumption)
      have q4 : x3_1 < (a0.size : Int) := of_decide_eq_true (by first | (with_reducible assumption) | assumption)
      have hx4 := bt_at a0 x3_1
      replace p4 := eq_true p4
      replace q4 := eq_true q4
      go_wp2_with (first | ((with_reducible refine gate_callee (f := 28) rfl ?_); refine goesL_ (some 13) rfl rfl Tryd.func28 (by kernel_rfl) rfl #[.int .u8 (bt a0 x3_1)] rfl (by (try simp only [List.map_toArray, List.map_cons, List.map_nil]); first | done | rfl | (simp only [List.length_drop, List.length_take]; rfl)) ?_; (with_reducible refine (impl_isPlain.calls (bt a0 x3_1) false _ A5.1).mono ?_); rintro e w' ⟨rfl, ⟨nd, rfl⟩⟩; refine ⟨_, rfl, ?_⟩))
      go_ret
      exact ⟨by first | rfl | (simp; done) | (simp [*]; done) | (simp [empty_ne, *]; done), by repeat (first | exact Drawn0.refl _ | apply Drawn0.step)⟩
    ·rw [if_neg c3] at H
     exact absurd H (by simp)
   ·rw [if_neg c2] at H
    have c2b0 : decide (x3_1 < (a0.size : Int)) = false := decide_eq_false c2
    clear c2
    obtain rfl := Option.some.inj H
    go_wp2
    go_ret
    exact ⟨by first | rfl | (simp; done) | (simp [*]; done) | (simp [empty_ne, *]; done), by repeat (first | exact Drawn0.refl _ | apply Drawn0.step)⟩


def strings_Cut.f (a0 : ByteArray) (a1 : ByteArray) : Option (ByteArray × ByteArray × Bool) := if a0.size < 4294967281 then some (⟨(Lib.cut a0.data.toList a1.data.toList).1.toArray⟩, ⟨(Lib.cut a0.data.toList a1.data.toList).2.1.toArray⟩, (Lib.cut a0.data.toList a1.data.toList).2.2) else none
theorem strings_Cut.calls (a0 : ByteArray) (a1 : ByteArray) (r1 : ByteArray) (r2 : ByteArray) (r3 : Bool) (w : World) (h : strings_Cut.f a0 a1 = some (r1, r2, r3)) (hG : GOK w) :
  Calls Tryd.prog 32 #[.string a0, .string a1] w fun e w' => e = .returned (.tuple #[.string r1, .string r2, .bool r3]) ∧ Drawn0 w w' := by
 unfold strings_Cut.f at h
 split at h
 ·rename_i hs
  simp only [Option.some.injEq, Prod.mk.injEq] at h
  obtain ⟨rfl, rfl, rfl⟩ := h
  obtain ⟨m, hm⟩ := hG.maxlen
  exact (Go.Proofs.YtfncjddolbghlaaDoor.Shelf.Tryd.strings_Cut a0 a1 m w hs hm).mono fun e w' ⟨he, hw⟩ => ⟨he, ⟨hw⟩⟩
 ·cases h


def strings_Contains.f (a0 : ByteArray) (a1 : ByteArray) : Option Bool := match a1.data.toList with | [c] => some (decide (0 ≤ Lib.indexByte a0.data.toList c)) | _ => none
theorem strings_Contains.calls (a0 : ByteArray) (a1 : ByteArray) (r : Bool) (w : World) (h : strings_Contains.f a0 a1 = some r) :
  Calls Tryd.prog 34 #[.string a0, .string a1] w fun e w' => e = .returned (.bool r) ∧ Drawn0 w w' := by
 unfold strings_Contains.f at h
 split at h
 ·rename_i c hc
  obtain rfl := Option.some.inj h
  obtain rfl : a1 = ⟨#[c]⟩ := by cases a1; simp only [ByteArray.mk.injEq]; exact Array.toList_inj.mp hc
  exact (Go.Proofs.YtfncjddolbghlaaDoor.Shelf.Tryd.strings_Contains_one a0 c w).mono fun e w' ⟨he, hw⟩ => ⟨he, by subst hw; exact Drawn0.refl _⟩
 ·cases h


def strings_CutPrefix.f (a0 : ByteArray) (a1 : ByteArray) : Option (ByteArray × Bool) := some (⟨(Lib.trimPrefix a0.data.toList a1.data.toList).toArray⟩, Lib.hasPrefix a0.data.toList a1.data.toList)
theorem strings_CutPrefix.calls (a0 : ByteArray) (a1 : ByteArray) (r1 : ByteArray) (r2 : Bool) (w : World) (h : strings_CutPrefix.f a0 a1 = some (r1, r2)) :
  Calls Tryd.prog 29 #[.string a0, .string a1] w fun e w' => e = .returned (.tuple #[.string r1, .bool r2]) ∧ Drawn0 w w' := by
 simp only [strings_CutPrefix.f, Option.some.injEq, Prod.mk.injEq] at h
 obtain ⟨rfl, rfl⟩ := h
 exact (Go.Proofs.YtfncjddolbghlaaDoor.Shelf.Tryd.strings_CutPrefix a0 a1 w).mono fun e w' ⟨he, hw⟩ => ⟨he, by subst hw; exact Drawn0.refl _⟩


def strconv_Itoa.f (a0 : Int) : Option ByteArray := if -9223372036854775808 ≤ a0 ∧ a0 ≤ 9223372036854775807 then some ⟨(Go.Lib.itoa a0).toArray⟩ else none
theorem strconv_Itoa.calls (a0 : Int) (r : ByteArray) (w : World) (h : strconv_Itoa.f a0 = some r) (hG : GOK w) :
  Calls Tryd.prog 61 #[.int .i64 a0] w fun e w' => e = .returned (.string r) ∧ Below w.heap.size w w' := by
 unfold strconv_Itoa.f at h
 split at h
 ·rename_i hs
  obtain rfl := Option.some.inj h
  exact (Go.Proofs.YtfncjddolbghlaaDoor.Shelf.Tryd.strconv_Itoa a0 hs.1 hs.2 w hG.pow10).mono fun e w' ⟨he, k, os, hw⟩ => ⟨he, by subst hw; exact Go.Lib.below_grow _ w (Nat.le_refl _) k os⟩
 ·cases h

def impl_NumText.f (a0 : Int) : Option (ByteArray) := (strconv_Itoa.f (mx a0 0)).bind fun t182 => (some t182)
theorem impl_NumText.calls (a0 : Int) (r : ByteArray) (w : World) (h : impl_NumText.f a0 = some r) (hG : GOK w) :
  Calls Tryd.prog 55 #[.int .i64 a0] w fun e w' => e = .returned (.string r) ∧ Below w.heap.size w w' := by
 have HB := Aside0.mk (Below.refl w.heap.size w)
 have H : ((strconv_Itoa.f (mx a0 0)).bind fun t182 => (some t182)) = some r := h
 clear h
 obtain ⟨ji2, hji2⟩ : ∃ j_ : Int, (mx a0 0) = j_ := ⟨_, rfl⟩
 replace H : ((strconv_Itoa.f (ji2)).bind fun t182 => (some t182)) = some r := by first | (rw [hji2] at H; exact H) | (simp only [hji2] at H ⊢; exact H)
 (try (have hji2l : 0 ≤ ji2 := by (rw [← hji2]; unfold mx; (repeat' split) <;> omega)))
 (try (have hji2m : 0 ≤ ji2 := by omega))
 have hji2_ : (if a0 < 0 then 0 else a0) = ji2 := hji2
 replace H := Option.bind_eq_some_iff.mp H
 obtain ⟨t182, A30, H⟩ := H
 replace H : (some t182) = some r := H
 have A3 := Aside0.mk A30
 clear A30
 obtain rfl := Option.some.inj H
 go_enter Tryd.func55, Tryd.ntmps55
 go_wp2_with (first | ((with_reducible refine gate_callee (f := 61) rfl ?_); refine goesL_ (some 5) rfl rfl Tryd.func61 (by kernel_rfl) rfl #[.int .i64 ji2] rfl (by (try simp only [List.map_toArray, List.map_cons, List.map_nil]); first | done | (simp only [hji2]; rfl) | rfl | (simp only [List.length_drop, List.length_take]; rfl)) ?_; (with_reducible refine (strconv_Itoa.calls ji2 t182 _ A3.1 ?side99).mono ?_); (case side99 => first | (with_reducible exact hG) | (refine GOK_below hG ?_; (repeat (first | (with_reducible first | exact HB.1 | apply aB_ | apply pN_ | apply dB_) | exact HB.1)); done) | (refine GOK_drawn hG ?_; (repeat (first | exact Drawn0.refl _ | apply Drawn0.step)); done) | exact hG); rintro e w4 ⟨rfl, hb⟩; refine ⟨_, rfl, ?_⟩; have n0_ := Aside0.mk (below_step (by repeat (first | (with_reducible first | exact HB.1 | apply aB_ | apply pN_ | apply dB_) | exact HB.1)) hb); clear HB; have HB := n0_; clear n0_; (try clear hb); (try clear hb2); (try clear hk); (try clear hi)))
 go_ret
 exact ⟨by first | rfl | (simp [errW_none, errW_some] <;> rfl) | (simp only [← hji2]; first | rfl | (simp [errW_none, errW_some] <;> rfl)) | (simp [*, errW_none, errW_some] <;> rfl), by repeat (first | (with_reducible first | exact HB.1 | apply aB_ | apply pN_ | apply dB_) | exact HB.1)⟩


/-- what strconv.Atoi hands back: a number and no error, or an error -/
theorem impl_ParseNum.atoi (s : ByteArray) (hs : s.size ≤ 281474976710656) (w : World) (hG : GOK w) :
  Calls Tryd.prog 54 #[.string s] w fun e w' => (∃ z x, e = .returned (.tuple #[.int .i64 z, x]) ∧ ((Go.Lib.atoiAll s.data.toList = .ok z ∧ x = .nilIface) ∨ ((∀ v, Go.Lib.atoiAll s.data.toList ≠ .ok v) ∧ ∃ N, x = .iface 81 (.pointer (some ⟨N, 0, none⟩))))) ∧ Below w.heap.size w w' := by
 cases hat : Go.Lib.atoiAll s.data.toList with
 | ok v =>
  refine (Go.Proofs.YtfncjddolbghlaaDoor.Shelf.Tryd.strconv_Atoi_ok s (by omega) v hat w).mono ?_
  rintro e w' ⟨rfl, hw⟩
  refine ⟨⟨v, _, rfl, .inl ⟨rfl, rfl⟩⟩, ?_⟩
  rcases hw with rfl | ⟨t, rfl⟩
  ·exact Below.refl _ _
  ·exact Go.Lib.bytesWorld_below _ _ _
 | range =>
  obtain ⟨tp, p, hv⟩ := hG.errr
  refine (Go.Proofs.Any.strconv_Atoi_range_var Go.Proofs.YtfncjddolbghlaaDoor.Shelf.Tryd.laysC172 s hs hat tp p w hv).mono ?_
  rintro e w' ⟨N, rfl, _, _, hb⟩
  exact ⟨⟨_, _, rfl, .inr ⟨fun v h => (by cases h), N, rfl⟩⟩, hb⟩
 | _ =>
  obtain ⟨tp, p, hv⟩ := hG.errs
  refine (Go.Proofs.Any.strconv_Atoi_syntax_var Go.Proofs.YtfncjddolbghlaaDoor.Shelf.Tryd.laysC172 s hs hat tp p w hv).mono ?_
  rintro e w' ⟨N, rfl, _, _, hb⟩
  exact ⟨⟨_, _, rfl, .inr ⟨fun v h => (by cases h), N, rfl⟩⟩, hb⟩
def impl_ParseNum.f (a0 : ByteArray) (a1 : Int) : Option (Int × Bool) :=
 if a0.size ≤ 281474976710656 then
  match Go.Lib.atoiAll a0.data.toList with
  | .ok v => if v < 0 then some (0, false) else if a1 < v then some (0, false) else if 7 < a0.size then some (0, false) else (impl_NumText.f v).bind fun t => if t.toList = a0.toList then some (v, true) else some (0, false)
  | _ => some (0, false)
 else none
theorem impl_ParseNum.calls (a0 : ByteArray) (a1 : Int) (r1 : Int) (r2 : Bool) (w : World) (h : impl_ParseNum.f a0 a1 = some (r1, r2)) (hG : GOK w) :
  Calls Tryd.prog 48 #[.string a0, .int .i64 a1] w fun e w' => e = .returned (.tuple #[.int .i64 r1, .bool r2]) ∧ Below w.heap.size w w' := by
 unfold impl_ParseNum.f at h
 split at h
 ·rename_i hs
  have hA := impl_ParseNum.atoi a0 hs w hG
  go_enter Tryd.func48, Tryd.ntmps48
  go_wp2_with (go_at_call 54; refine hA.mono ?_)
  rintro e w1 ⟨⟨z, x, rfl, hx⟩, HB⟩
  rcases hx with ⟨hat, rfl⟩ | ⟨hno, N, rfl⟩
  ·rw [hat] at h
   simp only [] at h
   clear hA hat
   by_cases c1 : z < 0
   ·rw [if_pos c1] at h
    have c1b := decide_eq_true c1
    clear c1
    obtain ⟨rfl, rfl⟩ := Prod.mk.inj (Option.some.inj h)
    go_wp2
    go_ret2
    exact ⟨rfl, HB⟩
   rw [if_neg c1] at h
   have c1b := decide_eq_false c1
   by_cases c2 : a1 < z
   ·rw [if_pos c2] at h
    have c2b := decide_eq_true c2
    clear c1 c2
    obtain ⟨rfl, rfl⟩ := Prod.mk.inj (Option.some.inj h)
    go_wp2
    go_ret2
    exact ⟨rfl, HB⟩
   rw [if_neg c2] at h
   have c2b := decide_eq_false c2
   by_cases c3 : 7 < a0.size
   ·rw [if_pos c3] at h
    have c3b : decide ((7 : Int) < (a0.size : Int)) = true := decide_eq_true (by omega)
    clear c1 c2 c3
    obtain ⟨rfl, rfl⟩ := Prod.mk.inj (Option.some.inj h)
    go_wp2
    go_ret2
    exact ⟨rfl, HB⟩
   rw [if_neg c3] at h
   have c3b : decide ((7 : Int) < (a0.size : Int)) = false := decide_eq_false (by omega)
   clear c1 c2 c3
   obtain ⟨t, ht, h⟩ := Option.bind_eq_some_iff.1 h
   have hN := fun W (hW : GOK W) => impl_NumText.calls z t W ht hW
   clear ht
   by_cases c4 : t.toList = a0.toList
   ·rw [if_pos c4] at h
    have c4b0 : (t.toList == a0.toList) = true := beq_iff_eq.mpr c4
    have c4b1 : (t.toList != a0.toList) = false := bne_eq_false_iff_eq.mpr c4
    clear c4
    obtain ⟨rfl, rfl⟩ := Prod.mk.inj (Option.some.inj h)
    go_wp2_with (go_at_call 55; refine (hN _ (GOK_below hG HB)).mono ?_; rintro e w2 ⟨rfl, hb⟩)
    go_ret2
    exact ⟨rfl, below_step HB hb⟩
   ·rw [if_neg c4] at h
    have c4b0 : (t.toList == a0.toList) = false := beq_eq_false_iff_ne.mpr c4
    have c4b1 : (t.toList != a0.toList) = true := bne_iff_ne.mpr c4
    clear c4
    obtain ⟨rfl, rfl⟩ := Prod.mk.inj (Option.some.inj h)
    go_wp2_with (go_at_call 55; refine (hN _ (GOK_below hG HB)).mono ?_; rintro e w2 ⟨rfl, hb⟩)
    go_ret2
    exact ⟨rfl, below_step HB hb⟩
  ·have h2 : some ((0 : Int), false) = some (r1, r2) := by
    split at h
    ·rename_i v hv; exact absurd hv (hno v)
    ·exact h
   obtain ⟨rfl, rfl⟩ := Prod.mk.inj (Option.some.inj h2)
   clear h h2 hno hA
   go_wp2
   go_ret2
   exact ⟨rfl, HB⟩
 ·cases h

def impl_named.f (a0 : ByteArray) : Option (ByteArray × Bool) := if a0.toList = ([97, 109, 112] : List UInt8) then (some ((⟨#[38]⟩ : ByteArray), true)) else (if a0.toList = ([108, 116] : List UInt8) then (some ((⟨#[60]⟩ : ByteArray), true)) else (if a0.toList = ([103, 116] : List UInt8) then (some ((⟨#[62]⟩ : ByteArray), true)) else (if a0.toList = ([113, 117, 111, 116] : List UInt8) then (some ((⟨#[34]⟩ : ByteArray), true)) else (if a0.toList = ([97, 112, 111, 115] : List UInt8) then (some ((⟨#[39]⟩ : ByteArray), true)) else ((strings_CutPrefix.f a0 (⟨#[35]⟩ : ByteArray)).bind fun bt183 => ((impl_ParseNum.f bt183.1 126).bind fun bt185 => (if bt183.2 = true then (if bt185.2 = true then (if bt185.1 < 32 then (some ((⟨#[]⟩ : ByteArray), false)) else (some (strOfNums (([(bt185.1) % 256] : List Int)), true))) else (some ((⟨#[]⟩ : ByteArray), false))) else (some ((⟨#[]⟩ : ByteArray), false)))))))))
theorem impl_named.calls (a0 : ByteArray) (r1 : ByteArray) (r2 : Bool) (w : World) (h : impl_named.f a0 = some (r1, r2)) (hG : GOK w) :
  Calls Tryd.prog 35 #[.string a0] w fun e w' => e = .returned (.tuple #[.string r1, .bool r2]) ∧ Below w.heap.size w w' := by
 have HB := Aside0.mk (Below.refl w.heap.size w)
 have H : (if a0.toList = ([97, 109, 112] : List UInt8) then (some ((⟨#[38]⟩ : ByteArray), true)) else (if a0.toList = ([108, 116] : List UInt8) then (some ((⟨#[60]⟩ : ByteArray), true)) else (if a0.toList = ([103, 116] : List UInt8) then (some ((⟨#[62]⟩ : ByteArray), true)) else (if a0.toList = ([113, 117, 111, 116] : List UInt8) then (some ((⟨#[34]⟩ : ByteArray), true)) else (if a0.toList = ([97, 112, 111, 115] : List UInt8) then (some ((⟨#[39]⟩ : ByteArray), true)) else ((strings_CutPrefix.f a0 (⟨#[35]⟩ : ByteArray)).bind fun bt183 => ((impl_ParseNum.f bt183.1 126).bind fun bt185 => (if bt183.2 = true then (if bt185.2 = true then (if bt185.1 < 32 then (some ((⟨#[]⟩ : ByteArray), false)) else (some (strOfNums (([(bt185.1) % 256] : List Int)), true))) else (some ((⟨#[]⟩ : ByteArray), false))) else (some ((⟨#[]⟩ : ByteArray), false)))))))))) = some (r1, r2) := h
 clear h
 by_cases c2 : a0.toList = ([97, 109, 112] : List UInt8)
 ·rw [if_pos c2] at H
  have c2b0 : (a0.toList == ([97, 109, 112] : List UInt8)) = true := beq_iff_eq.mpr c2
  have c2b1 : (a0.toList != ([97, 109, 112] : List UInt8)) = false := bne_eq_false_iff_eq.mpr c2
  clear c2
  simp only [Option.some.injEq, Prod.mk.injEq] at H
  obtain ⟨rfl, rfl⟩ := H
  go_enter Tryd.func35, Tryd.ntmps35
  go_wp2
  go_ret2
  exact ⟨by first | rfl | (simp [errW_none, errW_some] <;> rfl) | (simp [*, errW_none, errW_some] <;> rfl), by repeat (first | (with_reducible first | exact HB.1 | apply aB_ | apply pN_ | apply dB_) | exact HB.1)⟩
 ·rw [if_neg c2] at H
  have c2b0 : (a0.toList == ([97, 109, 112] : List UInt8)) = false := beq_eq_false_iff_ne.mpr c2
  have c2b1 : (a0.toList != ([97, 109, 112] : List UInt8)) = true := bne_iff_ne.mpr c2
  by_cases c3 : a0.toList = ([108, 116] : List UInt8)
  ·rw [if_pos c3] at H
   have c3b0 : (a0.toList == ([108, 116] : List UInt8)) = true := beq_iff_eq.mpr c3
   have c3b1 : (a0.toList != ([108, 116] : List UInt8)) = false := bne_eq_false_iff_eq.mpr c3
   clear c3
   simp only [Option.some.injEq, Prod.mk.injEq] at H
   obtain ⟨rfl, rfl⟩ := H
   go_enter Tryd.func35, Tryd.ntmps35
   go_wp2
   go_ret2
   exact ⟨by first | rfl | (simp [errW_none, errW_some] <;> rfl) | (simp [*, errW_none, errW_some] <;> rfl), by repeat (first | (with_reducible first | exact HB.1 | apply aB_ | apply pN_ | apply dB_) | exact HB.1)⟩
  ·rw [if_neg c3] at H
   have c3b0 : (a0.toList == ([108, 116] : List UInt8)) = false := beq_eq_false_iff_ne.mpr c3
   have c3b1 : (a0.toList != ([108, 116] : List UInt8)) = true := bne_iff_ne.mpr c3
   by_cases c4 : a0.toList = ([103, 116] : List UInt8)
   ·rw [if_pos c4] at H
    have c4b0 : (a0.toList == ([103, 116] : List UInt8)) = true := beq_iff_eq.mpr c4
    have c4b1 : (a0.toList != ([103, 116] : List UInt8)) = false := bne_eq_false_iff_eq.mpr c4
    clear c4
    simp only [Option.some.injEq, Prod.mk.injEq] at H
    obtain ⟨rfl, rfl⟩ := H
    go_enter Tryd.func35, Tryd.ntmps35
    go_wp2
    go_ret2
    exact ⟨by first | rfl | (simp [errW_none, errW_some] <;> rfl) | (simp [*, errW_none, errW_some] <;> rfl), by repeat (first | (with_reducible first | exact HB.1 | apply aB_ | apply pN_ | apply dB_) | exact HB.1)⟩
   ·rw [if_neg c4] at H
    have c4b0 : (a0.toList == ([103, 116] : List UInt8)) = false := beq_eq_false_iff_ne.mpr c4
    have c4b1 : (a0.toList != ([103, 116] : List UInt8)) = true := bne_iff_ne.mpr c4
    by_cases c5 : a0.toList = ([113, 117, 111, 116] : List UInt8)
    ·rw [if_pos c5] at H
     have c5b0 : (a0.toList == ([113, 117, 111, 116] : List UInt8)) = true := beq_iff_eq.mpr c5
     have c5b1 : (a0.toList != ([113, 117, 111, 116] : List UInt8)) = false := bne_eq_false_iff_eq.mpr c5
     clear c5
     simp only [Option.some.injEq, Prod.mk.injEq] at H
     obtain ⟨rfl, rfl⟩ := H
     go_enter Tryd.func35, Tryd.ntmps35
     go_wp2
     go_ret2
     exact ⟨by first | rfl | (simp [errW_none, errW_some] <;> rfl) | (simp [*, errW_none, errW_some] <;> rfl), by repeat (first | (with_reducible first | exact HB.1 | apply aB_ | apply pN_ | apply dB_) | exact HB.1)⟩
    ·rw [if_neg c5] at H
     have c5b0 : (a0.toList == ([113, 117, 111, 116] : List UInt8)) = false := beq_eq_false_iff_ne.mpr c5
     have c5b1 : (a0.toList != ([113, 117, 111, 116] : List UInt8)) = true := bne_iff_ne.mpr c5
     by_cases c6 : a0.toList = ([97, 112, 111, 115] : List UInt8)
     ·rw [if_pos c6] at H
      have c6b0 : (a0.toList == ([97, 112, 111, 115] : List UInt8)) = true := beq_iff_eq.mpr c6
      have c6b1 : (a0.toList != ([97, 112, 111, 115] : List UInt8)) = false := bne_eq_false_iff_eq.mpr c6
      clear c6
      simp only [Option.some.injEq, Prod.mk.injEq] at H
      obtain ⟨rfl, rfl⟩ := H
      go_enter Tryd.func35, Tryd.ntmps35
      go_wp2
      go_ret2
      exact ⟨by first | rfl | (simp [errW_none, errW_some] <;> rfl) | (simp [*, errW_none, errW_some] <;> rfl), by repeat (first | (with_reducible first | exact HB.1 | apply aB_ | apply pN_ | apply dB_) | exact HB.1)⟩
     ·rw [if_neg c6] at H
      have c6b0 : (a0.toList == ([97, 112, 111, 115] : List UInt8)) = false := beq_eq_false_iff_ne.mpr c6
      have c6b1 : (a0.toList != ([97, 112, 111, 115] : List UInt8)) = true := bne_iff_ne.mpr c6
      replace H := Option.bind_eq_some_iff.mp H
      obtain ⟨⟨t183, t184⟩, A70, H⟩ := H
      replace H : ((impl_ParseNum.f t183 126).bind fun bt185 => (if t184 = true then (if bt185.2 = true then (if bt185.1 < 32 then (some ((⟨#[]⟩ : ByteArray), false)) else (some (strOfNums (([(bt185.1) % 256] : List Int)), true))) else (some ((⟨#[]⟩ : ByteArray), false))) else (some ((⟨#[]⟩ : ByteArray), false)))) = some (r1, r2) := H
      have A7 := Aside0.mk A70
      clear A70
      replace H := Option.bind_eq_some_iff.mp H
      obtain ⟨⟨t185, t186⟩, A80, H⟩ := H
      replace H : (if t184 = true then (if t186 = true then (if t185 < 32 then (some ((⟨#[]⟩ : ByteArray), false)) else (some (strOfNums (([(t185) % 256] : List Int)), true))) else (some ((⟨#[]⟩ : ByteArray), false))) else (some ((⟨#[]⟩ : ByteArray), false))) = some (r1, r2) := H
      have A8 := Aside0.mk A80
      clear A80
      by_cases c9 : t184 = true
      ·subst c9
       have H1 : (if t186 = true then (if t185 < 32 then (some ((⟨#[]⟩ : ByteArray), false)) else (some (strOfNums (([(t185) % 256] : List Int)), true))) else (some ((⟨#[]⟩ : ByteArray), false))) = some (r1, r2) := by rw [if_pos rfl] at H; exact H
       clear H
       have H := H1
       clear H1
       by_cases c10 : t186 = true
       ·subst c10
        have H1 : (if t185 < 32 then (some ((⟨#[]⟩ : ByteArray), false)) else (some (strOfNums (([(t185) % 256] : List Int)), true))) = some (r1, r2) := by rw [if_pos rfl] at H; exact H
        clear H
        have H := H1
        clear H1
        by_cases c11 : t185 < 32
        ·rw [if_pos c11] at H
         have c11b0 : decide (t185 < 32) = true := decide_eq_true c11
         clear c11
         simp only [Option.some.injEq, Prod.mk.injEq] at H
         obtain ⟨rfl, rfl⟩ := H
         go_enter Tryd.func35, Tryd.ntmps35
         go_wp2_with (first | ((with_reducible refine gate_callee (f := 29) rfl ?_); refine goesL_ (some 21) rfl rfl Tryd.func29 (by kernel_rfl) rfl #[.string a0, .string (⟨#[35]⟩ : ByteArray)] rfl (by (try simp only [List.map_toArray, List.map_cons, List.map_nil]); first | done | rfl | (simp only [List.length_drop, List.length_take]; rfl)) ?_; (with_reducible refine (strings_CutPrefix.calls a0 (⟨#[35]⟩ : ByteArray) t183 true _ A7.1).mono ?_); rintro e w' ⟨rfl, ⟨nd, rfl⟩⟩; refine ⟨_, rfl, ?_⟩) | ((with_reducible refine gate_callee (f := 48) rfl ?_); refine goesL_ (some 26) rfl rfl Tryd.func48 (by kernel_rfl) rfl #[.string t183, .int .i64 126] rfl (by (try simp only [List.map_toArray, List.map_cons, List.map_nil]); first | done | rfl | (simp only [List.length_drop, List.length_take]; rfl)) ?_; (with_reducible refine (impl_ParseNum.calls t183 126 t185 true _ A8.1 ?side99).mono ?_); (case side99 => first | (with_reducible exact hG) | (refine GOK_below hG ?_; (repeat (first | (with_reducible first | exact HB.1 | apply aB_ | apply pN_ | apply dB_) | exact HB.1)); done) | (refine GOK_drawn hG ?_; (repeat (first | exact Drawn0.refl _ | apply Drawn0.step)); done) | exact hG); rintro e w12 ⟨rfl, hb⟩; refine ⟨_, rfl, ?_⟩; have n0_ := Aside0.mk (below_step (by repeat (first | (with_reducible first | exact HB.1 | apply aB_ | apply pN_ | apply dB_) | exact HB.1)) hb); clear HB; have HB := n0_; clear n0_; (try clear hb); (try clear hb2); (try clear hk); (try clear hi)))
         go_ret2
         exact ⟨by first | rfl | (simp [errW_none, errW_some] <;> rfl) | (simp [*, errW_none, errW_some] <;> rfl), by repeat (first | (with_reducible first | exact HB.1 | apply aB_ | apply pN_ | apply dB_) | exact HB.1)⟩
        ·rw [if_neg c11] at H
         have c11b0 : decide (t185 < 32) = false := decide_eq_false c11
         clear c11
         obtain ⟨y187, hy187⟩ : ∃ y_ : List Int, y_ = (([(t185) % 256] : List Int)) := ⟨_, rfl⟩
         replace H : (some (strOfNums y187, true)) = some (r1, r2) := by first | (rw [hy187]; with_reducible exact H) | (have H2_ := (Option.bind_some _ _).symm.trans H; rw [hy187]; with_reducible exact H2_) | (have H2_ := (Option.bind_some _ _).symm.trans H; with_reducible exact H2_) | with_reducible exact H | (rw [hy187]; exact H) | exact H
         have Ny187 := Aside0.mk hy187
         clear hy187
         simp only [Option.some.injEq, Prod.mk.injEq] at H
         obtain ⟨rfl, rfl⟩ := H
         go_enter Tryd.func35, Tryd.ntmps35
         go_wp2_with (first | ((with_reducible refine gate_callee (f := 29) rfl ?_); refine goesL_ (some 21) rfl rfl Tryd.func29 (by kernel_rfl) rfl #[.string a0, .string (⟨#[35]⟩ : ByteArray)] rfl (by (try simp only [List.map_toArray, List.map_cons, List.map_nil]); first | done | rfl | (simp only [List.length_drop, List.length_take]; rfl)) ?_; (with_reducible refine (strings_CutPrefix.calls a0 (⟨#[35]⟩ : ByteArray) t183 true _ A7.1).mono ?_); rintro e w' ⟨rfl, ⟨nd, rfl⟩⟩; refine ⟨_, rfl, ?_⟩) | ((with_reducible refine gate_callee (f := 48) rfl ?_); refine goesL_ (some 26) rfl rfl Tryd.func48 (by kernel_rfl) rfl #[.string t183, .int .i64 126] rfl (by (try simp only [List.map_toArray, List.map_cons, List.map_nil]); first | done | rfl | (simp only [List.length_drop, List.length_take]; rfl)) ?_; (with_reducible refine (impl_ParseNum.calls t183 126 t185 true _ A8.1 ?side99).mono ?_); (case side99 => first | (with_reducible exact hG) | (refine GOK_below hG ?_; (repeat (first | (with_reducible first | exact HB.1 | apply aB_ | apply pN_ | apply dB_) | exact HB.1)); done) | (refine GOK_drawn hG ?_; (repeat (first | exact Drawn0.refl _ | apply Drawn0.step)); done) | exact hG); rintro e w13 ⟨rfl, hb⟩; refine ⟨_, rfl, ?_⟩; have n0_ := Aside0.mk (below_step (by repeat (first | (with_reducible first | exact HB.1 | apply aB_ | apply pN_ | apply dB_) | exact HB.1)) hb); clear HB; have HB := n0_; clear n0_; (try clear hb); (try clear hb2); (try clear hk); (try clear hi)) | ((with_reducible refine gate_dst (N := 41) rfl ?_); refine Kd.R_lit (Kd.int .u8) _ 5 ?hg (N := 41) ?hd (xs := ([(t185) % 256] : List Int)) (inner := [.int .u8 ((t185) % 256)]) (ok := fun _ => True) (okp := fun _ => True) ?hr ?hp (fun _ hk => hk) trivial (Below.refl _ _) (Nat.le_refl _) (by simp) ?_; (case hd => rfl); (case hg => rfl); (case hr => first | (go_simp; done) | (go_simp; rfl)); (case hp => exact (Reps.one (show Kd.M (Kd.int .u8) _ _ _ ((t185) % 256) [.int .u8 ((t185) % 256)] from rfl) (Reps.none _ _))); intro v188 w14 ho15 hb hg_ hnew_; clear hg_ hnew_; (first | rw [← Ny187.1] at ho15 | (simp only [Int.reduceToNat] at ho15; rw [← Ny187.1] at ho15)); have n0_ := Aside0.mk (Kd.R_lower ho15 (below_size (by repeat (first | (with_reducible first | exact HB.1 | apply aB_ | apply pN_ | apply dB_) | exact HB.1)))); have n1_ := Aside0.mk (below_step (by repeat (first | (with_reducible first | exact HB.1 | apply aB_ | apply pN_ | apply dB_) | exact HB.1)) hb); clear HB; have HO189 := n0_; have HB := n1_; clear n0_ n1_; clear hb ho15; have hcv16 := own_string (P := Tryd.prog) Tryd.underlying22 Tryd.underlying5 Tryd.underlying9 (Kd.own_of_R HO189.1)))
         go_ret2
         exact ⟨by first | rfl | (simp [errW_none, errW_some] <;> rfl) | (simp [*, errW_none, errW_some] <;> rfl), by repeat (first | (with_reducible first | exact HB.1 | apply aB_ | apply pN_ | apply dB_) | exact HB.1)⟩
       ·replace c10 := Bool.eq_false_iff.mpr c10
        subst c10
        have H1 : (some ((⟨#[]⟩ : ByteArray), false)) = some (r1, r2) := by rw [if_neg (show ¬ (false = true) by decide)] at H; exact H
        clear H
        have H := H1
        clear H1
        simp only [Option.some.injEq, Prod.mk.injEq] at H
        obtain ⟨rfl, rfl⟩ := H
        go_enter Tryd.func35, Tryd.ntmps35
        go_wp2_with (first | ((with_reducible refine gate_callee (f := 29) rfl ?_); refine goesL_ (some 21) rfl rfl Tryd.func29 (by kernel_rfl) rfl #[.string a0, .string (⟨#[35]⟩ : ByteArray)] rfl (by (try simp only [List.map_toArray, List.map_cons, List.map_nil]); first | done | rfl | (simp only [List.length_drop, List.length_take]; rfl)) ?_; (with_reducible refine (strings_CutPrefix.calls a0 (⟨#[35]⟩ : ByteArray) t183 true _ A7.1).mono ?_); rintro e w' ⟨rfl, ⟨nd, rfl⟩⟩; refine ⟨_, rfl, ?_⟩) | ((with_reducible refine gate_callee (f := 48) rfl ?_); refine goesL_ (some 26) rfl rfl Tryd.func48 (by kernel_rfl) rfl #[.string t183, .int .i64 126] rfl (by (try simp only [List.map_toArray, List.map_cons, List.map_nil]); first | done | rfl | (simp only [List.length_drop, List.length_take]; rfl)) ?_; (with_reducible refine (impl_ParseNum.calls t183 126 t185 false _ A8.1 ?side99).mono ?_); (case side99 => first | (with_reducible exact hG) | (refine GOK_below hG ?_; (repeat (first | (with_reducible first | exact HB.1 | apply aB_ | apply pN_ | apply dB_) | exact HB.1)); done) | (refine GOK_drawn hG ?_; (repeat (first | exact Drawn0.refl _ | apply Drawn0.step)); done) | exact hG); rintro e w17 ⟨rfl, hb⟩; refine ⟨_, rfl, ?_⟩; have n0_ := Aside0.mk (below_step (by repeat (first | (with_reducible first | exact HB.1 | apply aB_ | apply pN_ | apply dB_) | exact HB.1)) hb); clear HB; have HB := n0_; clear n0_; (try clear hb); (try clear hb2); (try clear hk); (try clear hi)))
        go_ret2
        exact ⟨by first | rfl | (simp [errW_none, errW_some] <;> rfl) | (simp [*, errW_none, errW_some] <;> rfl), by repeat (first | (with_reducible first | exact HB.1 | apply aB_ | apply pN_ | apply dB_) | exact HB.1)⟩
      ·replace c9 := Bool.eq_false_iff.mpr c9
       subst c9
       have H1 : (some ((⟨#[]⟩ : ByteArray), false)) = some (r1, r2) := by rw [if_neg (show ¬ (false = true) by decide)] at H; exact H
       clear H
       have H := H1
       clear H1
       simp only [Option.some.injEq, Prod.mk.injEq] at H
       obtain ⟨rfl, rfl⟩ := H
       go_enter Tryd.func35, Tryd.ntmps35
       go_wp2_with (first | ((with_reducible refine gate_callee (f := 29) rfl ?_); refine goesL_ (some 21) rfl rfl Tryd.func29 (by kernel_rfl) rfl #[.string a0, .string (⟨#[35]⟩ : ByteArray)] rfl (by (try simp only [List.map_toArray, List.map_cons, List.map_nil]); first | done | rfl | (simp only [List.length_drop, List.length_take]; rfl)) ?_; (with_reducible refine (strings_CutPrefix.calls a0 (⟨#[35]⟩ : ByteArray) t183 false _ A7.1).mono ?_); rintro e w' ⟨rfl, ⟨nd, rfl⟩⟩; refine ⟨_, rfl, ?_⟩) | ((with_reducible refine gate_callee (f := 48) rfl ?_); refine goesL_ (some 26) rfl rfl Tryd.func48 (by kernel_rfl) rfl #[.string t183, .int .i64 126] rfl (by (try simp only [List.map_toArray, List.map_cons, List.map_nil]); first | done | rfl | (simp only [List.length_drop, List.length_take]; rfl)) ?_; (with_reducible refine (impl_ParseNum.calls t183 126 t185 t186 _ A8.1 ?side99).mono ?_); (case side99 => first | (with_reducible exact hG) | (refine GOK_below hG ?_; (repeat (first | (with_reducible first | exact HB.1 | apply aB_ | apply pN_ | apply dB_) | exact HB.1)); done) | (refine GOK_drawn hG ?_; (repeat (first | exact Drawn0.refl _ | apply Drawn0.step)); done) | exact hG); rintro e w18 ⟨rfl, hb⟩; refine ⟨_, rfl, ?_⟩; have n0_ := Aside0.mk (below_step (by repeat (first | (with_reducible first | exact HB.1 | apply aB_ | apply pN_ | apply dB_) | exact HB.1)) hb); clear HB; have HB := n0_; clear n0_; (try clear hb); (try clear hb2); (try clear hk); (try clear hi)))
       go_ret2
       exact ⟨by first | rfl | (simp [errW_none, errW_some] <;> rfl) | (simp [*, errW_none, errW_some] <;> rfl), by repeat (first | (with_reducible first | exact HB.1 | apply aB_ | apply pN_ | apply dB_) | exact HB.1)⟩

def impl_Unescape.l0 : Nat → ByteArray → ByteArray → Option (ByteArray × Bool)
 | 0, _, _ => none
 | k + 1, x0, x4 => (strings_Cut.f x0 (⟨#[38]⟩ : ByteArray)).bind fun bt191 => (if x4.size + bt191.1.size ≤ 9223372036854775807 then (if bt191.2.2 = true then ((strings_Cut.f bt191.2.1 (⟨#[59]⟩ : ByteArray)).bind fun bt194 => ((impl_named.f bt194.1).bind fun bt197 => (if bt194.2.2 = true then (if bt197.2 = true then (if (x4 ++ bt191.1).size + bt197.1.size ≤ 9223372036854775807 then (impl_Unescape.l0 k bt194.2.1 ((x4 ++ bt191.1) ++ bt197.1)) else (none)) else (some ((⟨#[]⟩ : ByteArray), false))) else (some ((⟨#[]⟩ : ByteArray), false))))) else (some (x4 ++ bt191.1, true))) else (none))
def impl_Unescape.f (k : Nat) (a0 : ByteArray) : Option (ByteArray × Bool) := (strings_Contains.f a0 (⟨#[60]⟩ : ByteArray)).bind fun t190 => (if t190 = true then (some ((⟨#[]⟩ : ByteArray), false)) else (impl_Unescape.l0 k a0 (⟨#[]⟩ : ByteArray)))

theorem impl_Unescape.calls (k : Nat) (a0 : ByteArray) (r1 : ByteArray) (r2 : Bool) (w : World) (h : impl_Unescape.f k a0 = some (r1, r2)) (hG : GOK w) :
  Calls Tryd.prog 20 #[.string a0] w fun e w' => e = .returned (.tuple #[.string r1, .bool r2]) ∧ Below w.heap.size w w' := by
 have HB := Aside0.mk (Below.refl w.heap.size w)
 have H : ((strings_Contains.f a0 (⟨#[60]⟩ : ByteArray)).bind fun t190 => (if t190 = true then (some ((⟨#[]⟩ : ByteArray), false)) else (impl_Unescape.l0 k a0 (⟨#[]⟩ : ByteArray)))) = some (r1, r2) := h
 clear h
 replace H := Option.bind_eq_some_iff.mp H
 obtain ⟨t190, A20, H⟩ := H
 replace H : (if t190 = true then (some ((⟨#[]⟩ : ByteArray), false)) else (impl_Unescape.l0 k a0 (⟨#[]⟩ : ByteArray))) = some (r1, r2) := H
 have A2 := Aside0.mk A20
 clear A20
 by_cases c3 : t190 = true
 ·subst c3
  have H1 : (some ((⟨#[]⟩ : ByteArray), false)) = some (r1, r2) := by rw [if_pos rfl] at H; exact H
  clear H
  have H := H1
  clear H1
  simp only [Option.some.injEq, Prod.mk.injEq] at H
  obtain ⟨rfl, rfl⟩ := H
  go_enter Tryd.func20, Tryd.ntmps20
  go_wp2_with (first | ((with_reducible refine gate_callee (f := 34) rfl ?_); refine goesL_ (some 14) rfl rfl Tryd.func34 (by kernel_rfl) rfl #[.string a0, .string (⟨#[60]⟩ : ByteArray)] rfl (by (try simp only [List.map_toArray, List.map_cons, List.map_nil]); first | done | rfl | (simp only [List.length_drop, List.length_take]; rfl)) ?_; (with_reducible refine (strings_Contains.calls a0 (⟨#[60]⟩ : ByteArray) true _ A2.1).mono ?_); rintro e w' ⟨rfl, ⟨nd, rfl⟩⟩; refine ⟨_, rfl, ?_⟩))
  go_ret2
  exact ⟨by first | rfl | (simp [errW_none, errW_some] <;> rfl) | (simp [*, errW_none, errW_some] <;> rfl), by repeat (first | (with_reducible first | exact HB.1 | apply aB_ | apply pN_ | apply dB_) | exact HB.1)⟩
 ·replace c3 := Bool.eq_false_iff.mpr c3
  subst c3
  have H1 : (impl_Unescape.l0 k a0 (⟨#[]⟩ : ByteArray)) = some (r1, r2) := by rw [if_neg (show ¬ (false = true) by decide)] at H; exact H
  clear H
  have H := H1
  clear H1
  have H' := Aside0.mk H
  clear H
  go_enter Tryd.func20, Tryd.ntmps20
  go_wp2_with (first | ((with_reducible refine gate_callee (f := 34) rfl ?_); refine goesL_ (some 14) rfl rfl Tryd.func34 (by kernel_rfl) rfl #[.string a0, .string (⟨#[60]⟩ : ByteArray)] rfl (by (try simp only [List.map_toArray, List.map_cons, List.map_nil]); first | done | rfl | (simp only [List.length_drop, List.length_take]; rfl)) ?_; (with_reducible refine (strings_Contains.calls a0 (⟨#[60]⟩ : ByteArray) false _ A2.1).mono ?_); rintro e w' ⟨rfl, ⟨nd, rfl⟩⟩; refine ⟨_, rfl, ?_⟩))
  go_loopg [0, 4] k (fun kq v0 v4 w' => ∃ (x0_1 : ByteArray) (x4_1 : ByteArray), v0 = .string x0_1 ∧ v4 = .string x4_1 ∧ Aside0 (impl_Unescape.l0 kq x0_1 x4_1 = some (r1, r2)) ∧ Aside0 (kq ≤ k) ∧ Aside0 (Below w.heap.size w w'))
  case atStart => exact ⟨(a0), ((⟨#[]⟩ : ByteArray)), (by first | rfl | (simp; done) | (simp [*]; done) | (simp [empty_ne, *]; done)), (by first | rfl | (simp; done) | (simp [*]; done) | (simp [empty_ne, *]; done)), H', ⟨Nat.le_refl _⟩, ⟨by repeat (first | (with_reducible first | exact HB.1 | apply aB_ | apply pN_ | apply dB_) | exact HB.1)⟩⟩
  case round =>
   clear H'
   try clear c2
   try clear p2
   try clear c3
   obtain ⟨x0_1, x4_1, rfl, rfl, HA, HK1, HB⟩ := hrel
   cases gk with
   | zero => exact absurd HA.1 (by simp [impl_Unescape.l0])
   | succ k1 =>
    have H := HA.1
    clear HA
    simp only [impl_Unescape.l0] at H
    replace H := Option.bind_eq_some_iff.mp H
    obtain ⟨⟨t191, t192, t193⟩, A40, H⟩ := H
    replace H : (if x4_1.size + t191.size ≤ 9223372036854775807 then (if t193 = true then ((strings_Cut.f t192 (⟨#[59]⟩ : ByteArray)).bind fun bt194 => ((impl_named.f bt194.1).bind fun bt197 => (if bt194.2.2 = true then (if bt197.2 = true then (if (x4_1 ++ t191).size + bt197.1.size ≤ 9223372036854775807 then (impl_Unescape.l0 k1 bt194.2.1 ((x4_1 ++ t191) ++ bt197.1)) else (none)) else (some ((⟨#[]⟩ : ByteArray), false))) else (some ((⟨#[]⟩ : ByteArray), false))))) else (some (x4_1 ++ t191, true))) else (none)) = some (r1, r2) := H
    have A4 := Aside0.mk A40
    clear A40
    by_cases c5 : x4_1.size + t191.size ≤ 9223372036854775807
    ·rw [if_pos c5] at H
     have c5b0 := eq_true c5
     have c5b1 : decide (x4_1.size + t191.size ≤ 9223372036854775807) = true := decide_eq_true c5
     try have c5b2 : (9223372036854775807 < x4_1.size + t191.size) = False := eq_false (Nat.not_lt.2 c5)
     by_cases c6 : t193 = true
     ·subst c6
      have H1 : ((strings_Cut.f t192 (⟨#[59]⟩ : ByteArray)).bind fun bt194 => ((impl_named.f bt194.1).bind fun bt197 => (if bt194.2.2 = true then (if bt197.2 = true then (if (x4_1 ++ t191).size + bt197.1.size ≤ 9223372036854775807 then (impl_Unescape.l0 k1 bt194.2.1 ((x4_1 ++ t191) ++ bt197.1)) else (none)) else (some ((⟨#[]⟩ : ByteArray), false))) else (some ((⟨#[]⟩ : ByteArray), false))))) = some (r1, r2) := by rw [if_pos rfl] at H; exact H
      clear H
      have H := H1
      clear H1
      replace H := Option.bind_eq_some_iff.mp H
      obtain ⟨⟨t194, t195, t196⟩, A70, H⟩ := H
      replace H : ((impl_named.f t194).bind fun bt197 => (if t196 = true then (if bt197.2 = true then (if (x4_1 ++ t191).size + bt197.1.size ≤ 9223372036854775807 then (impl_Unescape.l0 k1 t195 ((x4_1 ++ t191) ++ bt197.1)) else (none)) else (some ((⟨#[]⟩ : ByteArray), false))) else (some ((⟨#[]⟩ : ByteArray), false)))) = some (r1, r2) := H
      have A7 := Aside0.mk A70
      clear A70
      replace H := Option.bind_eq_some_iff.mp H
      obtain ⟨⟨t197, t198⟩, A80, H⟩ := H
      replace H : (if t196 = true then (if t198 = true then (if (x4_1 ++ t191).size + t197.size ≤ 9223372036854775807 then (impl_Unescape.l0 k1 t195 ((x4_1 ++ t191) ++ t197)) else (none)) else (some ((⟨#[]⟩ : ByteArray), false))) else (some ((⟨#[]⟩ : ByteArray), false))) = some (r1, r2) := H
      have A8 := Aside0.mk A80
      clear A80
      by_cases c9 : t196 = true
      ·subst c9
       have H1 : (if t198 = true then (if (x4_1 ++ t191).size + t197.size ≤ 9223372036854775807 then (impl_Unescape.l0 k1 t195 ((x4_1 ++ t191) ++ t197)) else (none)) else (some ((⟨#[]⟩ : ByteArray), false))) = some (r1, r2) := by rw [if_pos rfl] at H; exact H
       clear H
       have H := H1
       clear H1
       by_cases c10 : t198 = true
       ·subst c10
        have H1 : (if (x4_1 ++ t191).size + t197.size ≤ 9223372036854775807 then (impl_Unescape.l0 k1 t195 ((x4_1 ++ t191) ++ t197)) else (none)) = some (r1, r2) := by rw [if_pos rfl] at H; exact H
        clear H
        have H := H1
        clear H1
        by_cases c11 : (x4_1 ++ t191).size + t197.size ≤ 9223372036854775807
        ·rw [if_pos c11] at H
         have c11b0 := eq_true c11
         have c11b1 : decide ((x4_1 ++ t191).size + t197.size ≤ 9223372036854775807) = true := decide_eq_true c11
         try have c11b2 : (9223372036854775807 < (x4_1 ++ t191).size + t197.size) = False := eq_false (Nat.not_lt.2 c11)
         have c11s : x4_1.size + t191.size + t197.size ≤ 9223372036854775807 := by have h_ := c11; simp only [ByteArray.size_append] at h_; exact h_
         have c11s0 := eq_true c11s
         have c11s1 : decide (x4_1.size + t191.size + t197.size ≤ 9223372036854775807) = true := decide_eq_true c11s
         have c11s2 : (9223372036854775807 < x4_1.size + t191.size + t197.size) = False := eq_false (Nat.not_lt.2 c11s)
         have H' := Aside0.mk H
         clear H
         go_wp2_with (first | ((with_reducible refine gate_callee (f := 32) rfl ?_); refine goesL_ (some 17) rfl rfl Tryd.func32 (by kernel_rfl) rfl #[.string x0_1, .string (⟨#[38]⟩ : ByteArray)] rfl (by (try simp only [List.map_toArray, List.map_cons, List.map_nil]); first | done | rfl | (simp only [List.length_drop, List.length_take]; rfl)) ?_; (with_reducible refine (strings_Cut.calls x0_1 (⟨#[38]⟩ : ByteArray) t191 t192 true _ A4.1 ?side99).mono ?_); (case side99 => first | (with_reducible exact hG) | (refine GOK_below hG ?_; (repeat (first | (with_reducible first | exact HB.1 | apply aB_ | apply pN_ | apply dB_) | exact HB.1)); done) | (refine GOK_drawn hG ?_; (repeat (first | exact Drawn0.refl _ | apply Drawn0.step)); done) | exact hG); rintro e w' ⟨rfl, ⟨nd, rfl⟩⟩; refine ⟨_, rfl, ?_⟩) | ((with_reducible refine gate_callee (f := 32) rfl ?_); refine goesL_ (some 29) rfl rfl Tryd.func32 (by kernel_rfl) rfl #[.string t192, .string (⟨#[59]⟩ : ByteArray)] rfl (by (try simp only [List.map_toArray, List.map_cons, List.map_nil]); first | done | rfl | (simp only [List.length_drop, List.length_take]; rfl)) ?_; (with_reducible refine (strings_Cut.calls t192 (⟨#[59]⟩ : ByteArray) t194 t195 true _ A7.1 ?side99).mono ?_); (case side99 => first | (with_reducible exact hG) | (refine GOK_below hG ?_; (repeat (first | (with_reducible first | exact HB.1 | apply aB_ | apply pN_ | apply dB_) | exact HB.1)); done) | (refine GOK_drawn hG ?_; (repeat (first | exact Drawn0.refl _ | apply Drawn0.step)); done) | exact hG); rintro e w' ⟨rfl, ⟨nd, rfl⟩⟩; refine ⟨_, rfl, ?_⟩) | ((with_reducible refine gate_callee (f := 35) rfl ?_); refine goesL_ (some 35) rfl rfl Tryd.func35 (by kernel_rfl) rfl #[.string t194] rfl (by (try simp only [List.map_toArray, List.map_cons, List.map_nil]); first | done | rfl | (simp only [List.length_drop, List.length_take]; rfl)) ?_; (with_reducible refine (impl_named.calls t194 t197 true _ A8.1 ?side99).mono ?_); (case side99 => first | (with_reducible exact hG) | (refine GOK_below hG ?_; (repeat (first | (with_reducible first | exact HB.1 | apply aB_ | apply pN_ | apply dB_) | exact HB.1)); done) | (refine GOK_drawn hG ?_; (repeat (first | exact Drawn0.refl _ | apply Drawn0.step)); done) | exact hG); rintro e w12 ⟨rfl, hb⟩; refine ⟨_, rfl, ?_⟩; have n0_ := Aside0.mk (below_step (by repeat (first | (with_reducible first | exact HB.1 | apply aB_ | apply pN_ | apply dB_) | exact HB.1)) hb); clear HB; have HB := n0_; clear n0_; (try clear hb); (try clear hb2); (try clear hk); (try clear hi)))
         go_roundg k1
         case measure => have := HK1.1; omega
         case rel => exact ⟨(t195), ((x4_1 ++ t191) ++ t197), (by first | rfl | (simp; done) | (simp [*]; done) | (simp [empty_ne, *]; done)), (by first | rfl | (simp; done) | (simp [*]; done) | (simp [empty_ne, *]; done)), H', ⟨by have := HK1.1; omega⟩, ⟨by repeat (first | (with_reducible first | exact HB.1 | apply aB_ | apply pN_ | apply dB_) | exact HB.1)⟩⟩
        ·rw [if_neg c11] at H
         exact absurd H (by simp)
       ·replace c10 := Bool.eq_false_iff.mpr c10
        subst c10
        have H1 : (some ((⟨#[]⟩ : ByteArray), false)) = some (r1, r2) := by rw [if_neg (show ¬ (false = true) by decide)] at H; exact H
        clear H
        have H := H1
        clear H1
        simp only [Option.some.injEq, Prod.mk.injEq] at H
        obtain ⟨rfl, rfl⟩ := H
        go_wp2_with (first | ((with_reducible refine gate_callee (f := 32) rfl ?_); refine goesL_ (some 17) rfl rfl Tryd.func32 (by kernel_rfl) rfl #[.string x0_1, .string (⟨#[38]⟩ : ByteArray)] rfl (by (try simp only [List.map_toArray, List.map_cons, List.map_nil]); first | done | rfl | (simp only [List.length_drop, List.length_take]; rfl)) ?_; (with_reducible refine (strings_Cut.calls x0_1 (⟨#[38]⟩ : ByteArray) t191 t192 true _ A4.1 ?side99).mono ?_); (case side99 => first | (with_reducible exact hG) | (refine GOK_below hG ?_; (repeat (first | (with_reducible first | exact HB.1 | apply aB_ | apply pN_ | apply dB_) | exact HB.1)); done) | (refine GOK_drawn hG ?_; (repeat (first | exact Drawn0.refl _ | apply Drawn0.step)); done) | exact hG); rintro e w' ⟨rfl, ⟨nd, rfl⟩⟩; refine ⟨_, rfl, ?_⟩) | ((with_reducible refine gate_callee (f := 32) rfl ?_); refine goesL_ (some 29) rfl rfl Tryd.func32 (by kernel_rfl) rfl #[.string t192, .string (⟨#[59]⟩ : ByteArray)] rfl (by (try simp only [List.map_toArray, List.map_cons, List.map_nil]); first | done | rfl | (simp only [List.length_drop, List.length_take]; rfl)) ?_; (with_reducible refine (strings_Cut.calls t192 (⟨#[59]⟩ : ByteArray) t194 t195 true _ A7.1 ?side99).mono ?_); (case side99 => first | (with_reducible exact hG) | (refine GOK_below hG ?_; (repeat (first | (with_reducible first | exact HB.1 | apply aB_ | apply pN_ | apply dB_) | exact HB.1)); done) | (refine GOK_drawn hG ?_; (repeat (first | exact Drawn0.refl _ | apply Drawn0.step)); done) | exact hG); rintro e w' ⟨rfl, ⟨nd, rfl⟩⟩; refine ⟨_, rfl, ?_⟩) | ((with_reducible refine gate_callee (f := 35) rfl ?_); refine goesL_ (some 35) rfl rfl Tryd.func35 (by kernel_rfl) rfl #[.string t194] rfl (by (try simp only [List.map_toArray, List.map_cons, List.map_nil]); first | done | rfl | (simp only [List.length_drop, List.length_take]; rfl)) ?_; (with_reducible refine (impl_named.calls t194 t197 false _ A8.1 ?side99).mono ?_); (case side99 => first | (with_reducible exact hG) | (refine GOK_below hG ?_; (repeat (first | (with_reducible first | exact HB.1 | apply aB_ | apply pN_ | apply dB_) | exact HB.1)); done) | (refine GOK_drawn hG ?_; (repeat (first | exact Drawn0.refl _ | apply Drawn0.step)); done) | exact hG); rintro e w13 ⟨rfl, hb⟩; refine ⟨_, rfl, ?_⟩; have n0_ := Aside0.mk (below_step (by repeat (first | (with_reducible first | exact HB.1 | apply aB_ | apply pN_ | apply dB_) | exact HB.1)) hb); clear HB; have HB := n0_; clear n0_; (try clear hb); (try clear hb2); (try clear hk); (try clear hi)))
        go_ret2
        exact ⟨by first | rfl | (simp [errW_none, errW_some] <;> rfl) | (simp [*, errW_none, errW_some] <;> rfl), by repeat (first | (with_reducible first | exact HB.1 | apply aB_ | apply pN_ | apply dB_) | exact HB.1)⟩
      ·replace c9 := Bool.eq_false_iff.mpr c9
       subst c9
       have H1 : (some ((⟨#[]⟩ : ByteArray), false)) = some (r1, r2) := by rw [if_neg (show ¬ (false = true) by decide)] at H; exact H
       clear H
       have H := H1
       clear H1
       simp only [Option.some.injEq, Prod.mk.injEq] at H
       obtain ⟨rfl, rfl⟩ := H
       go_wp2_with (first | ((with_reducible refine gate_callee (f := 32) rfl ?_); refine goesL_ (some 17) rfl rfl Tryd.func32 (by kernel_rfl) rfl #[.string x0_1, .string (⟨#[38]⟩ : ByteArray)] rfl (by (try simp only [List.map_toArray, List.map_cons, List.map_nil]); first | done | rfl | (simp only [List.length_drop, List.length_take]; rfl)) ?_; (with_reducible refine (strings_Cut.calls x0_1 (⟨#[38]⟩ : ByteArray) t191 t192 true _ A4.1 ?side99).mono ?_); (case side99 => first | (with_reducible exact hG) | (refine GOK_below hG ?_; (repeat (first | (with_reducible first | exact HB.1 | apply aB_ | apply pN_ | apply dB_) | exact HB.1)); done) | (refine GOK_drawn hG ?_; (repeat (first | exact Drawn0.refl _ | apply Drawn0.step)); done) | exact hG); rintro e w' ⟨rfl, ⟨nd, rfl⟩⟩; refine ⟨_, rfl, ?_⟩) | ((with_reducible refine gate_callee (f := 32) rfl ?_); refine goesL_ (some 29) rfl rfl Tryd.func32 (by kernel_rfl) rfl #[.string t192, .string (⟨#[59]⟩ : ByteArray)] rfl (by (try simp only [List.map_toArray, List.map_cons, List.map_nil]); first | done | rfl | (simp only [List.length_drop, List.length_take]; rfl)) ?_; (with_reducible refine (strings_Cut.calls t192 (⟨#[59]⟩ : ByteArray) t194 t195 false _ A7.1 ?side99).mono ?_); (case side99 => first | (with_reducible exact hG) | (refine GOK_below hG ?_; (repeat (first | (with_reducible first | exact HB.1 | apply aB_ | apply pN_ | apply dB_) | exact HB.1)); done) | (refine GOK_drawn hG ?_; (repeat (first | exact Drawn0.refl _ | apply Drawn0.step)); done) | exact hG); rintro e w' ⟨rfl, ⟨nd, rfl⟩⟩; refine ⟨_, rfl, ?_⟩) | ((with_reducible refine gate_callee (f := 35) rfl ?_); refine goesL_ (some 35) rfl rfl Tryd.func35 (by kernel_rfl) rfl #[.string t194] rfl (by (try simp only [List.map_toArray, List.map_cons, List.map_nil]); first | done | rfl | (simp only [List.length_drop, List.length_take]; rfl)) ?_; (with_reducible refine (impl_named.calls t194 t197 t198 _ A8.1 ?side99).mono ?_); (case side99 => first | (with_reducible exact hG) | (refine GOK_below hG ?_; (repeat (first | (with_reducible first | exact HB.1 | apply aB_ | apply pN_ | apply dB_) | exact HB.1)); done) | (refine GOK_drawn hG ?_; (repeat (first | exact Drawn0.refl _ | apply Drawn0.step)); done) | exact hG); rintro e w14 ⟨rfl, hb⟩; refine ⟨_, rfl, ?_⟩; have n0_ := Aside0.mk (below_step (by repeat (first | (with_reducible first | exact HB.1 | apply aB_ | apply pN_ | apply dB_) | exact HB.1)) hb); clear HB; have HB := n0_; clear n0_; (try clear hb); (try clear hb2); (try clear hk); (try clear hi)))
       go_ret2
       exact ⟨by first | rfl | (simp [errW_none, errW_some] <;> rfl) | (simp [*, errW_none, errW_some] <;> rfl), by repeat (first | (with_reducible first | exact HB.1 | apply aB_ | apply pN_ | apply dB_) | exact HB.1)⟩
     ·replace c6 := Bool.eq_false_iff.mpr c6
      subst c6
      have H1 : (some (x4_1 ++ t191, true)) = some (r1, r2) := by rw [if_neg (show ¬ (false = true) by decide)] at H; exact H
      clear H
      have H := H1
      clear H1
      simp only [Option.some.injEq, Prod.mk.injEq] at H
      obtain ⟨rfl, rfl⟩ := H
      go_wp2_with (first | ((with_reducible refine gate_callee (f := 32) rfl ?_); refine goesL_ (some 17) rfl rfl Tryd.func32 (by kernel_rfl) rfl #[.string x0_1, .string (⟨#[38]⟩ : ByteArray)] rfl (by (try simp only [List.map_toArray, List.map_cons, List.map_nil]); first | done | rfl | (simp only [List.length_drop, List.length_take]; rfl)) ?_; (with_reducible refine (strings_Cut.calls x0_1 (⟨#[38]⟩ : ByteArray) t191 t192 false _ A4.1 ?side99).mono ?_); (case side99 => first | (with_reducible exact hG) | (refine GOK_below hG ?_; (repeat (first | (with_reducible first | exact HB.1 | apply aB_ | apply pN_ | apply dB_) | exact HB.1)); done) | (refine GOK_drawn hG ?_; (repeat (first | exact Drawn0.refl _ | apply Drawn0.step)); done) | exact hG); rintro e w' ⟨rfl, ⟨nd, rfl⟩⟩; refine ⟨_, rfl, ?_⟩))
      go_ret2
      exact ⟨by first | rfl | (simp [errW_none, errW_some] <;> rfl) | (simp [*, errW_none, errW_some] <;> rfl), by repeat (first | (with_reducible first | exact HB.1 | apply aB_ | apply pN_ | apply dB_) | exact HB.1)⟩
    ·rw [if_neg c5] at H
     exact absurd H (by simp)

def impl_isSmall.f (a0 : Int) : Option (Bool) := if a0 ≥ 97 then (some (decide (a0 ≤ 122))) else (some false)
theorem impl_isSmall.calls (a0 : Int) (r : Bool) (w : World) (h : impl_isSmall.f a0 = some r) :
  Calls Tryd.prog 42 #[.int .u8 a0] w fun e w' => e = .returned (.bool r) ∧ Drawn0 w w' := by
 have H : (if a0 ≥ 97 then (some (decide (a0 ≤ 122))) else (some false)) = some r := h
 clear h
 by_cases c2 : a0 ≥ 97
 ·rw [if_pos c2] at H
  have c2b0 : decide (97 ≤ a0) = true := decide_eq_true c2
  clear c2
  obtain rfl := Option.some.inj H
  go_enter Tryd.func42, Tryd.ntmps42
  go_wp2
  go_ret
  exact ⟨by first | rfl | (simp; done) | (simp [*]; done) | (simp [empty_ne, *]; done), by repeat (first | exact Drawn0.refl _ | apply Drawn0.step)⟩
 ·rw [if_neg c2] at H
  have c2b0 : decide (97 ≤ a0) = false := decide_eq_false c2
  clear c2
  obtain rfl := Option.some.inj H
  go_enter Tryd.func42, Tryd.ntmps42
  go_wp2
  go_ret
  exact ⟨by first | rfl | (simp; done) | (simp [*]; done) | (simp [empty_ne, *]; done), by repeat (first | exact Drawn0.refl _ | apply Drawn0.step)⟩

end Go.Proofs.YtfncjddolbghlaaDoor.GFnPieces
