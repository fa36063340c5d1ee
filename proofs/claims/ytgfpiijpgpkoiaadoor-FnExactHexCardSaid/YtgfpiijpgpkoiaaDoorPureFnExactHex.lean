/- The program's Hex answers as the reference's does, for every number; no condition. -/
import Derived.Test.YtgfpiijpgpkoiaaDoorGFnExactHexx1
import Derived.Test.YtgfpiijpgpkoiaaDoorBase
namespace Go.Proofs.YtgfpiijpgpkoiaaDoor.Pure
open Go.RowKit Go.Proofs.YtgfpiijpgpkoiaaDoor.GFnExactHex Go.Proofs.YtgfpiijpgpkoiaaDoor.Base Go.Proofs.YtgfpiijpgpkoiaaDoorW.PrintWords Go.Proofs.YtgfpiijpgpkoiaaDoorW.PrintLast
set_option linter.unusedVariables false
set_option linter.unusedSimpArgs false

/-- a digit to the base 16, and a number's digits -/
def hexN (u : Nat) : List Int := (hexB u).map fun b => (b.toNat : Int)
def hexDg (d : Nat) : Int := if d < 10 then 48 + (d : Int) else 87 + (d : Int)
theorem hexb_toNat (d : Nat) (h : d < 16) : ((hexb d).toNat : Int) = hexDg d := by
  unfold hexb hexDg
  split
  · rw [show (UInt8.ofNat (48 + d)).toNat = 48 + d from by simp; omega]; omega
  · rw [show (UInt8.ofNat (87 + d)).toNat = 87 + d from by simp; omega]; omega
theorem hexN_step (u : Nat) (h : 15 < u) : hexN u = hexN (u / 16) ++ [hexDg (u % 16)] := by
  unfold hexN
  rw [hexB, dif_neg (by omega), List.map_append]
  congr 1
  simp only [List.map_cons, List.map_nil, List.cons.injEq, and_true]
  exact hexb_toNat _ (by omega)
theorem hexN_low (u : Nat) (h : u ≤ 15) : hexN u = [hexDg u] := by
  unfold hexN
  rw [hexB, dif_pos (by omega)]
  simp only [List.map_cons, List.map_nil, List.cons.injEq, and_true]
  exact hexb_toNat _ (by omega)
theorem hexN_range (u : Nat) : ∀ x ∈ hexN u, 0 ≤ x ∧ x < 256 := by
  intro x hx
  obtain ⟨b, _, rfl⟩ := List.mem_map.1 hx
  have := b.toNat_lt
  omega
theorem hexDg_range (d : Nat) (h : d < 16) : 48 ≤ hexDg d ∧ hexDg d ≤ 102 := by unfold hexDg; split <;> omega
theorem strHex (u : Nat) : (⟨(hexB u).toArray⟩ : ByteArray) = strOfNums (hexN u) := by
  apply bytesOf_inj
  rw [bytesOf_strOfNums _ (hexN_range u), bytesOf_mk]; rfl
theorem tdiv_16 (u : Nat) (hu : u ≤ 9223372036854775807) : wrap64 (Int.tdiv (u : Int) 16) = ((u / 16 : Nat) : Int) := by
  rw [Int.tdiv_eq_ediv_of_nonneg (by omega), wrap_id (by omega) (by omega)]
  omega
theorem tmod_16 (u : Nat) (hu : u ≤ 9223372036854775807) : Int.tmod (u : Int) 16 = ((u % 16 : Nat) : Int) := by
  rw [Int.tmod_eq_emod_of_nonneg (by omega)]; omega

theorem hexDig_eq (d : Nat) (h : d < 16) : spec_l1HexDigit.f ((d : Nat) : Int) = some (hexDg d) := by
  unfold spec_l1HexDigit.f hexDg
  by_cases h9 : d < 10
  · rw [if_pos (by omega), if_pos h9, wrap_id (by omega) (by omega)]; congr 1; omega
  · rw [if_neg (by omega), if_neg h9, wrap_id (x := 97 + (d : Int)) (by omega) (by omega), wrap_id (by omega) (by omega)]; congr 1; omega
theorem spec_Hex_l0 : ∀ (n u : Nat) (x : ByteArray), u < 16 ^ (n + 1) → u ≤ 9223372036854775807 → x.size ≤ 1000 - n → n ≤ 20 → bytesOf x = (hexN u).drop ((hexN u).length - 1) ++ (bytesOf x).drop 1 → Ev (fun k => spec_Hex.l0 k (u : Int) x) (strOfNums (hexN u ++ (bytesOf x).drop 1))
  | 0, u, x, h, hu, hx, hn, hb => by
    have h9 : u ≤ 15 := by omega
    apply ev_succ
    simp only [spec_Hex.l0, if_neg (show ¬ (u : Int) > 15 by omega)]
    rw [hexN_low u h9] at hb ⊢
    simp only [List.length_cons, List.length_nil, List.drop_zero, Nat.zero_add, Nat.sub_self] at hb
    rw [← hb, strOfNums_bytesOf]
    exact Ev.now _
  | n + 1, u, x, h, hu, hx, hn, hb => by
    apply ev_succ
    rcases Nat.lt_or_ge 15 u with h9 | h9
    · have hd := hexDg_range (u / 16 % 16) (Nat.mod_lt _ (by decide))
      have hy : bytesOf (strOfNums [hexDg (u / 16 % 16)]) = [hexDg (u / 16 % 16)] := bytesOf_strOfNums _ (by intro z hz; simp at hz; omega)
      have hs1 : (strOfNums [hexDg (u / 16 % 16)]).size = 1 := by rw [size_len, hy]; rfl
      simp only [spec_Hex.l0, if_pos (show (u : Int) > 15 by omega), tdiv_16 u hu, tmod_16 (u / 16) (by omega), hexDig_eq _ (Nat.mod_lt _ (by decide : 0 < 16)), Option.bind_some, hs1, if_pos (show 1 + x.size ≤ 9223372036854775807 by omega)]
      have e : bytesOf (strOfNums [hexDg (u / 16 % 16)] ++ x) = hexDg (u / 16 % 16) :: bytesOf x := by rw [bytesOf_append, hy]; rfl
      have ih := spec_Hex_l0 n (u / 16) (strOfNums [hexDg (u / 16 % 16)] ++ x) (by rw [Nat.pow_succ] at h; omega) (by omega) (by rw [ByteArray.size_append, hs1]; omega) (by omega) (by
        rw [e]
        simp only [List.drop_succ_cons, List.drop_zero]
        rcases Nat.lt_or_ge 15 (u / 16) with h10 | h10
        · rw [hexN_step (u / 16) h10]
          simp
        · rw [hexN_low (u / 16) h10, Nat.mod_eq_of_lt (by omega)]
          simp)
      rw [e] at ih
      simp only [List.drop_succ_cons, List.drop_zero] at ih
      rw [hexN_step u h9] at hb ⊢
      simp only [List.length_append, List.length_cons, List.length_nil, Nat.zero_add, Nat.add_sub_cancel, List.drop_left] at hb
      rw [List.append_assoc, ← hb]
      exact ih
    · simp only [spec_Hex.l0, if_neg (show ¬ (u : Int) > 15 by omega)]
      rw [hexN_low u h9] at hb ⊢
      simp only [List.length_cons, List.length_nil, List.drop_zero, Nat.zero_add, Nat.sub_self] at hb
      rw [← hb, strOfNums_bytesOf]
      exact Ev.now _
theorem spec_Hex_j0 (u : Nat) (hu : u ≤ 9223372036854775807) : Ev (fun k => spec_Hex.j0 k (u : Int)) (strOfNums (hexN u)) := by
  apply ev_succ
  simp only [spec_Hex.j0, tmod_16 u hu, hexDig_eq _ (Nat.mod_lt _ (by decide : 0 < 16)), Option.bind_some]
  have hd := hexDg_range (u % 16) (Nat.mod_lt _ (by decide))
  have hy : bytesOf (strOfNums [hexDg (u % 16)]) = [hexDg (u % 16)] := bytesOf_strOfNums _ (by intro z hz; simp at hz; omega)
  have hs1 : (strOfNums [hexDg (u % 16)]).size = 1 := by rw [size_len, hy]; rfl
  have := spec_Hex_l0 18 u (strOfNums [hexDg (u % 16)]) (by omega) hu (by omega) (by omega) (by
    rw [hy]
    rcases Nat.lt_or_ge 15 u with h9 | h9
    · rw [hexN_step u h9]; simp
    · rw [hexN_low u h9, Nat.mod_eq_of_lt (by omega)]; simp)
  rw [hy] at this
  simpa using this
theorem spec_Hex_ev (n : Int) (hn : n ≤ 9223372036854775807) : Ev (fun k => spec_Hex.f k n) (strOfNums (hexN n.toNat)) := by
  unfold spec_Hex.f
  refine ev_ite (fun h => ?_) (fun h => ?_)
  · rw [show n.toNat = 0 from by omega]
    exact spec_Hex_j0 0 (by omega)
  · have := spec_Hex_j0 n.toNat (by omega)
    rwa [Int.toNat_of_nonneg (by omega)] at this
theorem impl_Hex_eq (n : Int) (hn : n ≤ 9223372036854775807) : impl_Hex.f n = some (strOfNums (hexN n.toNat)) := by
  have e : mx n 0 = ((n.toNat : Nat) : Int) := by unfold mx; split <;> omega
  unfold impl_Hex.f
  rw [e]
  unfold strconv_FormatInt.f
  rw [if_pos ⟨by omega, by omega, rfl⟩, Option.bind_some, Int.toNat_natCast, strHex]

theorem FnExactHex : laws_FnExactHex.Pure := by
  intro a h
  have hn : a ≤ 9223372036854775807 := by
    simp [Lit.wf, IntKind.min, IntKind.max, IntKind.signed, IntKind.bits] at h
    omega
  apply Ev.rounds
  unfold laws_FnExactHex.f
  exact exact_str (spec_Hex_ev a hn) (Ev.congr (fun _ => impl_Hex_eq a hn) (Ev.now _)) rfl

end Go.Proofs.YtgfpiijpgpkoiaaDoor.Pure
