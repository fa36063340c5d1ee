/- The program's PutChunks answers as the reference's does, for all bodies and sizes; no condition. -/
import Derived.Test.YtgfpiijpgpkoiaaDoorGFnExactPutChunksx3
import Derived.Test.YtgfpiijpgpkoiaaDoorBase
import Derived.Lib.Bytealg
namespace Go.Proofs.YtgfpiijpgpkoiaaDoor.Pure
open Go.RowKit Go.Proofs.YtgfpiijpgpkoiaaDoor.GFnExactPutChunks Go.Proofs.YtgfpiijpgpkoiaaDoor.Base Go.Proofs.YtgfpiijpgpkoiaaDoorW.PrintWords Go.Proofs.YtgfpiijpgpkoiaaDoorW.PrintLast
set_option linter.unusedVariables false
set_option linter.unusedSimpArgs false

/-- a digit to the base 16, and a number's digits -/
def hexN (u : Nat) : List Int := (hexB u).map fun b => (b.toNat : Int)
def hexDg (d : Nat) : Int := if d < 10 then 48 + (d : Int) else 87 + (d : Int)
theorem hexb_toNat (d : Nat) (h : d < 16) : ((hexb d).toNat : Int) = hexDg d := by
  unfold hexb hexDg
  split
  · rw [show (UInt8.ofNat (48 + d)).toNat = 48 + d from by simp; omega]; omega
  · rw [show (UInt8.ofNat (87 + d)).toNat = 87 + d from by simp; omega]; omega
theorem hexN_step (u : Nat) (h : 15 < u) : hexN u = hexN (u / 16) ++ [hexDg (u % 16)] := by
  unfold hexN
  rw [hexB, dif_neg (by omega), List.map_append]
  congr 1
  simp only [List.map_cons, List.map_nil, List.cons.injEq, and_true]
  exact hexb_toNat _ (by omega)
theorem hexN_low (u : Nat) (h : u ≤ 15) : hexN u = [hexDg u] := by
  unfold hexN
  rw [hexB, dif_pos (by omega)]
  simp only [List.map_cons, List.map_nil, List.cons.injEq, and_true]
  exact hexb_toNat _ (by omega)
theorem hexN_range (u : Nat) : ∀ x ∈ hexN u, 0 ≤ x ∧ x < 256 := by
  intro x hx
  obtain ⟨b, _, rfl⟩ := List.mem_map.1 hx
  have := b.toNat_lt
  omega
theorem hexDg_range (d : Nat) (h : d < 16) : 48 ≤ hexDg d ∧ hexDg d ≤ 102 := by unfold hexDg; split <;> omega
theorem strHex (u : Nat) : (⟨(hexB u).toArray⟩ : ByteArray) = strOfNums (hexN u) := by
  apply bytesOf_inj
  rw [bytesOf_strOfNums _ (hexN_range u), bytesOf_mk]; rfl
theorem tdiv_16 (u : Nat) (hu : u ≤ 9223372036854775807) : wrap64 (Int.tdiv (u : Int) 16) = ((u / 16 : Nat) : Int) := by
  rw [Int.tdiv_eq_ediv_of_nonneg (by omega), wrap_id (by omega) (by omega)]
  omega
theorem tmod_16 (u : Nat) (hu : u ≤ 9223372036854775807) : Int.tmod (u : Int) 16 = ((u % 16 : Nat) : Int) := by
  rw [Int.tmod_eq_emod_of_nonneg (by omega)]; omega

theorem hexN_len : ∀ (k u : Nat), u < 16 ^ (k + 1) → (hexN u).length ≤ k + 1
  | 0, u, h => by rw [hexN_low u (by simpa using Nat.le_of_lt_succ h)]; simp
  | k + 1, u, h => by
    rcases Nat.lt_or_ge 15 u with h9 | h9
    · rw [hexN_step u h9, List.length_append]
      have := hexN_len k (u / 16) (by rw [Nat.pow_succ] at h; omega)
      simp; omega
    · rw [hexN_low u h9]; simp

theorem hexDig_eq (d : Nat) (h : d < 16) : spec_l1HexDigit.f ((d : Nat) : Int) = some (hexDg d) := by
  unfold spec_l1HexDigit.f hexDg
  by_cases h9 : d < 10
  · rw [if_pos (by omega), if_pos h9, wrap_id (by omega) (by omega)]; congr 1; omega
  · rw [if_neg (by omega), if_neg h9, wrap_id (x := 97 + (d : Int)) (by omega) (by omega), wrap_id (by omega) (by omega)]; congr 1; omega
theorem spec_Hex_l0 : ∀ (n u : Nat) (x : ByteArray), u < 16 ^ (n + 1) → u ≤ 9223372036854775807 → x.size ≤ 1000 - n → n ≤ 20 → bytesOf x = (hexN u).drop ((hexN u).length - 1) ++ (bytesOf x).drop 1 → Ev (fun k => spec_Hex.l0 k (u : Int) x) (strOfNums (hexN u ++ (bytesOf x).drop 1))
  | 0, u, x, h, hu, hx, hn, hb => by
    have h9 : u ≤ 15 := by omega
    apply ev_succ
    simp only [spec_Hex.l0, if_neg (show ¬ (u : Int) > 15 by omega)]
    rw [hexN_low u h9] at hb ⊢
    simp only [List.length_cons, List.length_nil, List.drop_zero, Nat.zero_add, Nat.sub_self] at hb
    rw [← hb, strOfNums_bytesOf]
    exact Ev.now _
  | n + 1, u, x, h, hu, hx, hn, hb => by
    apply ev_succ
    rcases Nat.lt_or_ge 15 u with h9 | h9
    · have hd := hexDg_range (u / 16 % 16) (Nat.mod_lt _ (by decide))
      have hy : bytesOf (strOfNums [hexDg (u / 16 % 16)]) = [hexDg (u / 16 % 16)] := bytesOf_strOfNums _ (by intro z hz; simp at hz; omega)
      have hs1 : (strOfNums [hexDg (u / 16 % 16)]).size = 1 := by rw [size_len, hy]; rfl
      simp only [spec_Hex.l0, if_pos (show (u : Int) > 15 by omega), tdiv_16 u hu, tmod_16 (u / 16) (by omega), hexDig_eq _ (Nat.mod_lt _ (by decide : 0 < 16)), Option.bind_some, hs1, if_pos (show 1 + x.size ≤ 9223372036854775807 by omega)]
      have e : bytesOf (strOfNums [hexDg (u / 16 % 16)] ++ x) = hexDg (u / 16 % 16) :: bytesOf x := by rw [bytesOf_append, hy]; rfl
      have ih := spec_Hex_l0 n (u / 16) (strOfNums [hexDg (u / 16 % 16)] ++ x) (by rw [Nat.pow_succ] at h; omega) (by omega) (by rw [ByteArray.size_append, hs1]; omega) (by omega) (by
        rw [e]
        simp only [List.drop_succ_cons, List.drop_zero]
        rcases Nat.lt_or_ge 15 (u / 16) with h10 | h10
        · rw [hexN_step (u / 16) h10]
          simp
        · rw [hexN_low (u / 16) h10, Nat.mod_eq_of_lt (by omega)]
          simp)
      rw [e] at ih
      simp only [List.drop_succ_cons, List.drop_zero] at ih
      rw [hexN_step u h9] at hb ⊢
      simp only [List.length_append, List.length_cons, List.length_nil, Nat.zero_add, Nat.add_sub_cancel, List.drop_left] at hb
      rw [List.append_assoc, ← hb]
      exact ih
    · simp only [spec_Hex.l0, if_neg (show ¬ (u : Int) > 15 by omega)]
      rw [hexN_low u h9] at hb ⊢
      simp only [List.length_cons, List.length_nil, List.drop_zero, Nat.zero_add, Nat.sub_self] at hb
      rw [← hb, strOfNums_bytesOf]
      exact Ev.now _
theorem spec_Hex_j0 (u : Nat) (hu : u ≤ 9223372036854775807) : Ev (fun k => spec_Hex.j0 k (u : Int)) (strOfNums (hexN u)) := by
  apply ev_succ
  simp only [spec_Hex.j0, tmod_16 u hu, hexDig_eq _ (Nat.mod_lt _ (by decide : 0 < 16)), Option.bind_some]
  have hd := hexDg_range (u % 16) (Nat.mod_lt _ (by decide))
  have hy : bytesOf (strOfNums [hexDg (u % 16)]) = [hexDg (u % 16)] := bytesOf_strOfNums _ (by intro z hz; simp at hz; omega)
  have hs1 : (strOfNums [hexDg (u % 16)]).size = 1 := by rw [size_len, hy]; rfl
  have := spec_Hex_l0 18 u (strOfNums [hexDg (u % 16)]) (by omega) hu (by omega) (by omega) (by
    rw [hy]
    rcases Nat.lt_or_ge 15 u with h9 | h9
    · rw [hexN_step u h9]; simp
    · rw [hexN_low u h9, Nat.mod_eq_of_lt (by omega)]; simp)
  rw [hy] at this
  simpa using this
theorem spec_Hex_ev (n : Int) (hn : n ≤ 9223372036854775807) : Ev (fun k => spec_Hex.f k n) (strOfNums (hexN n.toNat)) := by
  unfold spec_Hex.f
  refine ev_ite (fun h => ?_) (fun h => ?_)
  · rw [show n.toNat = 0 from by omega]
    exact spec_Hex_j0 0 (by omega)
  · have := spec_Hex_j0 n.toNat (by omega)
    rwa [Int.toNat_of_nonneg (by omega)] at this
theorem impl_Hex_eq (n : Int) (hn : n ≤ 9223372036854775807) : impl_Hex.f n = some (strOfNums (hexN n.toNat)) := by
  have e : mx n 0 = ((n.toNat : Nat) : Int) := by unfold mx; split <;> omega
  unfold impl_Hex.f
  rw [e]
  unfold strconv_FormatInt.f
  rw [if_pos ⟨by omega, by omega, rfl⟩, Option.bind_some, Int.toNat_natCast, strHex]

theorem lit_iff (s : ByteArray) (l : List UInt8) : s.toList = l ↔ bytesOf s = l.map fun b => (b.toNat : Int) := by
  rw [Lib.toList_data]
  unfold bytesOf
  constructor
  · intro h; rw [h]
  · intro h; exact List.map_inj_right (fun x y hxy => UInt8.toNat_inj.mp (by omega)) |>.mp h
theorem indexByte_mem : ∀ (l : List UInt8) (c : UInt8), 0 ≤ Lib.indexByte l c ↔ c ∈ l
  | [], c => by simp [Lib.indexByte]
  | b :: l, c => by
    have ih := indexByte_mem l c
    have hg := Lib.indexByte_ge l c
    simp only [Lib.indexByte]
    by_cases h : b = c
    · subst h; simp
    · have h' : (b == c) = false := by simpa using h
      have h2 : ¬ c = b := fun e => h e.symm
      rw [h']
      simp only [Bool.false_eq_true, if_false, List.mem_cons, h2, false_or, ← ih]
      by_cases q : Lib.indexByte l c = -1
      · simp [q]
      · have : (Lib.indexByte l c == -1) = false := by simpa using q
        rw [this]; simp only [Bool.false_eq_true, if_false]; omega
theorem mem_bytes (s : ByteArray) (c : UInt8) : c ∈ s.data.toList ↔ (c.toNat : Int) ∈ bytesOf s := by
  unfold bytesOf
  rw [List.mem_map]
  constructor
  · intro h; exact ⟨c, h, rfl⟩
  · rintro ⟨d, hd, he⟩
    have : d = c := UInt8.toNat_inj.mp (by omega)
    rw [← this]; exact hd

/-- a piece of a body as it is written, and all of them -/
def pieceL (b : List Int) : List Int := if b = [] then [] else hexN b.length ++ [13, 10] ++ b ++ [13, 10]
def chunkL : List Int → List Int → List Int
  | b, [] => pieceL b ++ [48, 13, 10, 13, 10]
  | b, n :: r => if n < 1 then chunkL b r else pieceL (b.take n.toNat) ++ chunkL (b.drop n.toNat) r
theorem rd_drop' {l : List Int} {p : Nat} {a : Int} {t : List Int} (h : l.drop p = a :: t) : rd l (p : Int) = a ∧ p < l.length ∧ l.drop (p + 1) = t := by
  have hp : p < l.length := by
    rcases Nat.lt_or_ge p l.length with h' | h'
    · exact h'
    · rw [List.drop_eq_nil_of_le h'] at h; cases h
  rw [List.drop_eq_getElem_cons hp] at h
  obtain ⟨h1, h2⟩ := List.cons.inj h
  refine ⟨?_, hp, h2⟩
  rw [rd, Int.toNat_natCast, List.getD_eq_getElem?_getD, List.getElem?_eq_getElem hp, Option.getD_some, h1]
theorem crlf_bytes : bytesOf (⟨#[13, 10]⟩ : ByteArray) = [13, 10] := rfl
theorem zero_bytes : bytesOf (⟨#[48]⟩ : ByteArray) = [48] := rfl
theorem pieceL_len (b : List Int) (hb : b.length ≤ 1048576) : (pieceL b).length ≤ b.length + 20 := by
  unfold pieceL
  split
  · simp
  · have := hexN_len 5 b.length (by omega)
    simp only [List.length_append, List.length_cons, List.length_nil]
    omega
theorem empty_iff (s : ByteArray) : s.toList = ([] : List UInt8) ↔ bytesOf s = [] := lit_iff s []
theorem bytesOf_take (s : ByteArray) (j : Nat) : bytesOf (s.extract 0 j) = (bytesOf s).take j := by rw [bytesOf_extract, List.drop_zero]
theorem bytesOf_dropS (s : ByteArray) (j : Nat) : bytesOf (s.extract j s.size) = (bytesOf s).drop j := by
  rw [bytesOf_extract, List.take_of_length_le (by rw [bytesOf_length]; exact Nat.le_refl _)]
theorem strHex_bytes (u : Nat) : bytesOf (strOfNums (hexN u)) = hexN u := bytesOf_strOfNums _ (hexN_range u)
theorem strHex_size (u : Nat) : (strOfNums (hexN u)).size = (hexN u).length := by rw [size_len, strHex_bytes]
theorem spec_l4Piece_ev (b : ByteArray) (hb : b.size ≤ 1048576) : ∃ t, Ev (fun k => spec_l4Piece.f k b) t ∧ bytesOf t = pieceL (bytesOf b) := by
  unfold spec_l4Piece.f
  by_cases q : b.toList = ([] : List UInt8)
  · refine ⟨⟨#[]⟩, ?_, ?_⟩
    · simp only [if_pos q]; exact Ev.now _
    · rw [(empty_iff b).1 q]; rfl
  · have hl := bytesOf_length b
    have h6 := hexN_len 5 b.size (by omega)
    have hs := strHex_size b.size
    have c2 : (⟨#[13, 10]⟩ : ByteArray).size = 2 := rfl
    refine ⟨((strOfNums (hexN b.size) ++ (⟨#[13, 10]⟩ : ByteArray)) ++ b) ++ (⟨#[13, 10]⟩ : ByteArray), ?_, ?_⟩
    · simp only [if_neg q]
      have h := spec_Hex_ev (b.size : Int) (by omega)
      rw [Int.toNat_natCast] at h
      refine Ev.bind h ?_
      simp only [ByteArray.size_append, c2]
      rw [if_pos (by omega), if_pos (by omega), if_pos (by omega)]
      exact Ev.now _
    · rw [bytesOf_append, bytesOf_append, bytesOf_append, strHex_bytes, crlf_bytes]
      unfold pieceL
      rw [if_neg (fun e => q ((empty_iff b).2 e)), hl]
theorem spec_l4Text_l0 (x1 : List Int) (h1 : x1.length ≤ 1048576) : ∀ (n i : Nat) (b s : ByteArray), x1.length - i = n → i ≤ x1.length → s.size + b.size ≤ 20 * i + 1048576 → b.size ≤ 1048576 →
    ∃ t, Ev (fun k => spec_l4Text.l0 k b x1 s (i : Int)) t ∧ bytesOf t = bytesOf s ++ chunkL (bytesOf b) (x1.drop i) ∧ t.size ≤ 100000000
  | 0, i, b, s, hn, hi, hs, hb => by
    obtain ⟨p, hp, hp1⟩ := spec_l4Piece_ev b hb
    have hl := bytesOf_length b
    have hp2 := pieceL_len (bytesOf b) (by omega)
    have hp3 : p.size ≤ b.size + 20 := by rw [size_len, hp1]; omega
    have c1 : (⟨#[48]⟩ : ByteArray).size = 1 := rfl
    have c2 : (⟨#[13, 10]⟩ : ByteArray).size = 2 := rfl
    refine ⟨(((s ++ p) ++ (⟨#[48]⟩ : ByteArray)) ++ (⟨#[13, 10]⟩ : ByteArray)) ++ (⟨#[13, 10]⟩ : ByteArray), ?_, ?_, ?_⟩
    · apply ev_succ
      simp only [spec_l4Text.l0, if_neg (show ¬ (i : Int) < x1.length by omega)]
      refine Ev.bind hp ?_
      simp only [ByteArray.size_append, c1, c2]
      rw [if_pos (by omega), if_pos (by omega), if_pos (by omega), if_pos (by omega)]
      exact Ev.now _
    · rw [List.drop_eq_nil_of_le (by omega)]
      simp only [bytesOf_append, hp1, crlf_bytes, zero_bytes, chunkL, List.append_assoc, List.cons_append, List.nil_append]
    · simp only [ByteArray.size_append, c1, c2]; omega
  | n + 1, i, b, s, hn, hi, hs, hb => by
    have hil : i < x1.length := by omega
    obtain ⟨hr, _, _⟩ := rd_drop' (List.drop_eq_getElem_cons hil)
    have hw : wrap64 ((i : Int) + 1) = ((i + 1 : Nat) : Int) := by rw [wrap_id (by omega) (by omega)]; omega
    have hl := bytesOf_length b
    rw [List.drop_eq_getElem_cons hil]
    generalize x1[i] = m at hr
    by_cases q : m < 1
    · obtain ⟨t, h2, h3⟩ := spec_l4Text_l0 x1 h1 n (i + 1) b s (by omega) (by omega) (by omega) hb
      refine ⟨t, ?_, by simpa only [chunkL, if_pos q] using h3⟩
      apply ev_succ
      simp only [spec_l4Text.l0, if_pos (show (i : Int) < x1.length by omega), if_pos (show (0 : Int) ≤ (i : Int) by omega), hr, if_pos q, hw]
      exact h2
    · simp only [chunkL, if_neg q]
      have key : ∀ j : Nat, (bytesOf b).take j = (bytesOf b).take m.toNat → (bytesOf b).drop j = (bytesOf b).drop m.toNat → ∃ t, Ev (fun k => (spec_l4Piece.f k (b.extract 0 j)).bind fun t112 => (if s.size + t112.size ≤ 9223372036854775807 then (spec_l4Text.l0 k (b.extract j b.size) x1 (s ++ t112) (wrap64 ((i : Int) + 1))) else (none))) t ∧ bytesOf t = bytesOf s ++ (pieceL ((bytesOf b).take m.toNat) ++ chunkL ((bytesOf b).drop m.toNat) (x1.drop (i + 1))) ∧ t.size ≤ 100000000 := by
        intro j e1 e2
        have ht : (b.extract 0 j).size ≤ b.size := by rw [size_len, bytesOf_take, List.length_take]; omega
        have hd : (b.extract j b.size).size + (b.extract 0 j).size = b.size := by
          have e3 := bytesOf_length (b.extract 0 j)
          have e4 := bytesOf_length (b.extract j b.size)
          rw [bytesOf_take, List.length_take] at e3
          rw [bytesOf_dropS, List.length_drop] at e4
          omega
        obtain ⟨p, hp, hp1⟩ := spec_l4Piece_ev (b.extract 0 j) (by omega)
        have hlt := bytesOf_length (b.extract 0 j)
        have hp2 := pieceL_len (bytesOf (b.extract 0 j)) (by omega)
        have hp3 : p.size ≤ (b.extract 0 j).size + 20 := by rw [size_len, hp1]; omega
        obtain ⟨t, h2, h3, h4⟩ := spec_l4Text_l0 x1 h1 n (i + 1) (b.extract j b.size) (s ++ p) (by omega) (by omega) (by rw [ByteArray.size_append]; omega) (by omega)
        refine ⟨t, Ev.bind hp ?_, ?_, h4⟩
        · simp only [if_pos (show s.size + p.size ≤ 9223372036854775807 by omega), hw]; exact h2
        · rw [h3, bytesOf_append, hp1, bytesOf_take, bytesOf_dropS, e1, e2, List.append_assoc]
      by_cases q1 : m > (b.size : Int)
      · obtain ⟨t, h2, h3⟩ := key b.size (by rw [List.take_of_length_le (by omega), List.take_of_length_le (by omega)]) (by rw [List.drop_eq_nil_of_le (by omega), List.drop_eq_nil_of_le (by omega)])
        refine ⟨t, ?_, h3⟩
        apply ev_succ
        simp only [spec_l4Text.l0, if_pos (show (i : Int) < x1.length by omega), if_pos (show (0 : Int) ≤ (i : Int) by omega), hr, if_neg q, if_pos q1, if_pos (show (0 : Int) ≤ (b.size : Int) by omega), Int.le_refl, if_true]
        exact h2
      · obtain ⟨t, h2, h3⟩ := key m.toNat rfl rfl
        refine ⟨t, ?_, h3⟩
        apply ev_succ
        simp only [spec_l4Text.l0, if_pos (show (i : Int) < x1.length by omega), if_pos (show (0 : Int) ≤ (i : Int) by omega), hr, if_neg q, if_neg q1, if_pos (show (0 : Int) ≤ m by omega), if_pos (show m ≤ (b.size : Int) by omega)]
        exact h2
theorem spec_l4Text_ev (b : ByteArray) (x1 : List Int) (hb : b.size ≤ 1048576) (h1 : x1.length ≤ 1048576) : ∃ t, Ev (fun k => spec_l4Text.f k b x1) t ∧ bytesOf t = chunkL (bytesOf b) x1 ∧ t.size ≤ 100000000 := by
  have := spec_l4Text_l0 x1 h1 x1.length 0 b ⟨#[]⟩ rfl (by omega) (by have c0 : (⟨#[]⟩ : ByteArray).size = 0 := rfl; omega) hb
  exact this

/-- a slice of numbers, as a law copies, compares and marks it -/
theorem toIntS_ev (l : List Int) (hl : l.length ≤ 35184372088832) : Ev (fun k => laws_toIntS.f k l) l := by
  unfold laws_toIntS.f
  simp only [if_pos (show (0 : Int) ≤ (l.length : Int) by omega), Int.toNat_natCast, if_pos hl]
  have := fill_loop l (fun x => x) (0 : Int) (by omega) (fun i x k => laws_toIntS.l0 k l x (i : Int)) ?_ ?_
  · simpa using this
  · intro i x hi
    apply ev_succ; simp only [laws_toIntS.l0, if_neg (show ¬ (i : Int) < l.length by omega)]; exact Ev.now _
  · intro i x c r hi hx hb hw1 ih
    have hbb : rd l (i : Int) = c := hb _
    apply ev_succ
    simp only [laws_toIntS.l0, if_pos (show (i : Int) < l.length by omega), if_pos (show (0 : Int) ≤ i by omega), if_pos (show (i : Int) < x.length by omega), hbb, hw1]
    exact ih
theorem eqIntS_ev (a b : List Int) (ha : a.length ≤ 9223372036854775806) : Ev (fun k => laws_eqIntS.f k a b) (eqb a b) := by
  unfold laws_eqIntS.f
  refine ev_ite (fun q => ?_) (fun q => ?_)
  · have q' : a.length = b.length := by omega
    refine eq_loop a b (· = ·) q' ha (fun i k => laws_eqIntS.l0 k a b (i : Int)) _ ((eqb_iff a b).trans (list_eq_iff a b q')) ?_ ?_
    · intro i hi
      apply ev_succ; simp only [laws_eqIntS.l0, if_neg (show ¬ (i : Int) < a.length by omega)]; exact Ev.now _
    · intro i x y v hi hx hy hw1 ih
      have hxx : rd a (i : Int) = x := hx _
      have hyy : rd b (i : Int) = y := hy _
      refine ⟨fun hR => ?_, fun hR => ?_⟩
      · apply ev_succ
        simp only [laws_eqIntS.l0, if_pos (show (i : Int) < a.length by omega), if_pos (show (0 : Int) ≤ i by omega), if_pos (show (i : Int) < b.length by omega), hxx, hyy, hw1, if_pos hR]; exact ih
      · apply ev_succ
        simp only [laws_eqIntS.l0, if_pos (show (i : Int) < a.length by omega), if_pos (show (0 : Int) ≤ i by omega), if_pos (show (i : Int) < b.length by omega), hxx, hyy, hw1, if_neg hR]; exact Ev.now _
  · rw [eqb_ne (fun h => q (by rw [h]))]; exact Ev.now _
theorem markIntS_l0 : ∀ (n : Nat) (x : List Int) (a : Int) (i : Nat), x.length - i = n → i ≤ x.length → x.length ≤ 8796093022208 → 0 ≤ a → a + n ≤ 1125899906842624 → ∃ y, Ev (fun k => laws_markIntS.l0 k x a (i : Int)) (a + n, y)
  | 0, x, a, i, hn, hi, hl, h0, h1 => by
    refine ⟨x, ?_⟩
    apply ev_succ
    simp only [laws_markIntS.l0, if_neg (show ¬ (i : Int) < x.length by omega)]
    rw [show a + ((0 : Nat) : Int) = a by omega]; exact Ev.now _
  | n + 1, x, a, i, hn, hi, hl, h0, h1 => by
    obtain ⟨y, h2⟩ := markIntS_l0 n (x.set i a) (a + 1) (i + 1) (by simp; omega) (by simp; omega) (by simp; omega) (by omega) (by omega)
    refine ⟨y, ?_⟩
    apply ev_succ
    simp only [laws_markIntS.l0, if_pos (show (i : Int) < x.length by omega), if_pos (show (0 : Int) ≤ i by omega), Int.toNat_natCast, wrap_id (x := a + 1) (by omega) (by omega), show wrap64 ((i : Int) + 1) = ((i + 1 : Nat) : Int) from by rw [wrap_id (by omega) (by omega)]; omega]
    rw [show a + ((n + 1 : Nat) : Int) = a + 1 + n by omega]; exact h2
theorem markIntS_ev (x : List Int) (a : Int) (hl : x.length ≤ 8796093022208) (h0 : 0 ≤ a) (h1 : a ≤ 8796093022208) : ∃ y, Ev (fun k => laws_markIntS.f k x a) (a + x.length, y) :=
  markIntS_l0 x.length x a 0 rfl (by omega) hl h0 (by omega)

theorem eqByteS_ev (a b : List Int) (ha : a.length ≤ 9223372036854775806) : Ev (fun k => laws_eqByteS.f k a b) (eqb a b) := by
  unfold laws_eqByteS.f
  refine ev_ite (fun q => ?_) (fun q => ?_)
  · have q' : a.length = b.length := by omega
    refine eq_loop a b (· = ·) q' ha (fun i k => laws_eqByteS.l0 k a b (i : Int)) _ ((eqb_iff a b).trans (list_eq_iff a b q')) ?_ ?_
    · intro i hi
      apply ev_succ; simp only [laws_eqByteS.l0, if_neg (show ¬ (i : Int) < a.length by omega)]; exact Ev.now _
    · intro i x y v hi hx hy hw1 ih
      have hxx : rd a (i : Int) = x := hx _
      have hyy : rd b (i : Int) = y := hy _
      refine ⟨fun hR => ?_, fun hR => ?_⟩
      · apply ev_succ
        simp only [laws_eqByteS.l0, if_pos (show (i : Int) < a.length by omega), if_pos (show (0 : Int) ≤ i by omega), if_pos (show (i : Int) < b.length by omega), hxx, hyy, hw1, if_pos hR]; exact ih
      · apply ev_succ
        simp only [laws_eqByteS.l0, if_pos (show (i : Int) < a.length by omega), if_pos (show (0 : Int) ≤ i by omega), if_pos (show (i : Int) < b.length by omega), hxx, hyy, hw1, if_neg hR]; exact Ev.now _
  · rw [eqb_ne (fun h => q (by rw [h]))]; exact Ev.now _

theorem markByteS_l0 : ∀ (n : Nat) (x : List Int) (a : Int) (i : Nat), x.length - i = n → i ≤ x.length → x.length ≤ 8796093022208 → 0 ≤ a → a + n ≤ 1125899906842624 → ∃ y, Ev (fun k => laws_markByteS.l0 k x a (i : Int)) (a + n, y) ∧ y.length = x.length ∧ (∀ j, j < i → y[j]? = x[j]?) ∧ ∀ j, i ≤ j → j < x.length → y[j]? = some ((a + (j - i : Nat)) % 256)
  | 0, x, a, i, hn, hi, hl, h0, h1 => by
    refine ⟨x, ?_, rfl, fun _ _ => rfl, fun j h2 h3 => by omega⟩
    apply ev_succ
    simp only [laws_markByteS.l0, if_neg (show ¬ (i : Int) < x.length by omega)]
    rw [show a + ((0 : Nat) : Int) = a by omega]; exact Ev.now _
  | n + 1, x, a, i, hn, hi, hl, h0, h1 => by
    obtain ⟨y, h2, h3, h4, h5⟩ := markByteS_l0 n (x.set i (a % 256)) (a + 1) (i + 1) (by simp; omega) (by simp; omega) (by simp; omega) (by omega) (by omega)
    refine ⟨y, ?_, by rw [h3]; simp, ?_, ?_⟩
    · apply ev_succ
      simp only [laws_markByteS.l0, if_pos (show (i : Int) < x.length by omega), if_pos (show (0 : Int) ≤ i by omega), Int.toNat_natCast, wrap_id (x := a + 1) (by omega) (by omega), show wrap64 ((i : Int) + 1) = ((i + 1 : Nat) : Int) from by rw [wrap_id (by omega) (by omega)]; omega]
      rw [show a + ((n + 1 : Nat) : Int) = a + 1 + n by omega]; exact h2
    · intro j hj
      rw [h4 j (by omega), List.getElem?_set, if_neg (by omega)]
    · intro j hj hx
      rcases Nat.lt_or_ge i j with q | q
      · rw [h5 j (by omega) (by simp; omega)]
        congr 2; omega
      · have : j = i := by omega
        subst this
        rw [h4 j (by omega), List.getElem?_set, if_pos rfl, if_pos (by omega)]
        congr 2; omega
def Marked (a : Int) (y : List Int) : Prop := ∀ j, j < y.length → y[j]? = some ((a + (j : Int)) % 256)
theorem markByteS_ev (x : List Int) (a : Int) (hl : x.length ≤ 8796093022208) (h0 : 0 ≤ a) (h1 : a ≤ 8796093022208) : ∃ y, Ev (fun k => laws_markByteS.f k x a) (a + x.length, y) ∧ y.length = x.length ∧ Marked a y := by
  obtain ⟨y, h2, h3, _, h5⟩ := markByteS_l0 x.length x a 0 rfl (by omega) hl h0 (by omega)
  refine ⟨y, h2, h3, fun j hj => ?_⟩
  rw [h5 j (by omega) (by omega)]
  rfl
theorem heldByteS_l0 : ∀ (n : Nat) (y : List Int) (a : Int) (i : Nat), y.length - i = n → i ≤ y.length → y.length ≤ 8796093022208 → 0 ≤ a → a ≤ 8796093022208 → Marked a y → Ev (fun k => laws_heldByteS.l0 k y (a + i) (i : Int)) (a + y.length)
  | 0, y, a, i, hn, hi, hl, h0, h1, hm => by
    apply ev_succ
    simp only [laws_heldByteS.l0, if_neg (show ¬ (i : Int) < y.length by omega)]
    rw [show a + (y.length : Int) = a + i by omega]; exact Ev.now _
  | n + 1, y, a, i, hn, hi, hl, h0, h1, hm => by
    have ih := heldByteS_l0 n y a (i + 1) (by omega) (by omega) hl h0 h1 hm
    have hr : rd y (i : Int) = (a + i) % 256 := by
      unfold rd
      rw [Int.toNat_natCast, List.getD_eq_getElem?_getD, hm i (by omega)]; rfl
    apply ev_succ
    simp only [laws_heldByteS.l0, if_pos (show (i : Int) < y.length by omega), if_pos (show (0 : Int) ≤ i by omega), hr, if_true, show wrap64 ((i : Int) + 1) = ((i + 1 : Nat) : Int) from by rw [wrap_id (by omega) (by omega)]; omega, show wrap64 (a + (i : Int) + 1) = a + ((i + 1 : Nat) : Int) from by rw [wrap_id (by omega) (by omega)]; omega]
    exact ih
theorem heldByteS_ev (y : List Int) (a : Int) (hl : y.length ≤ 8796093022208) (h0 : 0 ≤ a) (h1 : a ≤ 8796093022208) (hm : Marked a y) : Ev (fun k => laws_heldByteS.f k y a) (a + y.length) := by
  have := heldByteS_l0 y.length y a 0 rfl (by omega) hl h0 h1 hm
  simpa [laws_heldByteS.f] using this

def chunkI : List Int → List Int → List Int
  | _, [] => [48, 13, 10, 13, 10]
  | b, n :: r => if n < 1 then chunkI b r else pieceL (b.take n.toNat) ++ chunkI (b.drop n.toNat) r
theorem chunkI_eq : ∀ (l b : List Int) (m : Int), (b.length : Int) ≤ m → chunkI b (l ++ [m]) = chunkL b l
  | [], b, m, h => by
    simp only [List.nil_append, chunkI, chunkL]
    split
    · have : b = [] := List.length_eq_zero_iff.1 (by omega)
      subst this; rfl
    · rw [List.take_of_length_le (by omega)]
  | n :: l, b, m, h => by
    simp only [List.cons_append, chunkI, chunkL]
    split
    · exact chunkI_eq l b m h
    · rw [chunkI_eq l _ m (by rw [List.length_drop]; omega)]
theorem copyInts_eq (l : List Int) (h : l.length ≤ 1048576) : impl_copyInts.f l = some l := by
  unfold impl_copyInts.f
  simp only [List.nil_append, List.length_nil]
  rw [if_pos (by omega)]
theorem impl_PutChunks_l0 (L : List Int) (h1 : L.length ≤ 1048577) : ∀ (n i : Nat) (b s : ByteArray), L.length - i = n → i ≤ L.length → s.size + b.size ≤ 20 * i + 1048576 → b.size ≤ 1048576 →
    ∃ t, Ev (fun k => impl_PutChunks.l0 k b s L (L.length : Int) (i : Int)) t ∧ t = bytesOf s ++ chunkI (bytesOf b) (L.drop i)
  | 0, i, b, s, hn, hi, hs, hb => by
    have c1 : (⟨#[48]⟩ : ByteArray).size = 1 := rfl
    have c2 : (⟨#[13, 10]⟩ : ByteArray).size = 2 := rfl
    refine ⟨_, ?_, rfl⟩
    apply ev_succ
    simp only [impl_PutChunks.l0, if_neg (show ¬ (i : Int) < L.length by omega), ByteArray.size_append, c1, c2]
    rw [if_pos (by omega), if_pos (by omega), if_pos (by omega), if_pos (by omega), List.drop_eq_nil_of_le (by omega)]
    simp only [bytesOf_append, crlf_bytes, zero_bytes, chunkI, List.append_assoc, List.cons_append, List.nil_append]
    exact Ev.now _
  | n + 1, i, b, s, hn, hi, hs, hb => by
    have hil : i < L.length := by omega
    obtain ⟨hr, _, _⟩ := rd_drop' (List.drop_eq_getElem_cons hil)
    have hw : wrap64 ((i : Int) + 1) = ((i + 1 : Nat) : Int) := by rw [wrap_id (by omega) (by omega)]; omega
    have hl := bytesOf_length b
    have c2 : (⟨#[13, 10]⟩ : ByteArray).size = 2 := rfl
    rw [List.drop_eq_getElem_cons hil]
    generalize L[i] = m at hr
    by_cases q : m < 1
    · obtain ⟨t, h2, h3⟩ := impl_PutChunks_l0 L h1 n (i + 1) b s (by omega) (by omega) (by omega) hb
      refine ⟨t, ?_, by simpa only [chunkI, if_pos q] using h3⟩
      apply ev_succ
      simp only [impl_PutChunks.l0, if_pos (show (i : Int) < L.length by omega), if_pos (show (0 : Int) ≤ (i : Int) by omega), hr, if_pos q, hw]
      exact h2
    · simp only [chunkI, if_neg q]
      by_cases q0 : b.toList = ([] : List UInt8)
      · have hb0 := (empty_iff b).1 q0
        obtain ⟨t, h2, h3⟩ := impl_PutChunks_l0 L h1 n (i + 1) b s (by omega) (by omega) (by omega) hb
        refine ⟨t, ?_, ?_⟩
        · apply ev_succ
          simp only [impl_PutChunks.l0, if_pos (show (i : Int) < L.length by omega), if_pos (show (0 : Int) ≤ (i : Int) by omega), hr, if_neg q, if_pos q0, hw]
          exact h2
        · rw [h3, hb0]
          simp [pieceL]
      · have hb0 : bytesOf b ≠ [] := fun e => q0 ((empty_iff b).2 e)
        have hb1 : 0 < b.size := by
          rcases Nat.eq_zero_or_pos b.size with e | e
          · rw [e] at hl; exact absurd (List.length_eq_zero_iff.1 hl) hb0
          · exact e
        obtain ⟨j, hj, hj1, hj2⟩ : ∃ j : Nat, mn m (b.size : Int) = (j : Int) ∧ j = min m.toNat b.size ∧ 1 ≤ j := ⟨min m.toNat b.size, by unfold mn; split <;> omega, rfl, by omega⟩
        have e1 : (bytesOf b).take j = (bytesOf b).take m.toNat := by rw [List.take_eq_take_iff]; omega
        have e2 : (bytesOf b).drop j = (bytesOf b).drop m.toNat := by
          rcases Nat.lt_or_ge m.toNat b.size with h | h
          · rw [show j = m.toNat by omega]
          · rw [List.drop_eq_nil_of_le (by omega), List.drop_eq_nil_of_le (by omega)]
        have ht : (b.extract 0 j).size = j := by rw [size_len, bytesOf_take, List.length_take]; omega
        have hd : (b.extract j b.size).size + j = b.size := by rw [size_len, bytesOf_dropS, List.length_drop]; omega
        have h6 := hexN_len 5 j (by omega)
        have hx := strHex_size j
        have hh : impl_Hex.f ((j : Nat) : Int) = some (strOfNums (hexN j)) := by rw [impl_Hex_eq _ (by omega), Int.toNat_natCast]
        have hp : bytesOf (((strOfNums (hexN j) ++ (⟨#[13, 10]⟩ : ByteArray)) ++ b.extract 0 j) ++ (⟨#[13, 10]⟩ : ByteArray)) = pieceL ((bytesOf b).take m.toNat) := by
          rw [bytesOf_append, bytesOf_append, bytesOf_append, strHex_bytes, crlf_bytes, bytesOf_take, e1]
          unfold pieceL
          rw [if_neg]
          · rw [← e1, List.length_take, show min j (bytesOf b).length = j by omega]
          · intro e
            have := congrArg List.length e
            rw [← e1, List.length_take] at this
            rw [List.length_nil] at this
            omega
        obtain ⟨t, h2, h3⟩ := impl_PutChunks_l0 L h1 n (i + 1) (b.extract j b.size) (s ++ (((strOfNums (hexN j) ++ (⟨#[13, 10]⟩ : ByteArray)) ++ b.extract 0 j) ++ (⟨#[13, 10]⟩ : ByteArray))) (by omega) (by omega) (by simp only [ByteArray.size_append, c2]; omega) (by omega)
        refine ⟨t, ?_, ?_⟩
        · apply ev_succ
          simp only [impl_PutChunks.l0, if_pos (show (i : Int) < L.length by omega), if_pos (show (0 : Int) ≤ (i : Int) by omega), hr, if_neg q, if_neg q0, hj, hh, Option.bind_some, Int.toNat_natCast]
          simp only [ByteArray.size_append, c2, ht, if_pos (show (strOfNums (hexN j)).size + 2 ≤ 9223372036854775807 by omega), if_pos (show (0 : Int) ≤ (j : Int) by omega), if_pos (show (j : Int) ≤ (b.size : Int) by omega), if_pos (show (strOfNums (hexN j)).size + 2 + j ≤ 9223372036854775807 by omega), if_pos (show (strOfNums (hexN j)).size + 2 + j + 2 ≤ 9223372036854775807 by omega), if_pos (show s.size + ((strOfNums (hexN j)).size + 2 + j + 2) ≤ 9223372036854775807 by omega), hw]
          exact h2
        · rw [h3, bytesOf_append, hp, bytesOf_dropS, e2, List.append_assoc]
theorem impl_PutChunks_ev (b : ByteArray) (l : List Int) (hb : b.size ≤ 1048576) (hl : l.length ≤ 1048576) : Ev (fun k => impl_PutChunks.f k b l) (chunkL (bytesOf b) l) := by
  unfold impl_PutChunks.f
  rw [copyInts_eq l hl]
  simp only [Option.bind_some, if_pos (show l.length < 17592186044416 by omega)]
  obtain ⟨t, h2, h3⟩ := impl_PutChunks_l0 (l ++ [(b.size : Int)]) (by simp; omega) _ 0 b ⟨#[]⟩ rfl (by omega) (by have c0 : (⟨#[]⟩ : ByteArray).size = 0 := rfl; omega) hb
  rw [List.drop_zero, chunkI_eq l (bytesOf b) (b.size : Int) (by rw [bytesOf_length]; exact Int.le_refl _)] at h3
  rw [show bytesOf (⟨#[]⟩ : ByteArray) = [] from rfl, List.nil_append] at h3
  subst h3
  exact h2
theorem spec_PutChunks_ev (b : ByteArray) (l : List Int) (hb : b.size ≤ 1048576) (hl : l.length ≤ 1048576) : Ev (fun k => spec_PutChunks.f k b l) (chunkL (bytesOf b) l) ∧ (chunkL (bytesOf b) l).length ≤ 100000000 := by
  obtain ⟨t, h2, h3, h4⟩ := spec_l4Text_ev b l hb hl
  refine ⟨?_, by rw [← h3, bytesOf_length]; exact h4⟩
  unfold spec_PutChunks.f
  refine Ev.bind h2 ?_
  rw [if_pos (by omega), h3]
  exact Ev.now _
theorem FnExactPutChunks : laws_FnExactPutChunks.Pure := by
  intro b l _ _
  apply Ev.rounds
  unfold laws_FnExactPutChunks.f
  refine ev_ite (fun _ => Ev.now _) (fun q1 => ev_ite (fun _ => Ev.now _) (fun q2 => ?_))
  have hb : b.size ≤ 1048576 := by omega
  have hl : l.length ≤ 1048576 := by omega
  have c0 := toIntS_ev l (by omega)
  obtain ⟨es, hv⟩ := spec_PutChunks_ev b l hb hl
  have ei := impl_PutChunks_ev b l hb hl
  generalize chunkL (bytesOf b) l = V at es ei hv
  have ee := eqByteS_ev V V (by omega)
  rw [eqb_self] at ee
  have e2 := eqIntS_ev l l (by omega)
  rw [eqb_self] at e2
  refine Ev.bind c0 (Ev.bind es (Ev.bind c0 (Ev.bind ei (Ev.bind ee (ev_ite (fun _ => ?_) (fun q => absurd rfl q))))))
  refine Ev.bind c0 (Ev.bind e2 (ev_ite (fun _ => ?_) (fun q => absurd rfl q)))
  obtain ⟨y, hy⟩ := markIntS_ev l 1 (by omega) (by omega) (by omega)
  refine Ev.bind hy (ev_ite (fun q => absurd q (by show ¬ (1 + (l.length : Int)) < 0; omega)) (fun _ => ?_))
  refine Ev.bind ee ?_
  apply ev_succ
  simp only [laws_FnExactPutChunks.j0, Bool.not_true, Bool.false_eq_true, if_false]
  obtain ⟨z, hz1, hz2, hz3⟩ := markByteS_ev V 1 (by omega) (by omega) (by omega)
  have hh := heldByteS_ev z 1 (by omega) (by omega) (by omega) hz3
  rw [hz2] at hh
  refine Ev.bind hz1 (Ev.bind hh (ev_ite (fun q => absurd q (by omega)) (fun _ => ev_ite (fun _ => ?_) (fun q => absurd rfl q))))
  refine Ev.bind c0 (Ev.bind ei (Ev.bind ee (ev_ite (fun _ => ?_) (fun q => absurd rfl q))))
  exact Ev.bind hh (ev_ite (fun q => absurd q (by omega)) (fun _ => ev_ite (fun _ => Ev.now _) (fun q => absurd rfl q)))

end Go.Proofs.YtgfpiijpgpkoiaaDoor.Pure
