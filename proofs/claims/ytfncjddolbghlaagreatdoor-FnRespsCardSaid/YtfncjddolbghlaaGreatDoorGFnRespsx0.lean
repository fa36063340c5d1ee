-- by gprint.py (this session's program over the kit's print.py) (a twelfth state) out of the translation. Not trusted: Lean checks it.
import Derived.Test.YtfncjddolbghlaaGreatDoorProg
import Derived.Below
import Derived.Deep.Draws
import Derived.Deep.AppendLies
import Derived.Maps.AppendAt
import Derived.OwnWalk
import Derived.Laws.BytesArg
import Derived.Laws.MakeOwn
import Derived.Laws.OwnMore
import Derived.Deep.OwnRows
import Derived.Tactics
import Derived.Lib.ConvBytes
import Derived.Laws.Slices
import Derived.WalkKit
import Derived.KernelRfl
import Derived.RowKit3
import Derived.Deep.LoopGhost
import Derived.Deep.QuietTactic
import Derived.BigQuiet
import Derived.WideLaws
import Derived.Deep.DeepCutAuto
import Derived.Deep.CutBlock
import Derived.Deep.RegionHeld3
import Derived.Laws.Rows
import Derived.Lib.AppendStr
import Derived.ArgAppend
import Derived.Laws.IdiomCopy
import Derived.OrdersHeld
import Derived.Laws.BitsLemmas
import Derived.RowKit
import Derived.Test.YtfncjddolbghlaaGreatDoorShelf
import Derived.Test.YtfncjddolbghlaaGreatDoorMStep
import Derived.Lib.AppendIntMem
import Derived.Lib.LaidTab
import Derived.Stop.LaidErr
import Derived.Lib.ItoaMem
import Derived.Lib.Walk
import Derived.Lib.Hide
import Derived.Laws.Bits64b
import Derived.BigCall
import Derived.BigGuard
import Derived.RegionTactic
import Derived.Lib.AtoiAllCases
import Derived.Shelf.Strconv.ErrVarAll
import Derived.Test.YtfncjddolbghlaaGreatDoorWWords
import Derived.Test.YtfncjddolbghlaaGreatDoorWLast
import Derived.Test.YtfncjddolbghlaaGreatDoorWTab
import Derived.Test.YtfncjddolbghlaaGreatDoorWFour
import Derived.Test.YtfncjddolbghlaaGreatDoorWQPut
import Derived.Test.YtfncjddolbghlaaGreatDoorWApart
import Derived.Test.YtfncjddolbghlaaGreatDoorWArr
import Derived.Test.YtfncjddolbghlaaGreatDoorWZeros
import Derived.Test.YtfncjddolbghlaaGreatDoorWFoot
import Derived.Test.YtfncjddolbghlaaGreatDoorWKept
import Derived.Test.YtfncjddolbghlaaGreatDoorWShare
import Derived.Test.YtfncjddolbghlaaGreatDoorWN
import Derived.Test.YtfncjddolbghlaaGreatDoorWFootNe
import Derived.Test.YtfncjddolbghlaaGreatDoorWAt
import Derived.Test.YtfncjddolbghlaaGreatDoorWEqStruct
import Derived.Test.YtfncjddolbghlaaGreatDoorWRepsOne
import Derived.Test.YtfncjddolbghlaaGreatDoorWInv
import Derived.Test.YtfncjddolbghlaaGreatDoorWInvWords
import Derived.Test.YtfncjddolbghlaaGreatDoorWGuard
import Derived.Test.YtfncjddolbghlaaGreatDoorWNEv
import Derived.Test.YtfncjddolbghlaaGreatDoorWMore
namespace Go.Proofs.YtfncjddolbghlaaGreatDoor.GFnResps
open Go.RowKit Go.Proofs.YtfncjddolbghlaaGreatDoorW.PrintWords Go.Proofs.YtfncjddolbghlaaGreatDoorW.PrintLast Go.Proofs.YtfncjddolbghlaaGreatDoorW.PrintMore
abbrev Y := true
abbrev Z := false
theorem aK {p : Prop} (h : p) : Aside0 p := ⟨h⟩
theorem sI {α : Type} (l : List α) (i : Nat) (a : α) : l.toArray.setIfInBounds i a = (l.set i a).toArray := List.setIfInBounds_toArray ..
theorem sZ {α : Type} (x a : α) (l : List α) : (x :: l).set 0 a = a :: l := List.set_cons_zero
theorem sS {α : Type} (x a : α) (l : List α) (n : Nat) : (x :: l).set (n + 1) a = x :: l.set n a := List.set_cons_succ
theorem q246_ {p : Prop} (h : p := by (with_reducible repeat (first | apply rA_ | apply rN_ | apply rD_)); exact Kd.R_mono HO474.1 (fun _ hk => trivial)) : p := h
theorem q245_ {p : Prop} (h : p := by (with_reducible repeat (first | refine bN_ ?_ _ | refine bD_ ?_ | refine bA_ ?_ _)); exact BK193.1) : p := h
theorem q244_ {p : Prop} (h : p := by first | (rw [add_block]; exact hn159_0) | (show (Addr.add _ _).block ≠ _; rw [add_block]; exact hn159_0) | exact hn159_0) : p := h
theorem q243_ {p : Prop} (h : p := by first | (rw [add_block]; exact hn159_1) | (show (Addr.add _ _).block ≠ _; rw [add_block]; exact hn159_1) | exact hn159_1) : p := h
theorem q242_ {p : Prop} (h : p := by first | (rw [add_block]; exact hn159_2) | (show (Addr.add _ _).block ≠ _; rw [add_block]; exact hn159_2) | exact hn159_2) : p := h
theorem q241_ {p : Prop} (h : p := by exact (fun _ _ => trivial)) : p := h
theorem q240_ {p : Prop} (h : p := by first | rfl | (simp; done) | (simp only [← hji10] <;> (first | rfl | simp)) | (simp [*]; done) | (simp [empty_ne, *]; done)) : p := h
theorem q239_ {p : Prop} (h : p := by have h_ := c8; simp only [ByteArray.size_append] at h_; exact h_) : p := h
theorem q238_ {p : Prop} (h : p := by first | rfl | (rw [hr_]) | (simp only [hr_]) | (simp [errW_none, errW_some] <;> rfl) | (simp [*, errW_none, errW_some] <;> rfl)) : p := h
theorem q237_ {p : Prop} (h : p := by first | rfl | (simp; done) | (simp only [← hji15] <;> (first | rfl | simp)) | (simp [*]; done) | (simp [empty_ne, *]; done)) : p := h
theorem q236_ {p : Prop} (h : p := by rw [← hq_]; exact (by (with_reducible repeat (first | apply rA_ | apply rN_ | apply rD_)); exact HO237.1)) : p := h
theorem q235_ {p : Prop} (h : p := by exact HC0_1.1) : p := h
theorem q234_ {p : Prop} (h : p := by first | simpa using c3 | (simp at c3 ⊢; omega)) : p := h
theorem q233_ {p : Prop} (h : p := by rw [List.length_drop, List.length_take]; have h_ : ((wrap64 (x3_1 + 4)) : Int) ≤ (l0.length : Int) := of_decide_eq_true q3_; omega) : p := h
theorem q232_ {p : Prop} (h : p := by rw [hg]; exact Nat.ne_of_gt (blk_lt (g := gb158) (o := .cells #[.int .i64 t162, u159001, .string (⟨#[]⟩ : ByteArray)] 25 (0, 0)) q22_)) : p := h
theorem q231_ {p : Prop} (h : p := by rw [hg]; exact Nat.ne_of_lt (blk_lt (g := gb158) (o := .cells #[.int .i64 t162, u159001, .string (⟨#[]⟩ : ByteArray)] 25 (0, 0)) q22_)) : p := h
theorem q230_ {p : Prop} (h : p := by have : (0 : Int) < (a0.size : Int) := of_decide_eq_true q3_; omega) : p := h
theorem q229_ {p : Prop} (h : p := by rw [hg]; exact Nat.ne_of_gt (blk_lt (g := gb152) (o := .cells #[.int .i64 x153000_2, .slice none 0 0, .string x153002_2] 25 (0, 0)) q19_)) : p := h
theorem q228_ {p : Prop} (h : p := by rw [hg]; exact Nat.ne_of_lt (blk_lt (g := gb152) (o := .cells #[.int .i64 x153000_2, .slice none 0 0, .string x153002_2] 25 (0, 0)) q19_)) : p := h
theorem q227_ {p : Prop} (h : p := by have := HK1.1; first | omega | exact Nat.le_refl _) : p := h
theorem q226_ {p : Prop} (h : p := by rw [hg]; exact (below_size q59_)) : p := h
theorem q225_ {p : Prop} (h : p := by rw [hg]; exact (below_size q60_)) : p := h
theorem q224_ {p : Prop} (h : p := by repeat (first | exact (Kd.C_below HR0_1.1 q79_) | (with_reducible refine Kd.C_alloc ?_ _) | (with_reducible refine Kd.C_drewN ?_ _) | (with_reducible refine Kd.C_drew ?_))) : p := h
theorem q223_ {p : Prop} (h : p := by repeat (first | exact (Kd.R_reads' HO481.1).2.2 | (with_reducible refine Kd.C_alloc ?_ _) | (with_reducible refine Kd.C_drewN ?_ _) | (with_reducible refine Kd.C_drew ?_))) : p := h
theorem q222_ {p : Prop} (h : p := by repeat (first | exact (Kd.C_below HR0_1.1 q117_) | (with_reducible refine Kd.C_alloc ?_ _) | (with_reducible refine Kd.C_drewN ?_ _) | (with_reducible refine Kd.C_drew ?_))) : p := h
theorem q221_ {p : Prop} (h : p := by (with_reducible repeat (first | apply rA_ | apply rN_ | apply rD_)); first | exact HO469.1 | exact Kd.R_mono HO469.1 (fun k_ h_ e_ => h_ (e_.trans (ob_len _ _ _ _ _)))) : p := h
theorem q220_ {p : Prop} (h : p := by (with_reducible repeat (first | apply rA_ | apply rN_ | apply rD_)); first | exact HO481.1 | exact Kd.R_mono HO481.1 (fun k_ h_ e_ => h_ (e_.trans (ob_len _ _ _ _ _)))) : p := h
theorem q219_ {p : Prop} (h : p := by (with_reducible repeat (first | apply rA_ | apply rN_ | apply rD_)); first | exact HO489.1 | exact Kd.R_mono HO489.1 (fun k_ h_ e_ => h_ (e_.trans (ob_len _ _ _ _ _)))) : p := h
theorem q218_ {p : Prop} (h : p := by (with_reducible repeat (first | apply rA_ | apply rN_ | apply rD_)); first | exact HO497.1 | exact Kd.R_mono HO497.1 (fun k_ h_ e_ => h_ (e_.trans (ob_len _ _ _ _ _)))) : p := h
theorem q217_ {p : Prop} (h : p := by (with_reducible repeat (first | apply rA_ | apply rN_ | apply rD_)); first | exact HO502.1 | exact Kd.R_mono HO502.1 (fun k_ h_ e_ => h_ (e_.trans (ob_len _ _ _ _ _)))) : p := h
theorem q216_ {p : Prop} (h : p := by repeat (first | exact (Kd.R_reads' HO_472001.1).2.2 | (with_reducible refine Kd.C_alloc ?_ _) | (with_reducible refine Kd.C_drewN ?_ _) | (with_reducible refine Kd.C_drew ?_))) : p := h
theorem q215_ {p : Prop} (h : p := by (with_reducible repeat (first | apply rA_ | apply rN_ | apply rD_)); exact HO530.1) : p := h
theorem q214_ {p : Prop} (h : p := by exact (fun k_ hk => Kd.fresh' (Kd.R_lt q16_) k_ hk)) : p := h
theorem q213_ {p : Prop} (h : p := by have h_ := c6; simp only [ByteArray.size_append] at h_; exact h_) : p := h
theorem q212_ {p : Prop} (h : p := by repeat (first | (with_reducible first | exact HB.1 | apply aB_ | apply pN_ | apply dB_ | refine sB_ ?_ GE424.1 | refine sB_ ?_ GE425.1) | exact HB.1)) : p := h
theorem q211_ {p : Prop} (h : p := by (with_reducible repeat (first | apply rA_ | apply rN_ | apply rD_)); first | exact HO_159001.1 | exact Kd.R_mono HO_159001.1 (fun k_ h_ e_ => h_ (e_.trans (ob_len _ _ _ _ _)))) : p := h
theorem q210_ {p : Prop} (h : p := by (with_reducible repeat (first | apply rA_ | apply rN_ | apply rD_)); first | exact HO_216001.1 | exact Kd.R_mono HO_216001.1 (fun k_ h_ e_ => h_ (e_.trans (ob_len _ _ _ _ _)))) : p := h
theorem q209_ {p : Prop} (h : p := by have := HJ9.1; have := HK2.1; first | omega | exact Nat.le_refl _) : p := h
theorem q208_ {p : Prop} (h : p := by (with_reducible repeat (first | apply rA_ | apply rN_ | apply rD_)); exact HO214.1) : p := h
theorem q207_ {p : Prop} (h : p := by (with_reducible repeat (first | apply rA_ | apply rN_ | apply rD_)); exact HO293.1) : p := h
theorem q206_ {p : Prop} (h : p := by (with_reducible repeat (first | apply rA_ | apply rN_ | apply rD_)); exact HO394.1) : p := h
theorem q205_ {p : Prop} (h : p := by exact (Kd.R_reads' HO_159001.1).2.1) : p := h
theorem q204_ {p : Prop} (h : p := by (with_reducible repeat (first | refine bN_ ?_ _ | refine bD_ ?_ | refine bA_ ?_ _)); exact BK114.1) : p := h
theorem q203_ {p : Prop} (h : p := by (with_reducible repeat (first | refine bN_ ?_ _ | refine bD_ ?_ | refine bA_ ?_ _)); exact BK168.1) : p := h
theorem q202_ {p : Prop} (h : p := by rw [List.length_drop, List.length_take]; have h_ : ((ji96) : Int) ≤ (l0.length : Int) := of_decide_eq_true q3_; omega) : p := h
theorem q201_ {p : Prop} (h : p := by (with_reducible repeat (first | apply rA_ | apply rN_ | apply rD_)); exact Kd.R_mono HO508.1 (fun _ hk => ⟨hk.1.2, hk.2⟩)) : p := h
theorem q200_ {p : Prop} (h : p := by (with_reducible repeat (first | apply rA_ | apply rN_ | apply rD_)); exact HO508.1) : p := h
theorem q199_ {p : Prop} (h : p := by repeat (first | (with_reducible first | exact HB.1 | apply aB_ | apply pN_ | apply dB_ | refine sB_ ?_ GE471.1 | refine sB_ ?_ GE485.1 | refine sB_ ?_ GE493.1 | refine sB_ ?_ GE504.1 | refine sB_ ?_ GE505.1 | refine sB_ ?_ GE541.1) | exact HB.1)) : p := h
theorem q198_ {p : Prop} (h : p := by (with_reducible repeat (first | apply rA_ | apply rN_ | apply rD_)); exact Kd.R_mono HO325.1 (fun _ hk => hk.2)) : p := h
theorem q197_ {p : Prop} (h : p := by (with_reducible repeat (first | apply rA_ | apply rN_ | apply rD_)); exact Kd.R_mono HO331.1 (fun _ hk => hk.2)) : p := h
theorem q196_ {p : Prop} (h : p := by rw [hg]; exact Nat.ne_of_gt (blk_lt (g := gb425) (o := .cells #[.int .i64 0, .slice none 0 0, .string (⟨#[]⟩ : ByteArray)] 25 (0, 0)) q35_)) : p := h
theorem q195_ {p : Prop} (h : p := by rw [hg]; exact Nat.ne_of_lt (blk_lt (g := gb425) (o := .cells #[.int .i64 0, .slice none 0 0, .string (⟨#[]⟩ : ByteArray)] 25 (0, 0)) q35_)) : p := h
theorem q194_ {p : Prop} (h : p := by exact (by (with_reducible repeat (first | apply rA_ | apply rN_ | apply rD_)); exact Kd.R_mono HO378.1 (fun _ hk => hk.2))) : p := h
theorem q193_ {p : Prop} (h : p := by rw [hg]; exact Nat.ne_of_gt (blk_lt (g := gb457) (o := .cells #[.int .i64 a0_0, .slice A0_1 l0_1.length c0_1, .string a0_2] 25 (0, 0)) q83_)) : p := h
theorem q192_ {p : Prop} (h : p := by rw [hg]; exact Nat.ne_of_gt (blk_lt (g := gb462) (o := .cells #[.int .i64 a0_0, .slice A0_1 l0_1.length c0_1, .string a0_2] 25 (0, 0)) q82_)) : p := h
theorem q191_ {p : Prop} (h : p := by rw [hg]; exact Nat.ne_of_gt (blk_lt (g := gb493) (o := .cells #[.int .i64 t486, .slice Ao28 t487.length co28, .string t490] 25 (0, 0)) q25_)) : p := h
theorem q190_ {p : Prop} (h : p := by rw [hg]; exact Nat.ne_of_lt (blk_lt (g := gb457) (o := .cells #[.int .i64 a0_0, .slice A0_1 l0_1.length c0_1, .string a0_2] 25 (0, 0)) q83_)) : p := h
theorem q189_ {p : Prop} (h : p := by rw [hg]; exact Nat.ne_of_lt (blk_lt (g := gb462) (o := .cells #[.int .i64 a0_0, .slice A0_1 l0_1.length c0_1, .string a0_2] 25 (0, 0)) q82_)) : p := h
theorem q188_ {p : Prop} (h : p := by rw [hg]; exact Nat.ne_of_lt (blk_lt (g := gb493) (o := .cells #[.int .i64 t486, .slice Ao28 t487.length co28, .string t490] 25 (0, 0)) q25_)) : p := h
theorem q187_ {p : Prop} (h : p := by repeat (first | exact q58_ | (with_reducible refine Kd.C_alloc ?_ _) | (with_reducible refine Kd.C_drewN ?_ _) | (with_reducible refine Kd.C_drew ?_))) : p := h
theorem q186_ {p : Prop} (h : p := by repeat (first | exact HR0.1 | (with_reducible refine Kd.C_alloc ?_ _) | (with_reducible refine Kd.C_drewN ?_ _) | (with_reducible refine Kd.C_drew ?_))) : p := h
theorem q185_ {p : Prop} (h : p := by first | omega | exact Nat.le_refl _) : p := h
theorem q184_ {p : Prop} (h : p := by first | (with_reducible exact hG) | (refine GOK_below hG ?_; (repeat (first | (with_reducible first | exact HB.1 | apply aB_ | apply pN_ | apply dB_) | exact HB.1)); done) | (refine GOK_drawn hG ?_; (repeat (first | exact Drawn0.refl _ | apply Drawn0.step)); done) | exact hG) : p := h
theorem q183_ {p : Prop} (h : p := by (with_reducible repeat (first | apply rA_ | apply rN_ | apply rD_)); exact Kd.R_mono (rF_ (p := ⟨gb168, 1, none⟩) (rF_ (p := ⟨gb168, 0, none⟩) (Kd.R_types HO_6.1 BK168.1 (by decide)) (fun _ hk => hk.2) (.string t165)) (fun _ hk => hk.2) (.string t166)) (fun _ hk => trivial)) : p := h
theorem q182_ {p : Prop} (h : p := by first | (with_reducible exact hG) | (refine GOK_below hG ?_; (repeat (first | (with_reducible first | exact HB.1 | apply aB_ | apply pN_ | apply dB_ | refine sB_ ?_ GE200.1) | exact HB.1)); done) | (refine GOK_drawn hG ?_; (repeat (first | exact Drawn0.refl _ | apply Drawn0.step)); done) | exact hG) : p := h
theorem q181_ {p : Prop} (h : p := by (with_reducible repeat (first | apply rA_ | apply rN_ | apply rD_)); exact Kd.R_mono (rF_ (p := ⟨gb168, 1, none⟩) (rF_ (p := ⟨gb168, 0, none⟩) (Kd.R_mono HO_159001.1 (fun k_ hk => (⟨hk, hk.2⟩ : _ ∧ k_ ≠ gb168))) (fun _ hk => hk.2) (.string t165)) (fun _ hk => hk.2) (.string t166)) (fun _ hk => hk.1.2)) : p := h
theorem q180_ {p : Prop} (h : p := by repeat (first | exact (Kd.C_below HR0.1 HB.1) | (with_reducible refine Kd.C_alloc ?_ _) | (with_reducible refine Kd.C_drewN ?_ _) | (with_reducible refine Kd.C_drew ?_))) : p := h
theorem q179_ {p : Prop} (h : p := by repeat (first | exact (Kd.R_reads' HO325.1).2.2 | (with_reducible refine Kd.C_alloc ?_ _) | (with_reducible refine Kd.C_drewN ?_ _) | (with_reducible refine Kd.C_drew ?_))) : p := h
theorem q178_ {p : Prop} (h : p := by (with_reducible repeat (first | apply rA_ | apply rN_ | apply rD_)); exact HO524.1) : p := h
theorem q177_ {p : Prop} (h : p := by rw [hg]; exact Nat.ne_of_gt (IsS143.lt (show IsS143 w _ g429 t426 t435 t436 from by repeat (first | (with_reducible first | exact HI429.1 | apply IsS143.alloc | apply IsS143.drewN | apply IsS143.drew | apply IsS143.set_1 | apply IsS143.set_2 | refine IsS143.far ?_ NB429_424.1 _ | refine IsS143.far ?_ NB429_425.1 _) | exact HI429.1)))) : p := h
theorem q176_ {p : Prop} (h : p := by rw [hg]; exact Nat.ne_of_lt (IsS143.lt (show IsS143 w _ g429 t426 t435 t436 from by repeat (first | (with_reducible first | exact HI429.1 | apply IsS143.alloc | apply IsS143.drewN | apply IsS143.drew | apply IsS143.set_1 | apply IsS143.set_2 | refine IsS143.far ?_ NB429_424.1 _ | refine IsS143.far ?_ NB429_425.1 _) | exact HI429.1)))) : p := h
theorem q175_ {p : Prop} (h : p := by (with_reducible repeat (first | refine bN_ ?_ _ | refine bD_ ?_ | refine bA_ ?_ _)); exact BK290.1) : p := h
theorem q174_ {p : Prop} (h : p := by (with_reducible repeat (first | refine bN_ ?_ _ | refine bD_ ?_ | refine bA_ ?_ _)); exact BK344.1) : p := h
theorem q173_ {p : Prop} (h : p := by first | rfl | (simp [errW_none, errW_some] <;> rfl) | (simp only [← hji6, ← hji96]; first | rfl | (simp [errW_none, errW_some] <;> rfl)) | (simp [*, errW_none, errW_some] <;> rfl)) : p := h
theorem q172_ {p : Prop} (h : p := by (with_reducible repeat (first | apply rA_ | apply rN_ | apply rD_)); exact (Kd.R_mono (rF_ (p := ⟨gb471, 2, none⟩) (rF_ (p := ⟨gb471, 1, none⟩) (rF_ (p := ⟨gb471, 0, none⟩) (Kd.R_types HO469.1 BK471.1 (by decide)) (fun _ hk => hk.2) (.int .i64 t466)) (fun _ hk => hk.2) (.slice Ao14 t467.length co14)) (fun _ hk => hk.2) (.string t470)) (fun _ h_ => h_.1))) : p := h
theorem q171_ {p : Prop} (h : p := by (with_reducible repeat (first | apply rA_ | apply rN_ | apply rD_)); exact (Kd.R_mono (rF_ (p := ⟨gb485, 2, none⟩) (rF_ (p := ⟨gb485, 1, none⟩) (rF_ (p := ⟨gb485, 0, none⟩) (Kd.R_types HO469.1 BK485.1 (by decide)) (fun _ hk => hk.2) (.int .i64 t478)) (fun _ hk => hk.2) (.slice Ao22 t479.length co22)) (fun _ hk => hk.2) (.string t482)) (fun _ h_ => h_.1))) : p := h
theorem q170_ {p : Prop} (h : p := by (with_reducible repeat (first | apply rA_ | apply rN_ | apply rD_)); exact (Kd.R_mono (rF_ (p := ⟨gb485, 2, none⟩) (rF_ (p := ⟨gb485, 1, none⟩) (rF_ (p := ⟨gb485, 0, none⟩) (Kd.R_types HO477.1 BK485.1 (by decide)) (fun _ hk => hk.2) (.int .i64 t478)) (fun _ hk => hk.2) (.slice Ao22 t479.length co22)) (fun _ hk => hk.2) (.string t482)) (fun _ h_ => h_.1))) : p := h
theorem q169_ {p : Prop} (h : p := by (with_reducible repeat (first | apply rA_ | apply rN_ | apply rD_)); exact (Kd.R_mono (rF_ (p := ⟨gb485, 2, none⟩) (rF_ (p := ⟨gb485, 1, none⟩) (rF_ (p := ⟨gb485, 0, none⟩) (Kd.R_types HO481.1 BK485.1 (by decide)) (fun _ hk => hk.2) (.int .i64 t478)) (fun _ hk => hk.2) (.slice Ao22 t479.length co22)) (fun _ hk => hk.2) (.string t482)) (fun _ h_ => h_.1))) : p := h
theorem q168_ {p : Prop} (h : p := by (with_reducible repeat (first | apply rA_ | apply rN_ | apply rD_)); exact (Kd.R_mono (rF_ (p := ⟨gb541, 2, none⟩) (rF_ (p := ⟨gb541, 1, none⟩) (rF_ (p := ⟨gb541, 0, none⟩) (Kd.R_types HO537.1 BK541.1 (by decide)) (fun _ hk => hk.2) (.int .i64 t534)) (fun _ hk => hk.2) (.slice Ao130 t535.length co130)) (fun _ hk => hk.2) (.string t538)) (fun _ h_ => h_.1))) : p := h
theorem q167_ {p : Prop} (h : p := by (with_reducible repeat (first | apply rA_ | apply rN_ | apply rD_)); exact (Kd.R_mono (rF_ (p := ⟨gb541, 2, none⟩) (rF_ (p := ⟨gb541, 1, none⟩) (rF_ (p := ⟨gb541, 0, none⟩) (Kd.R_types HO_472001.1 BK541.1 (by decide)) (fun _ hk => hk.2) (.int .i64 t534)) (fun _ hk => hk.2) (.slice Ao130 t535.length co130)) (fun _ hk => hk.2) (.string t538)) (fun _ h_ => h_.1))) : p := h
theorem q166_ {p : Prop} (h : p := by (with_reducible repeat (first | apply rA_ | apply rN_ | apply rD_)); first | exact HO_3.1 | exact Kd.R_mono HO_3.1 (fun k_ h_ e_ => h_ (e_.trans (ob_len _ _ _ _ _)))) : p := h
theorem q165_ {p : Prop} (h : p := by repeat (first | (with_reducible exact HR223.1) | (with_reducible refine Kd.C_alloc ?_ _) | (with_reducible refine Kd.C_drewN ?_ _) | (with_reducible refine Kd.C_drew ?_) | exact HR223.1)) : p := h
theorem q164_ {p : Prop} (h : p := by repeat (first | (with_reducible first | exact HB.1 | apply aB_ | apply pN_ | apply dB_ | refine sB_ ?_ GE457.1 | refine sB_ ?_ GE458.1) | exact HB.1)) : p := h
theorem q163_ {p : Prop} (h : p := by repeat (first | (with_reducible first | exact HB.1 | apply aB_ | apply pN_ | apply dB_ | refine sB_ ?_ GE462.1 | refine sB_ ?_ GE463.1) | exact HB.1)) : p := h
theorem q162_ {p : Prop} (h : p := by (with_reducible repeat (first | refine bN_ ?_ _ | refine bD_ ?_ | refine bA_ ?_ _)); refine blk_far ?_ NB152_168.1 _; (with_reducible repeat (first | refine bN_ ?_ _ | refine bD_ ?_ | refine bA_ ?_ _)); refine blk_far ?_ NB152_168.1 _; (with_reducible repeat (first | refine bN_ ?_ _ | refine bD_ ?_ | refine bA_ ?_ _)); exact BK152.1) : p := h
theorem q161_ {p : Prop} (h : p := by (with_reducible repeat (first | refine bN_ ?_ _ | refine bD_ ?_ | refine bA_ ?_ _)); refine blk_far ?_ NB158_168.1 _; (with_reducible repeat (first | refine bN_ ?_ _ | refine bD_ ?_ | refine bA_ ?_ _)); refine blk_far ?_ NB158_168.1 _; (with_reducible repeat (first | refine bN_ ?_ _ | refine bD_ ?_ | refine bA_ ?_ _)); exact BK158.1) : p := h
theorem q160_ {p : Prop} (h : p := by (with_reducible repeat (first | apply rA_ | apply rN_ | apply rD_)); exact (Kd.R_mono (rF_ (p := ⟨gb441, 2, none⟩) (rF_ (p := ⟨gb441, 1, none⟩) (rF_ (p := ⟨gb441, 0, none⟩) (Kd.R_types HO433.1 BK441.1 (by decide)) (fun _ hk => hk.2) (.int .i64 t430)) (fun _ hk => hk.2) (.slice Ao16 t431.length co16)) (fun _ hk => hk.2) (.string t434)) (fun _ h_ => h_.1))) : p := h
theorem q159_ {p : Prop} (h : p := by (with_reducible repeat (first | apply rA_ | apply rN_ | apply rD_)); exact Kd.R_mono HO369.1 (fun _ hk => hk.2)) : p := h
theorem q158_ {p : Prop} (h : p := by repeat (first | (with_reducible first | exact HB.1 | apply aB_ | apply pN_ | apply dB_ | refine sB_ ?_ (IsS143.ge HI348.1) | refine sB_ ?_ GE344.1) | exact HB.1)) : p := h
theorem q157_ {p : Prop} (h : p := by rw [hg]; exact Nat.ne_of_gt (blk_lt (g := gb305) (o := .cells #[.int .i64 0, .slice none 0 0, .string (⟨#[]⟩ : ByteArray)] 25 (0, 0)) q21_)) : p := h
theorem q156_ {p : Prop} (h : p := by rw [hg]; exact Nat.ne_of_lt (blk_lt (g := gb305) (o := .cells #[.int .i64 0, .slice none 0 0, .string (⟨#[]⟩ : ByteArray)] 25 (0, 0)) q21_)) : p := h
theorem q155_ {p : Prop} (h : p := by (with_reducible repeat (first | apply rA_ | apply rN_ | apply rD_)); exact HO_8.1) : p := h
theorem q154_ {p : Prop} (h : p := by rw [hg]; exact Nat.ne_of_gt (blk_lt (g := gb485) (o := .cells #[.int .i64 t478, .slice Ao22 t479.length co22, .string t482] 25 (0, 0)) q24_)) : p := h
theorem q153_ {p : Prop} (h : p := by rw [hg]; exact Nat.ne_of_lt (blk_lt (g := gb485) (o := .cells #[.int .i64 t478, .slice Ao22 t479.length co22, .string t482] 25 (0, 0)) q24_)) : p := h
theorem q152_ {p : Prop} (h : p := by (with_reducible repeat (first | apply rA_ | apply rN_ | apply rD_)); exact HO277.1) : p := h
theorem q151_ {p : Prop} (h : p := by repeat (first | (with_reducible first | exact HB.1 | apply aB_ | apply pN_ | apply dB_ | refine sB_ ?_ GE471.1 | refine sB_ ?_ GE485.1 | refine sB_ ?_ GE493.1 | refine sB_ ?_ GE504.1) | exact HB.1)) : p := h
theorem q150_ {p : Prop} (h : p := by rw [hg]; exact (keep_size (w := w) (g := g) (row := none) q23_)) : p := h
theorem q149_ {p : Prop} (h : p := by (with_reducible repeat (first | apply rA_ | apply rN_ | apply rD_)); exact Kd.R_mono HO369.1 (fun _ hk => ⟨trivial, hk⟩)) : p := h
theorem q148_ {p : Prop} (h : p := by exact (Reps.one (show Kd.M Kd.string _ _ _ (⟨#[99, 111, 110, 116, 101, 110, 116, 45, 108, 101, 110, 103, 116, 104]⟩ : ByteArray) [.string (⟨#[99, 111, 110, 116, 101, 110, 116, 45, 108, 101, 110, 103, 116, 104]⟩ : ByteArray)] from rfl) (Reps.one (show Kd.M Kd.string _ _ _ (⟨#[88]⟩ : ByteArray) [.string (⟨#[88]⟩ : ByteArray)] from rfl) (Reps.one (show Kd.M Kd.string _ _ _ (⟨#[97]⟩ : ByteArray) [.string (⟨#[97]⟩ : ByteArray)] from rfl) (Reps.none _ _))))) : p := h
theorem q147_ {p : Prop} (h : p := by exact (Reps.one (show Kd.M Kd.string _ _ _ (⟨#[32, 97]⟩ : ByteArray) [.string (⟨#[32, 97]⟩ : ByteArray)] from rfl) (Reps.one (show Kd.M Kd.string _ _ _ (⟨#[53]⟩ : ByteArray) [.string (⟨#[53]⟩ : ByteArray)] from rfl) (Reps.none _ _)))) : p := h
theorem q146_ {p : Prop} (h : p := by (with_reducible repeat (first | refine bN_ ?_ _ | refine bD_ ?_ | refine bA_ ?_ _)); exact BK437.1) : p := h
theorem q145_ {p : Prop} (h : p := by (with_reducible repeat (first | apply rA_ | apply rN_ | apply rD_)); exact Kd.R_mono (rF_ (p := ⟨gb215, 0, none⟩) (Kd.R_types HO214.1 BK215.1 (by decide)) (fun _ hk => hk.2) (.int .i64 t218)) (fun _ hk => trivial)) : p := h
theorem q144_ {p : Prop} (h : p := by have := HK1.1; omega) : p := h
theorem q143_ {p : Prop} (h : p := by repeat (first | exact (Kd.R_reads' HO363.1).2.2 | (with_reducible refine Kd.C_alloc ?_ _) | (with_reducible refine Kd.C_drewN ?_ _) | (with_reducible refine Kd.C_drew ?_))) : p := h
theorem q142_ {p : Prop} (h : p := by repeat (first | exact (Kd.R_reads' HO469.1).2.2 | (with_reducible refine Kd.C_alloc ?_ _) | (with_reducible refine Kd.C_drewN ?_ _) | (with_reducible refine Kd.C_drew ?_))) : p := h
theorem q141_ {p : Prop} (h : p := by repeat (first | exact (Kd.R_reads' HO497.1).2.2 | (with_reducible refine Kd.C_alloc ?_ _) | (with_reducible refine Kd.C_drewN ?_ _) | (with_reducible refine Kd.C_drew ?_))) : p := h
theorem q140_ {p : Prop} (h : p := by repeat (first | exact (Kd.R_reads' HO502.1).2.2 | (with_reducible refine Kd.C_alloc ?_ _) | (with_reducible refine Kd.C_drewN ?_ _) | (with_reducible refine Kd.C_drew ?_))) : p := h
theorem q139_ {p : Prop} (h : p := by first | rfl | (simp [errW_none, errW_some] <;> rfl) | (simp only [← hji6]; first | rfl | (simp [errW_none, errW_some] <;> rfl)) | (simp [*, errW_none, errW_some] <;> rfl)) : p := h
theorem q138_ {p : Prop} (h : p := by first | rfl | (simp [errW_none, errW_some] <;> rfl) | (simp only [← hji35]; first | rfl | (simp [errW_none, errW_some] <;> rfl)) | (simp [*, errW_none, errW_some] <;> rfl)) : p := h
theorem q137_ {p : Prop} (h : p := by repeat (first | exact (Kd.C_below HR1_1.1 HB.1) | (with_reducible refine Kd.C_alloc ?_ _) | (with_reducible refine Kd.C_drewN ?_ _) | (with_reducible refine Kd.C_drew ?_))) : p := h
theorem q136_ {p : Prop} (h : p := by (with_reducible repeat (first | apply rA_ | apply rN_ | apply rD_)); exact HO331.1) : p := h
theorem q135_ {p : Prop} (h : p := by (with_reducible repeat (first | apply rA_ | apply rN_ | apply rD_)); exact HO378.1) : p := h
theorem q134_ {p : Prop} (h : p := by repeat (first | (with_reducible first | exact HB.1 | apply aB_ | apply pN_ | apply dB_) | exact HB.1)) : p := h
theorem q133_ {p : Prop} (h : p := by (with_reducible repeat (first | refine bN_ ?_ _ | refine bD_ ?_ | refine bA_ ?_ _)); refine blk_far ?_ NB424_437.1 _; (with_reducible repeat (first | refine bN_ ?_ _ | refine bD_ ?_ | refine bA_ ?_ _)); refine blk_far ?_ NB424_437.1 _; (with_reducible repeat (first | refine bN_ ?_ _ | refine bD_ ?_ | refine bA_ ?_ _)); refine blk_far ?_ NB424_437.1 _; (with_reducible repeat (first | refine bN_ ?_ _ | refine bD_ ?_ | refine bA_ ?_ _)); exact BK424.1) : p := h
theorem q132_ {p : Prop} (h : p := by (with_reducible repeat (first | refine bN_ ?_ _ | refine bD_ ?_ | refine bA_ ?_ _)); refine blk_far ?_ NB425_437.1 _; (with_reducible repeat (first | refine bN_ ?_ _ | refine bD_ ?_ | refine bA_ ?_ _)); refine blk_far ?_ NB425_437.1 _; (with_reducible repeat (first | refine bN_ ?_ _ | refine bD_ ?_ | refine bA_ ?_ _)); refine blk_far ?_ NB425_437.1 _; (with_reducible repeat (first | refine bN_ ?_ _ | refine bD_ ?_ | refine bA_ ?_ _)); exact BK425.1) : p := h
theorem q131_ {p : Prop} (h : p := by rw [hg]; exact (keep_size (w := w) (g := g) (row := none) q8_)) : p := h
theorem q130_ {p : Prop} (h : p := by rw [hg]; exact Nat.ne_of_gt (blk_lt (g := gb424) (o := .cells #[.int .i64 0, .slice none 0 0, .string (⟨#[]⟩ : ByteArray)] 25 (0, 0)) q27_)) : p := h
theorem q129_ {p : Prop} (h : p := by rw [hg]; exact Nat.ne_of_lt (blk_lt (g := gb424) (o := .cells #[.int .i64 0, .slice none 0 0, .string (⟨#[]⟩ : ByteArray)] 25 (0, 0)) q27_)) : p := h
theorem q128_ {p : Prop} (h : p := by rw [hg]; exact Nat.ne_of_gt (blk_lt (g := gb471) (o := .cells #[.int .i64 t466, .slice Ao14 t467.length co14, .string t470] 25 (0, 0)) q20_)) : p := h
theorem q127_ {p : Prop} (h : p := by rw [hg]; exact Nat.ne_of_lt (blk_lt (g := gb471) (o := .cells #[.int .i64 t466, .slice Ao14 t467.length co14, .string t470] 25 (0, 0)) q20_)) : p := h
theorem q126_ {p : Prop} (h : p := by (with_reducible repeat (first | refine bN_ ?_ _ | refine bD_ ?_ | refine bA_ ?_ _)); exact BK141.1) : p := h
theorem q125_ {p : Prop} (h : p := by (with_reducible repeat (first | refine bN_ ?_ _ | refine bD_ ?_ | refine bA_ ?_ _)); exact BK200.1) : p := h
theorem q124_ {p : Prop} (h : p := by (with_reducible repeat (first | apply rA_ | apply rN_ | apply rD_)); exact HO527.1) : p := h
theorem q123_ {p : Prop} (h : p := by (with_reducible repeat (first | apply rA_ | apply rN_ | apply rD_)); exact Kd.R_mono (rF_ (p := ⟨gb505, 2, none⟩) (rF_ (p := ⟨gb505, 1, none⟩) (rF_ (p := ⟨gb505, 0, none⟩) (rF_ (p := ⟨gb504, 2, none⟩) (rF_ (p := ⟨gb504, 1, none⟩) (rF_ (p := ⟨gb504, 0, none⟩) (Kd.R_types (Kd.R_types HO474.1 BK504.1 (by decide)) BK505.1 (by decide)) (fun _ hk => hk.1.2) (.int .i64 t494)) (fun _ hk => hk.1.2) (.slice Ao37 t495.length co37)) (fun _ hk => hk.1.2) (.string t498)) (fun _ hk => hk.2) (.int .i64 t499)) (fun _ hk => hk.2) (.slice Ao42 t500.length co42)) (fun _ hk => hk.2) (.string t503)) (fun _ hk => hk.1.1.2)) : p := h
theorem q122_ {p : Prop} (h : p := by (with_reducible repeat (first | apply rA_ | apply rN_ | apply rD_)); exact Kd.R_mono (rF_ (p := ⟨gb505, 2, none⟩) (rF_ (p := ⟨gb505, 1, none⟩) (rF_ (p := ⟨gb505, 0, none⟩) (rF_ (p := ⟨gb504, 2, none⟩) (rF_ (p := ⟨gb504, 1, none⟩) (rF_ (p := ⟨gb504, 0, none⟩) (Kd.R_types (Kd.R_types HO477.1 BK504.1 (by decide)) BK505.1 (by decide)) (fun _ hk => hk.1.2) (.int .i64 t494)) (fun _ hk => hk.1.2) (.slice Ao37 t495.length co37)) (fun _ hk => hk.1.2) (.string t498)) (fun _ hk => hk.2) (.int .i64 t499)) (fun _ hk => hk.2) (.slice Ao42 t500.length co42)) (fun _ hk => hk.2) (.string t503)) (fun _ hk => hk.1.1.2)) : p := h
theorem q121_ {p : Prop} (h : p := by (with_reducible repeat (first | apply rA_ | apply rN_ | apply rD_)); exact Kd.R_mono (rF_ (p := ⟨gb158, 2, none⟩) (Kd.R_types HO_159001.1 BK158.1 (by decide)) (fun _ hk => hk.2) (.string (strOfNums ((l0.take ((ji96) : Int).toNat).drop (t153 : Int).toNat)))) (fun _ hk => trivial)) : p := h
theorem q120_ {p : Prop} (h : p := by (with_reducible repeat (first | apply rA_ | apply rN_ | apply rD_)); exact HO_6.1) : p := h
theorem q119_ {p : Prop} (h : p := by (with_reducible repeat (first | apply rA_ | apply rN_ | apply rD_)); exact HO433.1) : p := h
theorem q118_ {p : Prop} (h : p := by repeat (first | (with_reducible first | exact HB.1 | apply aB_ | apply pN_ | apply dB_ | refine sB_ ?_ GE471.1 | refine sB_ ?_ GE485.1) | exact HB.1)) : p := h
theorem q117_ {p : Prop} (h : p := by repeat (first | (with_reducible first | exact HB.1 | apply aB_ | apply pN_ | apply dB_ | refine sB_ ?_ GE130.1) | exact HB.1)) : p := h
theorem q116_ {p : Prop} (h : p := by (with_reducible repeat (first | apply rA_ | apply rN_ | apply rD_)); exact Kd.R_mono (rF_ (p := ⟨gb505, 2, none⟩) (rF_ (p := ⟨gb505, 1, none⟩) (rF_ (p := ⟨gb505, 0, none⟩) (rF_ (p := ⟨gb504, 2, none⟩) (rF_ (p := ⟨gb504, 1, none⟩) (rF_ (p := ⟨gb504, 0, none⟩) (Kd.R_types (Kd.R_types HO497.1 BK504.1 (by decide)) BK505.1 (by decide)) (fun _ hk => hk.1.2) (.int .i64 t494)) (fun _ hk => hk.1.2) (.slice Ao37 t495.length co37)) (fun _ hk => hk.1.2) (.string t498)) (fun _ hk => hk.2) (.int .i64 t499)) (fun _ hk => hk.2) (.slice Ao42 t500.length co42)) (fun _ hk => hk.2) (.string t503)) (fun _ hk => ⟨hk.1.1.1.1.2, ⟨hk.1.1.1.2, ⟨hk.1.1.2, hk.1.1.1.1.1⟩⟩⟩)) : p := h
theorem q115_ {p : Prop} (h : p := by (with_reducible repeat (first | apply rA_ | apply rN_ | apply rD_)); exact Kd.R_mono (rF_ (p := ⟨gb505, 2, none⟩) (rF_ (p := ⟨gb505, 1, none⟩) (rF_ (p := ⟨gb505, 0, none⟩) (rF_ (p := ⟨gb504, 2, none⟩) (rF_ (p := ⟨gb504, 1, none⟩) (rF_ (p := ⟨gb504, 0, none⟩) (Kd.R_types (Kd.R_types HO502.1 BK504.1 (by decide)) BK505.1 (by decide)) (fun _ hk => hk.1.2) (.int .i64 t494)) (fun _ hk => hk.1.2) (.slice Ao37 t495.length co37)) (fun _ hk => hk.1.2) (.string t498)) (fun _ hk => hk.2) (.int .i64 t499)) (fun _ hk => hk.2) (.slice Ao42 t500.length co42)) (fun _ hk => hk.2) (.string t503)) (fun _ hk => ⟨hk.1.1.1.1.2, ⟨hk.1.1.1.2, ⟨hk.1.1.2, hk.1.1.1.1.1⟩⟩⟩)) : p := h
theorem q114_ {p : Prop} (h : p := by (with_reducible repeat (first | apply rA_ | apply rN_ | apply rD_)); exact Kd.R_mono (rF_ (p := ⟨gb505, 2, none⟩) (rF_ (p := ⟨gb505, 1, none⟩) (rF_ (p := ⟨gb505, 0, none⟩) (rF_ (p := ⟨gb504, 2, none⟩) (rF_ (p := ⟨gb504, 1, none⟩) (rF_ (p := ⟨gb504, 0, none⟩) (Kd.R_types (Kd.R_types HO469.1 BK504.1 (by decide)) BK505.1 (by decide)) (fun _ hk => hk.1.2) (.int .i64 t494)) (fun _ hk => hk.1.2) (.slice Ao37 t495.length co37)) (fun _ hk => hk.1.2) (.string t498)) (fun _ hk => hk.2) (.int .i64 t499)) (fun _ hk => hk.2) (.slice Ao42 t500.length co42)) (fun _ hk => hk.2) (.string t503)) (fun _ hk => ⟨hk.1.1.1.1.1.2, ⟨hk.1.1.1.1.2, ⟨hk.1.1.1.2, hk.1.1.2⟩⟩⟩)) : p := h
theorem q113_ {p : Prop} (h : p := by (with_reducible repeat (first | apply rA_ | apply rN_ | apply rD_)); exact Kd.R_mono (rF_ (p := ⟨gb505, 2, none⟩) (rF_ (p := ⟨gb505, 1, none⟩) (rF_ (p := ⟨gb505, 0, none⟩) (rF_ (p := ⟨gb504, 2, none⟩) (rF_ (p := ⟨gb504, 1, none⟩) (rF_ (p := ⟨gb504, 0, none⟩) (Kd.R_types (Kd.R_types HO481.1 BK504.1 (by decide)) BK505.1 (by decide)) (fun _ hk => hk.1.2) (.int .i64 t494)) (fun _ hk => hk.1.2) (.slice Ao37 t495.length co37)) (fun _ hk => hk.1.2) (.string t498)) (fun _ hk => hk.2) (.int .i64 t499)) (fun _ hk => hk.2) (.slice Ao42 t500.length co42)) (fun _ hk => hk.2) (.string t503)) (fun _ hk => ⟨hk.1.1.1.1.1.2, ⟨hk.1.1.1.1.2, ⟨hk.1.1.1.2, hk.1.1.2⟩⟩⟩)) : p := h
theorem q112_ {p : Prop} (h : p := by (with_reducible repeat (first | apply rA_ | apply rN_ | apply rD_)); exact Kd.R_mono (rF_ (p := ⟨gb505, 2, none⟩) (rF_ (p := ⟨gb505, 1, none⟩) (rF_ (p := ⟨gb505, 0, none⟩) (rF_ (p := ⟨gb504, 2, none⟩) (rF_ (p := ⟨gb504, 1, none⟩) (rF_ (p := ⟨gb504, 0, none⟩) (Kd.R_types (Kd.R_types HO489.1 BK504.1 (by decide)) BK505.1 (by decide)) (fun _ hk => hk.1.2) (.int .i64 t494)) (fun _ hk => hk.1.2) (.slice Ao37 t495.length co37)) (fun _ hk => hk.1.2) (.string t498)) (fun _ hk => hk.2) (.int .i64 t499)) (fun _ hk => hk.2) (.slice Ao42 t500.length co42)) (fun _ hk => hk.2) (.string t503)) (fun _ hk => ⟨hk.1.1.1.1.1.2, ⟨hk.1.1.1.1.2, ⟨hk.1.1.1.2, hk.1.1.2⟩⟩⟩)) : p := h
theorem q111_ {p : Prop} (h : p := by repeat (first | (with_reducible first | exact HBW.1 | apply aB_ | apply pN_ | apply dB_) | exact HBW.1)) : p := h
theorem q110_ {p : Prop} (h : p := by (with_reducible repeat (first | apply rA_ | apply rN_ | apply rD_)); exact HO_472001.1) : p := h
theorem q109_ {p : Prop} (h : p := by (with_reducible repeat (first | apply rA_ | apply rN_ | apply rD_)); exact HO_486001.1) : p := h
theorem q108_ {p : Prop} (h : p := by (with_reducible repeat (first | apply rA_ | apply rN_ | apply rD_)); exact HO_494001.1) : p := h
theorem q107_ {p : Prop} (h : p := by (with_reducible repeat (first | apply rA_ | apply rN_ | apply rD_)); exact HO_505001.1) : p := h
theorem q106_ {p : Prop} (h : p := by (with_reducible repeat (first | apply rA_ | apply rN_ | apply rD_)); exact HO_506001.1) : p := h
theorem q105_ {p : Prop} (h : p := by (with_reducible repeat (first | apply rA_ | apply rN_ | apply rD_)); exact (Kd.R_mono (rF_ (p := ⟨gb493, 2, none⟩) (rF_ (p := ⟨gb493, 1, none⟩) (rF_ (p := ⟨gb493, 0, none⟩) (Kd.R_types HO469.1 BK493.1 (by decide)) (fun _ hk => hk.2) (.int .i64 t486)) (fun _ hk => hk.2) (.slice Ao28 t487.length co28)) (fun _ hk => hk.2) (.string t490)) (fun _ h_ => h_.1))) : p := h
theorem q104_ {p : Prop} (h : p := by (with_reducible repeat (first | apply rA_ | apply rN_ | apply rD_)); exact (Kd.R_mono (rF_ (p := ⟨gb493, 2, none⟩) (rF_ (p := ⟨gb493, 1, none⟩) (rF_ (p := ⟨gb493, 0, none⟩) (Kd.R_types HO481.1 BK493.1 (by decide)) (fun _ hk => hk.2) (.int .i64 t486)) (fun _ hk => hk.2) (.slice Ao28 t487.length co28)) (fun _ hk => hk.2) (.string t490)) (fun _ h_ => h_.1))) : p := h
theorem q103_ {p : Prop} (h : p := by (with_reducible repeat (first | apply rA_ | apply rN_ | apply rD_)); exact (Kd.R_mono (rF_ (p := ⟨gb493, 2, none⟩) (rF_ (p := ⟨gb493, 1, none⟩) (rF_ (p := ⟨gb493, 0, none⟩) (Kd.R_types HO489.1 BK493.1 (by decide)) (fun _ hk => hk.2) (.int .i64 t486)) (fun _ hk => hk.2) (.slice Ao28 t487.length co28)) (fun _ hk => hk.2) (.string t490)) (fun _ h_ => h_.1))) : p := h
theorem q102_ {p : Prop} (h : p := by (with_reducible repeat (first | apply rA_ | apply rN_ | apply rD_)); exact HO385.1) : p := h
theorem q101_ {p : Prop} (h : p := by (with_reducible repeat (first | apply rA_ | apply rN_ | apply rD_)); exact HO_216001.1) : p := h
theorem q100_ {p : Prop} (h : p := by repeat (first | (with_reducible first | exact HI429.1 | apply IsS143.alloc | apply IsS143.drewN | apply IsS143.drew | apply IsS143.set_1 | apply IsS143.set_2 | refine IsS143.far ?_ NB429_424.1 _ | refine IsS143.far ?_ NB429_425.1 _) | exact HI429.1)) : p := h
theorem q99_ {p : Prop} (h : p := by (with_reducible repeat (first | apply rA_ | apply rN_ | apply rD_)); exact Kd.R_mono (rF_ (p := ⟨gb158, 2, none⟩) (rF_ (p := ⟨gb158, 1, none⟩) (rF_ (p := ⟨gb158, 0, none⟩) (Kd.R_types HO157.1 BK158.1 (by decide)) (fun _ hk => hk.2) (.int .i64 0)) (fun _ hk => hk.2) (.slice none 0 0)) (fun _ hk => hk.2) (.string (⟨#[]⟩ : ByteArray))) (fun _ hk => trivial)) : p := h
theorem q98_ {p : Prop} (h : p := by rw [List.length_take]; have h_ : ((ji96) : Int) ≤ (l0.length : Int) := of_decide_eq_true q3_; omega) : p := h
theorem q97_ {p : Prop} (h : p := by repeat (first | (with_reducible first | exact HB.1 | apply aB_ | apply pN_ | apply dB_ | refine sB_ ?_ (IsS143.ge HI0.1) | refine sB_ ?_ GE290.1) | exact HB.1)) : p := h
theorem q96_ {p : Prop} (h : p := by (with_reducible repeat (first | refine bN_ ?_ _ | refine bD_ ?_ | refine bA_ ?_ _)); refine blk_far ?_ NB471_505.1 _; (with_reducible repeat (first | refine bN_ ?_ _ | refine bD_ ?_ | refine bA_ ?_ _)); refine blk_far ?_ NB471_505.1 _; (with_reducible repeat (first | refine bN_ ?_ _ | refine bD_ ?_ | refine bA_ ?_ _)); refine blk_far ?_ NB471_505.1 _; (with_reducible repeat (first | refine bN_ ?_ _ | refine bD_ ?_ | refine bA_ ?_ _)); refine blk_far ?_ NB471_504.1 _; (with_reducible repeat (first | refine bN_ ?_ _ | refine bD_ ?_ | refine bA_ ?_ _)); refine blk_far ?_ NB471_504.1 _; (with_reducible repeat (first | refine bN_ ?_ _ | refine bD_ ?_ | refine bA_ ?_ _)); refine blk_far ?_ NB471_504.1 _; (with_reducible repeat (first | refine bN_ ?_ _ | refine bD_ ?_ | refine bA_ ?_ _)); exact BK471.1) : p := h
theorem q95_ {p : Prop} (h : p := by (with_reducible repeat (first | refine bN_ ?_ _ | refine bD_ ?_ | refine bA_ ?_ _)); refine blk_far ?_ NB485_505.1 _; (with_reducible repeat (first | refine bN_ ?_ _ | refine bD_ ?_ | refine bA_ ?_ _)); refine blk_far ?_ NB485_505.1 _; (with_reducible repeat (first | refine bN_ ?_ _ | refine bD_ ?_ | refine bA_ ?_ _)); refine blk_far ?_ NB485_505.1 _; (with_reducible repeat (first | refine bN_ ?_ _ | refine bD_ ?_ | refine bA_ ?_ _)); refine blk_far ?_ NB485_504.1 _; (with_reducible repeat (first | refine bN_ ?_ _ | refine bD_ ?_ | refine bA_ ?_ _)); refine blk_far ?_ NB485_504.1 _; (with_reducible repeat (first | refine bN_ ?_ _ | refine bD_ ?_ | refine bA_ ?_ _)); refine blk_far ?_ NB485_504.1 _; (with_reducible repeat (first | refine bN_ ?_ _ | refine bD_ ?_ | refine bA_ ?_ _)); exact BK485.1) : p := h
theorem q94_ {p : Prop} (h : p := by (with_reducible repeat (first | refine bN_ ?_ _ | refine bD_ ?_ | refine bA_ ?_ _)); refine blk_far ?_ NB493_505.1 _; (with_reducible repeat (first | refine bN_ ?_ _ | refine bD_ ?_ | refine bA_ ?_ _)); refine blk_far ?_ NB493_505.1 _; (with_reducible repeat (first | refine bN_ ?_ _ | refine bD_ ?_ | refine bA_ ?_ _)); refine blk_far ?_ NB493_505.1 _; (with_reducible repeat (first | refine bN_ ?_ _ | refine bD_ ?_ | refine bA_ ?_ _)); refine blk_far ?_ NB493_504.1 _; (with_reducible repeat (first | refine bN_ ?_ _ | refine bD_ ?_ | refine bA_ ?_ _)); refine blk_far ?_ NB493_504.1 _; (with_reducible repeat (first | refine bN_ ?_ _ | refine bD_ ?_ | refine bA_ ?_ _)); refine blk_far ?_ NB493_504.1 _; (with_reducible repeat (first | refine bN_ ?_ _ | refine bD_ ?_ | refine bA_ ?_ _)); exact BK493.1) : p := h
theorem q93_ {p : Prop} (h : p := by repeat (first | (with_reducible first | exact HB.1 | apply aB_ | apply pN_ | apply dB_ | refine sB_ ?_ GE208.1) | exact HB.1)) : p := h
theorem q92_ {p : Prop} (h : p := by repeat (first | (with_reducible first | exact HB.1 | apply aB_ | apply pN_ | apply dB_ | refine sB_ ?_ GE424.1) | exact HB.1)) : p := h
theorem q91_ {p : Prop} (h : p := by (with_reducible repeat (first | apply rA_ | apply rN_ | apply rD_)); exact HO_4.1) : p := h
theorem q90_ {p : Prop} (h : p := by repeat (first | (with_reducible first | exact HI0.1 | apply IsS143.alloc | apply IsS143.drewN | apply IsS143.drew | apply IsS143.set_1 | apply IsS143.set_2 | refine IsS143.far ?_ NB0_290.1 _) | exact HI0.1)) : p := h
theorem q89_ {p : Prop} (h : p := by (with_reducible repeat (first | apply rA_ | apply rN_ | apply rD_)); exact HO325.1) : p := h
theorem q88_ {p : Prop} (h : p := by (with_reducible repeat (first | apply rA_ | apply rN_ | apply rD_)); exact HO388.1) : p := h
theorem q87_ {p : Prop} (h : p := by exact (Reps.one (show Kd.M (Kd.int .i64) _ _ _ 0 [.int .i64 0] from rfl) (Reps.one (show Kd.M (Kd.int .i64) _ _ _ 13 [.int .i64 13] from rfl) (Reps.one (show Kd.M (Kd.int .i64) _ _ _ 10 [.int .i64 10] from rfl) (Reps.one (show Kd.M (Kd.int .i64) _ _ _ 32 [.int .i64 32] from rfl) (Reps.one (show Kd.M (Kd.int .i64) _ _ _ 58 [.int .i64 58] from rfl) (Reps.one (show Kd.M (Kd.int .i64) _ _ _ 65 [.int .i64 65] from rfl) (Reps.none _ _)))))))) : p := h
theorem q86_ {p : Prop} (h : p := by repeat (first | (with_reducible first | exact HI429.1 | apply IsS143.alloc | apply IsS143.drewN | apply IsS143.drew | apply IsS143.set_1 | apply IsS143.set_2 | refine IsS143.far ?_ NB429_424.1 _ | refine IsS143.far ?_ NB429_425.1 _ | refine IsS143.far ?_ NB429_437.1 _) | exact HI429.1)) : p := h
theorem q85_ {p : Prop} (h : p := by rw [hg]; exact Nat.ne_of_gt (IsS143.lt (show IsS143 w0 _ g s0_0 t311 t312 from by repeat (first | (with_reducible first | exact HI0.1 | apply IsS143.alloc | apply IsS143.drewN | apply IsS143.drew | apply IsS143.set_1 | apply IsS143.set_2 | refine IsS143.far ?_ NB0_305.1 _) | exact HI0.1)))) : p := h
theorem q84_ {p : Prop} (h : p := by rw [hg]; exact Nat.ne_of_lt (IsS143.lt (show IsS143 w0 _ g s0_0 t311 t312 from by repeat (first | (with_reducible first | exact HI0.1 | apply IsS143.alloc | apply IsS143.drewN | apply IsS143.drew | apply IsS143.set_1 | apply IsS143.set_2 | refine IsS143.far ?_ NB0_305.1 _) | exact HI0.1)))) : p := h
theorem q83_ {p : Prop} (h : p := by (with_reducible repeat (first | refine bN_ ?_ _ | refine bD_ ?_ | refine bA_ ?_ _)); exact BK457.1) : p := h
theorem q82_ {p : Prop} (h : p := by (with_reducible repeat (first | refine bN_ ?_ _ | refine bD_ ?_ | refine bA_ ?_ _)); exact BK462.1) : p := h
theorem q81_ {p : Prop} (h : p := by repeat (first | (with_reducible exact HR398.1) | (with_reducible refine Kd.C_alloc ?_ _) | (with_reducible refine Kd.C_drewN ?_ _) | (with_reducible refine Kd.C_drew ?_) | exact HR398.1)) : p := h
theorem q80_ {p : Prop} (h : p := by repeat (first | (with_reducible first | exact HB.1 | apply aB_ | apply pN_ | apply dB_ | refine sB_ ?_ GE114.1) | exact HB.1)) : p := h
theorem q79_ {p : Prop} (h : p := by repeat (first | (with_reducible first | exact HB.1 | apply aB_ | apply pN_ | apply dB_ | refine sB_ ?_ GE193.1) | exact HB.1)) : p := h
theorem q78_ {p : Prop} (h : p := by (with_reducible repeat (first | refine bN_ ?_ _ | refine bD_ ?_ | refine bA_ ?_ _)); refine blk_far ?_ NB152_158.1 _; (with_reducible repeat (first | refine bN_ ?_ _ | refine bD_ ?_ | refine bA_ ?_ _)); exact BK152.1) : p := h
theorem q77_ {p : Prop} (h : p := by (with_reducible repeat (first | apply rA_ | apply rN_ | apply rD_)); exact HO_3.1) : p := h
theorem q76_ {p : Prop} (h : p := by rw [hg]; exact Nat.ne_of_gt (IsS143.lt (show IsS143 w0 _ g s0_0 s0_1 s0_2 from by repeat (first | (with_reducible first | exact HI0.1 | apply IsS143.alloc | apply IsS143.drewN | apply IsS143.drew | apply IsS143.set_1 | apply IsS143.set_2) | exact HI0.1)))) : p := h
theorem q75_ {p : Prop} (h : p := by rw [hg]; exact Nat.ne_of_lt (IsS143.lt (show IsS143 w0 _ g s0_0 s0_1 s0_2 from by repeat (first | (with_reducible first | exact HI0.1 | apply IsS143.alloc | apply IsS143.drewN | apply IsS143.drew | apply IsS143.set_1 | apply IsS143.set_2) | exact HI0.1)))) : p := h
theorem q74_ {p : Prop} (h : p := by (with_reducible repeat (first | refine bN_ ?_ _ | refine bD_ ?_ | refine bA_ ?_ _)); exact BK215.1) : p := h
theorem q73_ {p : Prop} (h : p := by repeat (first | (with_reducible first | exact HB.1 | apply aB_ | apply pN_ | apply dB_ | refine sB_ ?_ GE471.1) | exact HB.1)) : p := h
theorem q72_ {p : Prop} (h : p := by (with_reducible repeat (first | refine bN_ ?_ _ | refine bD_ ?_ | refine bA_ ?_ _)); refine blk_far ?_ NB152_158.1 _; (with_reducible repeat (first | refine bN_ ?_ _ | refine bD_ ?_ | refine bA_ ?_ _)); refine blk_far ?_ NB152_158.1 _; (with_reducible repeat (first | refine bN_ ?_ _ | refine bD_ ?_ | refine bA_ ?_ _)); refine blk_far ?_ NB152_158.1 _; (with_reducible repeat (first | refine bN_ ?_ _ | refine bD_ ?_ | refine bA_ ?_ _)); exact BK152.1) : p := h
theorem q71_ {p : Prop} (h : p := by repeat (first | (with_reducible first | exact HK.1 | apply KeepBut.set_ | apply keep_drewN | apply keep_drew | apply keep_alloc | refine keep_far ?_ GW290.1 _) | exact HK.1)) : p := h
theorem q70_ {p : Prop} (h : p := by repeat (first | (with_reducible first | exact HB.1 | apply aB_ | apply pN_ | apply dB_ | refine sB_ ?_ GE471.1 | refine sB_ ?_ GE485.1 | refine sB_ ?_ GE493.1) | exact HB.1)) : p := h
theorem q69_ {p : Prop} (h : p := by repeat (first | (with_reducible first | exact HB.1 | apply aB_ | apply pN_ | apply dB_ | refine sB_ ?_ GE152.1) | exact HB.1)) : p := h
theorem q68_ {p : Prop} (h : p := by (try simp only [List.map_toArray, List.map_cons, List.map_nil]); first | done | (simp only [hji96]; rfl) | rfl | (simp only [List.length_drop, List.length_take]; rfl)) : p := h
theorem q67_ {p : Prop} (h : p := by (with_reducible repeat (first | apply rA_ | apply rN_ | apply rD_)); exact HO497.1) : p := h
theorem q66_ {p : Prop} (h : p := by (with_reducible repeat (first | apply rA_ | apply rN_ | apply rD_)); exact HO502.1) : p := h
theorem q65_ {p : Prop} (h : p := by repeat (first | exact (Kd.R_reads' HO_159001.1).2.2 | (with_reducible refine Kd.C_alloc ?_ _) | (with_reducible refine Kd.C_drewN ?_ _) | (with_reducible refine Kd.C_drew ?_))) : p := h
theorem q64_ {p : Prop} (h : p := by (with_reducible repeat (first | apply rA_ | apply rN_ | apply rD_)); exact HO177.1) : p := h
theorem q63_ {p : Prop} (h : p := by (with_reducible repeat (first | apply rA_ | apply rN_ | apply rD_)); exact HO489.1) : p := h
theorem q62_ {p : Prop} (h : p := by repeat (first | (with_reducible first | exact HB.1 | apply aB_ | apply pN_ | apply dB_ | refine sB_ ?_ GE190.1) | exact HB.1)) : p := h
theorem q61_ {p : Prop} (h : p := by repeat (first | (with_reducible first | exact HB.1 | apply aB_ | apply pN_ | apply dB_ | refine sB_ ?_ GE200.1) | exact HB.1)) : p := h
theorem q60_ {p : Prop} (h : p := by repeat (first | (with_reducible first | exact HB.1 | apply aB_ | apply pN_ | apply dB_ | refine sB_ ?_ GE457.1) | exact HB.1)) : p := h
theorem q59_ {p : Prop} (h : p := by repeat (first | (with_reducible first | exact HB.1 | apply aB_ | apply pN_ | apply dB_ | refine sB_ ?_ GE462.1) | exact HB.1)) : p := h
theorem q58_ {p : Prop} (h : p := by repeat (first | (with_reducible exact HR382.1) | (with_reducible refine Kd.C_alloc ?_ _) | (with_reducible refine Kd.C_drewN ?_ _) | (with_reducible refine Kd.C_drew ?_) | exact HR382.1)) : p := h
theorem q57_ {p : Prop} (h : p := by (with_reducible repeat (first | apply rA_ | apply rN_ | apply rD_)); exact HO481.1) : p := h
theorem q56_ {p : Prop} (h : p := by (with_reducible repeat (first | apply rA_ | apply rN_ | apply rD_)); exact (Kd.R_mono (rF_ (p := ⟨gb215, 2, none⟩) (Kd.R_types HO_216001.1 BK215.1 (by decide)) (fun _ hk => hk.2) (.string (t210.extract 0 (t233 : Int).toNat))) (fun _ h_ => h_.1))) : p := h
theorem q55_ {p : Prop} (h : p := by repeat (first | (with_reducible first | exact HB.1 | apply aB_ | apply pN_ | apply dB_ | refine sB_ ?_ (IsS143.ge HI0.1) | refine sB_ ?_ GE305.1) | exact HB.1)) : p := h
theorem q54_ {p : Prop} (h : p := by repeat (first | (with_reducible first | exact HI0.1 | apply IsS143.alloc | apply IsS143.drewN | apply IsS143.drew | apply IsS143.set_1 | apply IsS143.set_2 | refine IsS143.far ?_ NB0_305.1 _) | exact HI0.1)) : p := h
theorem q53_ {p : Prop} (h : p := by repeat (first | (with_reducible first | exact HB.1 | apply aB_ | apply pN_ | apply dB_ | refine sB_ ?_ GE141.1) | exact HB.1)) : p := h
theorem q52_ {p : Prop} (h : p := by (with_reducible repeat (first | refine bN_ ?_ _ | refine bD_ ?_ | refine bA_ ?_ _)); refine blk_far ?_ NB208_215.1 _; (with_reducible repeat (first | refine bN_ ?_ _ | refine bD_ ?_ | refine bA_ ?_ _)); exact BK208.1) : p := h
theorem q51_ {p : Prop} (h : p := by repeat (first | (with_reducible first | exact HB.1 | apply aB_ | apply pN_ | apply dB_ | refine sB_ ?_ (IsS143.ge HI429.1) | refine sB_ ?_ GE424.1 | refine sB_ ?_ GE425.1 | refine sB_ ?_ GE437.1 | refine sB_ ?_ GE441.1) | exact HB.1)) : p := h
theorem q50_ {p : Prop} (h : p := by repeat (first | (with_reducible exact HR512.1) | (with_reducible refine Kd.C_alloc ?_ _) | (with_reducible refine Kd.C_drewN ?_ _) | (with_reducible refine Kd.C_drew ?_) | exact HR512.1)) : p := h
theorem q49_ {p : Prop} (h : p := by repeat (first | exact (Kd.C_below HR0_1.1 HB.1) | (with_reducible refine Kd.C_alloc ?_ _) | (with_reducible refine Kd.C_drewN ?_ _) | (with_reducible refine Kd.C_drew ?_))) : p := h
theorem q48_ {p : Prop} (h : p := by (with_reducible repeat (first | refine bN_ ?_ _ | refine bD_ ?_ | refine bA_ ?_ _)); refine blk_far ?_ NB305_313.1 _; (with_reducible repeat (first | refine bN_ ?_ _ | refine bD_ ?_ | refine bA_ ?_ _)); refine blk_far ?_ NB305_313.1 _; (with_reducible repeat (first | refine bN_ ?_ _ | refine bD_ ?_ | refine bA_ ?_ _)); refine blk_far ?_ NB305_313.1 _; (with_reducible repeat (first | refine bN_ ?_ _ | refine bD_ ?_ | refine bA_ ?_ _)); exact BK305.1) : p := h
theorem q47_ {p : Prop} (h : p := by (with_reducible repeat (first | apply rA_ | apply rN_ | apply rD_)); exact HO477.1) : p := h
theorem q46_ {p : Prop} (h : p := by simp only [putAll, Act.put, sI, sZ, sS]) : p := h
theorem q45_ {p : Prop} (h : p := by (with_reducible repeat (first | refine bN_ ?_ _ | refine bD_ ?_ | refine bA_ ?_ _)); exact BK208.1) : p := h
theorem q44_ {p : Prop} (h : p := by rw [hg]; exact (below_size q2_)) : p := h
theorem q43_ {p : Prop} (h : p := by (with_reducible repeat (first | apply rA_ | apply rN_ | apply rD_)); exact HO469.1) : p := h
theorem q42_ {p : Prop} (h : p := by first | (with_reducible exact hG) | (refine GOK_below hG ?_; (repeat (first | (with_reducible first | exact HB.1 | apply aB_ | apply pN_ | apply dB_ | refine sB_ ?_ GE471.1 | refine sB_ ?_ GE485.1 | refine sB_ ?_ GE493.1 | refine sB_ ?_ GE504.1 | refine sB_ ?_ GE505.1 | refine sB_ ?_ GE541.1) | exact HB.1)); done) | (refine GOK_drawn hG ?_; (repeat (first | exact Drawn0.refl _ | apply Drawn0.step)); done) | exact hG) : p := h
theorem q41_ {p : Prop} (h : p := by (with_reducible repeat (first | apply rA_ | apply rN_ | apply rD_)); exact HO474.1) : p := h
theorem q40_ {p : Prop} (h : p := by first | exact Kd.R_nil _ _ _ _ _ | exact Kd.N_nil _ _ _ _ _ | exact Kd.V_nil _ _ _ _ _ | exact Kd.Q_nil _ _ _ _ _ | exact Kd.S_nil _ _ _ _ _) : p := h
theorem q39_ {p : Prop} (h : p := by repeat (first | (with_reducible first | exact HB.1 | apply aB_ | apply pN_ | apply dB_ | refine sB_ ?_ GE152.1 | refine sB_ ?_ GE158.1 | refine sB_ ?_ GE168.1) | exact HB.1)) : p := h
theorem q38_ {p : Prop} (h : p := by (with_reducible repeat (first | refine bN_ ?_ _ | refine bD_ ?_ | refine bA_ ?_ _)); exact BK313.1) : p := h
theorem q37_ {p : Prop} (h : p := by repeat (first | (with_reducible first | exact HB.1 | apply aB_ | apply pN_ | apply dB_ | refine sB_ ?_ (IsS143.ge HI429.1) | refine sB_ ?_ GE424.1 | refine sB_ ?_ GE425.1 | refine sB_ ?_ GE437.1) | exact HB.1)) : p := h
theorem q36_ {p : Prop} (h : p := by (with_reducible repeat (first | refine bN_ ?_ _ | refine bD_ ?_ | refine bA_ ?_ _)); refine blk_put (cs := #[.int .i64 0, .slice none 0 0, .string x153002_2]) ?_ 2 _ rfl; (with_reducible repeat (first | refine bN_ ?_ _ | refine bD_ ?_ | refine bA_ ?_ _)); refine blk_put (cs := #[.int .i64 0, .slice none 0 0, .string x153002_2]) ?_ 1 _ rfl; (with_reducible repeat (first | refine bN_ ?_ _ | refine bD_ ?_ | refine bA_ ?_ _)); refine blk_put (cs := #[.int .i64 x153000_2, .slice none 0 0, .string x153002_2]) ?_ 0 _ rfl; (with_reducible repeat (first | refine bN_ ?_ _ | refine bD_ ?_ | refine bA_ ?_ _)); exact BK152.1) : p := h
theorem q35_ {p : Prop} (h : p := by (with_reducible repeat (first | refine bN_ ?_ _ | refine bD_ ?_ | refine bA_ ?_ _)); exact BK425.1) : p := h
theorem q34_ {p : Prop} (h : p := by repeat (first | (with_reducible first | exact HB.1 | apply aB_ | apply pN_ | apply dB_ | refine sB_ ?_ (IsS143.ge HI429.1) | refine sB_ ?_ GE424.1 | refine sB_ ?_ GE425.1) | exact HB.1)) : p := h
theorem q33_ {p : Prop} (h : p := by (with_reducible repeat (first | apply rA_ | apply rN_ | apply rD_)); exact HO309.1) : p := h
theorem q32_ {p : Prop} (h : p := by (with_reducible repeat (first | refine bN_ ?_ _ | refine bD_ ?_ | refine bA_ ?_ _)); exact BK505.1) : p := h
theorem q31_ {p : Prop} (h : p := by (with_reducible repeat (first | apply rA_ | apply rN_ | apply rD_)); exact HO_159001.1) : p := h
theorem q30_ {p : Prop} (h : p := by first | (with_reducible exact hG) | (refine GOK_below hG ?_; (repeat (first | (with_reducible first | exact HB.1 | apply aB_ | apply pN_ | apply dB_ | refine sB_ ?_ GE208.1 | refine sB_ ?_ GE215.1) | exact HB.1)); done) | (refine GOK_drawn hG ?_; (repeat (first | exact Drawn0.refl _ | apply Drawn0.step)); done) | exact hG) : p := h
theorem q29_ {p : Prop} (h : p := by (with_reducible repeat (first | refine bN_ ?_ _ | refine bD_ ?_ | refine bA_ ?_ _)); exact BK504.1) : p := h
theorem q28_ {p : Prop} (h : p := by (with_reducible repeat (first | apply rA_ | apply rN_ | apply rD_)); exact HO363.1) : p := h
theorem q27_ {p : Prop} (h : p := by (with_reducible repeat (first | refine bN_ ?_ _ | refine bD_ ?_ | refine bA_ ?_ _)); exact BK424.1) : p := h
theorem q26_ {p : Prop} (h : p := by first | (go_simp; done) | (go_simp; rfl)) : p := h
theorem q25_ {p : Prop} (h : p := by (with_reducible repeat (first | refine bN_ ?_ _ | refine bD_ ?_ | refine bA_ ?_ _)); exact BK493.1) : p := h
theorem q24_ {p : Prop} (h : p := by (with_reducible repeat (first | refine bN_ ?_ _ | refine bD_ ?_ | refine bA_ ?_ _)); exact BK485.1) : p := h
theorem q23_ {p : Prop} (h : p := by repeat (first | (with_reducible first | exact HK.1 | apply KeepBut.set_ | apply keep_drewN | apply keep_drew | apply keep_alloc | refine keep_far ?_ GW305.1 _) | exact HK.1)) : p := h
theorem q22_ {p : Prop} (h : p := by (with_reducible repeat (first | refine bN_ ?_ _ | refine bD_ ?_ | refine bA_ ?_ _)); exact BK158.1) : p := h
theorem q21_ {p : Prop} (h : p := by (with_reducible repeat (first | refine bN_ ?_ _ | refine bD_ ?_ | refine bA_ ?_ _)); exact BK305.1) : p := h
theorem q20_ {p : Prop} (h : p := by (with_reducible repeat (first | refine bN_ ?_ _ | refine bD_ ?_ | refine bA_ ?_ _)); exact BK471.1) : p := h
theorem q19_ {p : Prop} (h : p := by (with_reducible repeat (first | refine bN_ ?_ _ | refine bD_ ?_ | refine bA_ ?_ _)); exact BK152.1) : p := h
theorem q18_ {p : Prop} (h : p := by repeat (first | (with_reducible first | exact HI359.1 | apply IsS143.alloc | apply IsS143.drewN | apply IsS143.drew | apply IsS143.set_1 | apply IsS143.set_2) | exact HI359.1)) : p := h
theorem q17_ {p : Prop} (h : p := by repeat (first | exact Drawn0.refl _ | apply Drawn0.step)) : p := h
theorem q16_ {p : Prop} (h : p := by (with_reducible repeat (first | apply rA_ | apply rN_ | apply rD_)); exact HO369.1) : p := h
theorem q15_ {p : Prop} (h : p := by first | rfl | (simp [errW_none, errW_some] <;> rfl) | (simp [*, errW_none, errW_some] <;> rfl)) : p := h
theorem q14_ {p : Prop} (h : p := by repeat (first | (with_reducible first | exact HB.1 | apply aB_ | apply pN_ | apply dB_ | refine sB_ ?_ GE208.1 | refine sB_ ?_ GE215.1) | exact HB.1)) : p := h
theorem q13_ {p : Prop} (h : p := by repeat (first | (with_reducible first | exact HI0.1 | apply IsS143.alloc | apply IsS143.drewN | apply IsS143.drew | apply IsS143.set_1 | apply IsS143.set_2) | exact HI0.1)) : p := h
theorem q12_ {p : Prop} (h : p := by repeat (first | (with_reducible first | exact HB.1 | apply aB_ | apply pN_ | apply dB_ | refine sB_ ?_ (IsS143.ge HI0.1)) | exact HB.1)) : p := h
theorem q11_ {p : Prop} (h : p := by repeat (first | (with_reducible first | exact HB.1 | apply aB_ | apply pN_ | apply dB_ | refine sB_ ?_ (IsS143.ge HI0.1) | refine sB_ ?_ GE305.1 | refine sB_ ?_ GE313.1) | exact HB.1)) : p := h
theorem q10_ {p : Prop} (h : p := by repeat (first | (with_reducible first | exact HI0.1 | apply IsS143.alloc | apply IsS143.drewN | apply IsS143.drew | apply IsS143.set_1 | apply IsS143.set_2 | refine IsS143.far ?_ NB0_305.1 _ | refine IsS143.far ?_ NB0_313.1 _) | exact HI0.1)) : p := h
theorem q9_ {p : Prop} (h : p := by repeat (first | (with_reducible first | exact HK.1 | apply KeepBut.set_ | apply keep_drewN | apply keep_drew | apply keep_alloc | refine keep_far ?_ GW305.1 _ | refine keep_far ?_ GW313.1 _) | exact HK.1)) : p := h
theorem q8_ {p : Prop} (h : p := by repeat (first | (with_reducible first | exact HK.1 | apply KeepBut.set_ | apply keep_drewN | apply keep_drew | apply keep_alloc) | exact HK.1)) : p := h
theorem q7_ {p : Prop} (h : p := by repeat (first | (with_reducible first | exact HB.1 | apply aB_ | apply pN_ | apply dB_ | refine sB_ ?_ GE471.1 | refine sB_ ?_ GE485.1 | refine sB_ ?_ GE493.1 | refine sB_ ?_ GE504.1 | refine sB_ ?_ GE505.1) | exact HB.1)) : p := h
theorem q6_ {p : Prop} (h : p := by repeat (first | (with_reducible first | exact HB.1 | apply aB_ | apply pN_ | apply dB_ | refine sB_ ?_ GE152.1 | refine sB_ ?_ GE158.1) | exact HB.1)) : p := h
theorem q5_ {p : Prop} (h : p := by repeat (first | (with_reducible first | exact HB.1 | apply aB_ | apply pN_ | apply dB_ | refine sB_ ?_ (IsS143.ge HI359.1)) | exact HB.1)) : p := h
theorem q4_ {p : Prop} (h : p := by first | rfl | (simp; done) | (simp [*]; done) | (simp [empty_ne, *]; done)) : p := h
theorem q3_ {p : Prop} (h : p := by first | (with_reducible assumption) | assumption) : p := h
theorem q2_ {p : Prop} (h : p := by repeat (first | (with_reducible first | exact HB.1 | apply aB_ | apply pN_ | apply dB_) | exact HB.1)) : p := h
theorem q1_ {p : Prop} (h : p := by (try simp only [List.map_toArray, List.map_cons, List.map_nil]); first | done | rfl | (simp only [List.length_drop, List.length_take]; rfl)) : p := h
attribute [local go_sem] max2_int min2_int max_two min_two max_three min_three max_four min_four   -- for this text's walks alone
set_option linter.unusedVariables false
set_option linter.unusedSimpArgs false



def errW : Option Int → Value
 | none => .nilIface
 | some c => .iface 0 (.int .i64 c)
theorem errW_none : errW none = .nilIface := rfl
theorem errW_some (c : Int) : errW (some c) = .iface 0 (.int .i64 c) := rfl

theorem empty_ne (l : List UInt8) : (!(l != [])) = l.isEmpty := by cases l <;> rfl
/-- What the library's contracts ask of package variables. -/
def GOK (w : World) : Prop := (∃ m, w.cell? ⟨0, 0, none⟩ = some (.int .i64 m)) ∧ Go.Lib.TabIs Tryz.prog w "internal/strconv.uint64pow10" .u64 Go.Lib.pow10Tab ∧ Go.Lib.TabIs Tryz.prog w "math/bits.deBruijn64tab" .u8 [0, 1, 56, 2, 57, 49, 28, 3, 61, 58, 42, 50, 38, 29, 17, 4, 62, 47, 59, 36, 45, 43, 51, 22, 53, 39, 33, 30, 24, 18, 12, 5, 63, 55, 48, 27, 60, 41, 37, 16, 46, 35, 44, 21, 52, 32, 23, 11, 54, 26, 40, 15, 34, 20, 31, 10, 25, 14, 19, 9, 13, 8, 7, 6] ∧ (∃ tp p, w.var? Tryz.prog "strconv.ErrRange" = some #[.iface tp p]) ∧ (∃ tp p, w.var? Tryz.prog "strconv.ErrSyntax" = some #[.iface tp p])
theorem GOK.maxlen {w : World} (h : GOK w) : (∃ m, w.cell? ⟨0, 0, none⟩ = some (.int .i64 m)) := h.1
theorem GOK.pow10 {w : World} (h : GOK w) : Go.Lib.TabIs Tryz.prog w "internal/strconv.uint64pow10" .u64 Go.Lib.pow10Tab := h.2.1
theorem GOK.deb {w : World} (h : GOK w) : Go.Lib.TabIs Tryz.prog w "math/bits.deBruijn64tab" .u8 [0, 1, 56, 2, 57, 49, 28, 3, 61, 58, 42, 50, 38, 29, 17, 4, 62, 47, 59, 36, 45, 43, 51, 22, 53, 39, 33, 30, 24, 18, 12, 5, 63, 55, 48, 27, 60, 41, 37, 16, 46, 35, 44, 21, 52, 32, 23, 11, 54, 26, 40, 15, 34, 20, 31, 10, 25, 14, 19, 9, 13, 8, 7, 6] := h.2.2.1
theorem GOK.errr {w : World} (h : GOK w) : (∃ tp p, w.var? Tryz.prog "strconv.ErrRange" = some #[.iface tp p]) := h.2.2.2.1
theorem GOK.errs {w : World} (h : GOK w) : (∃ tp p, w.var? Tryz.prog "strconv.ErrSyntax" = some #[.iface tp p]) := h.2.2.2.2
theorem var_below {P : Program} {w w' : World} {name : String} {cs : Array Value} {g : Nat} (hg : P.globalNamed name = some g) (h : w.var? P name = some cs) (hb : Below w.heap.size w w') : w'.var? P name = some cs := by
 unfold World.var? at *
 rw [hg] at h ⊢; simp only [Option.bind_some] at h ⊢; have hl : g < w.heap.size := by
  rcases Nat.lt_or_ge g w.heap.size with hl | hl
  ·exact hl
  ·rw [Array.getElem?_eq_none hl] at h; cases h
 rw [hb.block g hl]; exact h
theorem tab_below {P : Program} {w w' : World} {name : String} {k : IntKind} {zs : List Int} {g : Nat} (hg : P.globalNamed name = some g) (h : Go.Lib.TabIs P w name k zs) (hb : Below w.heap.size w w') : Go.Lib.TabIs P w' name k zs := by
 unfold Go.Lib.TabIs World.var? at *
 rw [hg] at h ⊢; simp only [Option.bind_some] at h ⊢; have hl : g < w.heap.size := by
  rcases Nat.lt_or_ge g w.heap.size with hl | hl
  ·exact hl
  ·rw [Array.getElem?_eq_none hl] at h; cases h
 rw [hb.block g hl]; exact h
theorem GOK_below {w w' : World} (h : GOK w) (hb : Below w.heap.size w w') : GOK w' := ⟨(let ⟨m, hm⟩ := h.maxlen; ⟨m, pw_cell_below hb hm⟩), (tab_below (g := 3) (by kernel_rfl) h.pow10 hb), (tab_below (g := 7) (by kernel_rfl) h.deb hb), (let ⟨tp, p, h_⟩ := h.errr; ⟨tp, p, var_below (g := 2) (by kernel_rfl) h_ hb⟩), (let ⟨tp, p, h_⟩ := h.errs; ⟨tp, p, var_below (g := 1) (by kernel_rfl) h_ hb⟩)⟩
theorem GOK_drawn {w w' : World} (h : GOK w) (hd : Drawn0 w w') : GOK w' := GOK_below h hd.below
theorem ob_len (A : Option Addr) (n m c d : Nat) : (Value.slice A n c).ownBlock = (Value.slice A m d).ownBlock := by cases A <;> rfl
theorem bc_ {w : World} {g : Nat} {t : TypeId} {cs : Array Value} (h : w.heap[g]? = some (.cells cs t (0, 0))) (i : Nat) : w.cell? ⟨g, i, none⟩ = cs[i]? := blk_cell h i
theorem bN_ {w : World} {g : Nat} {o : Obj} (h : w.heap[g]? = some o) (n : Nat) : (w.drewN n).heap[g]? = some o := blk_drewN h n
theorem bA_ {w : World} {g : Nat} {o : Obj} (h : w.heap[g]? = some o) (o' : Obj) : (w.alloc o').heap[g]? = some o := blk_alloc h o'
theorem bD_ {w : World} {g : Nat} {o : Obj} (h : w.heap[g]? = some o) : w.drew.heap[g]? = some o := blk_drew h
theorem sB_ {w W : World} {g j : Nat} {v : Value} (h : Below w.heap.size w W) (hg : w.heap.size ≤ g) : Below w.heap.size w (W.setCell ⟨g, j, none⟩ v) := below_set h hg
theorem pN_ {B : Nat} {w W : World} (h : Below B w W) (n : Nat) : Below B w (W.drewN n) := pw_below_drewN h n
theorem dB_ {base : Nat} {w W : World} (h : Below base w W) : Below base w W.drew := below_drew1 h
theorem aB_ {w W : World} (h : Below w.heap.size w W) (o : Obj) : Below w.heap.size w (W.alloc o) := below_alloc h o
theorem bB_ {w w1 : World} {g : Nat} {o : Obj} (h : w.heap[g]? = some o) (hb : Below w.heap.size w w1) : w1.heap[g]? = some o := blk_below h hb
theorem bF_ {w : World} {g : Nat} {t : TypeId} {cs : Array Value} (h : w.heap[g]? = some (.cells cs t (0, 0))) (i : Nat) : w.frozen? ⟨g, i, none⟩ = false := blk_frozen h i
theorem rA_ {α : Type} {d : Kd α} {e : Nat} {w : World} {base : Nat} {ok : Nat → Prop} {v : Value} {xs : List α} (h : d.R e w base ok v xs) (o : Obj) : d.R e (w.alloc o) base ok v xs := Kd.R_alloc h o
theorem rN_ {α : Type} {d : Kd α} {e : Nat} {w : World} {base : Nat} {ok : Nat → Prop} {v : Value} {xs : List α} (h : d.R e w base ok v xs) (m : Nat) : d.R e (w.drewN m) base ok v xs := Kd.R_drewN h m
theorem rD_ {α : Type} {d : Kd α} {e : Nat} {w : World} {base : Nat} {ok : Nat → Prop} {v : Value} {xs : List α} (h : d.R e w base ok v xs) : d.R e w.drew base ok v xs := Kd.R_drew h
theorem rF_ {α : Type} {d : Kd α} {e : Nat} {w : World} {base : Nat} {ok : Nat → Prop} {v : Value} {xs : List α} (h : d.R e w base ok v xs) {p : Addr} (hok : ∀ k, ok k → k ≠ p.block) (u : Value) : d.R e (w.setCell p u) base ok v xs := Kd.R_far h hok u

theorem info3 : (Tryz.prog.info? 3).map (fun i => (i.zero, i.size, i.bytes)) = some (some (.int .i64 0), 1, 8) := by kernel_rfl
theorem info5 : (Tryz.prog.info? 5).map (fun i => (i.zero, i.size, i.bytes)) = some (some (.int .u8 0), 1, 1) := by kernel_rfl
theorem info9 : (Tryz.prog.info? 9).map (fun i => (i.zero, i.size, i.bytes)) = some (some (.string ⟨#[]⟩), 1, 16) := by kernel_rfl
theorem info88 : (Tryz.prog.info? 88).map (fun i => (i.zero, i.size, i.bytes)) = some (some (.agg #[(.string ⟨#[]⟩), (.string ⟨#[]⟩)]), 2, 32) := by kernel_rfl
-- the values' own types
structure S88 where
 f0 : ByteArray
 f1 : ByteArray
def z88 : S88 := ⟨(⟨#[]⟩ : ByteArray), (⟨#[]⟩ : ByteArray)⟩
def k88 : Kd S88 := Kd.iso (Kd.pair Kd.string Kd.string) (fun x : S88 => (x.f0, x.f1))
theorem k88_open {w : World} {x : S88} {cs : List Value} (h : k88.K w x cs) : cs = [.string x.f0, .string x.f1] := by
 obtain ⟨_, _, rfl, rfl, rfl⟩ := h; exact rfl
theorem k88_openM {w : World} {base : Nat} {ok : Nat → Prop} {x : S88} {cs : List Value} (h : k88.M w base ok x cs) : cs = [.string x.f0, .string x.f1] := by
 obtain ⟨_, _, rfl, rfl, rfl⟩ := h; exact rfl
theorem k88_mk (w : World) (x : S88)  : k88.K w x [.string x.f0, .string x.f1] := ⟨[.string x.f0], [.string x.f1], rfl, rfl, rfl⟩
theorem k88_mkM (w : World) (base : Nat) (ok : Nat → Prop) (x : S88)  : k88.M w base ok x [.string x.f0, .string x.f1] := ⟨[.string x.f0], [.string x.f1], rfl, rfl, rfl⟩
def rd_T88 (xs : List S88) (i : Int) : S88 := xs.getD i.toNat z88
theorem at_T88 {w : World} {A : Option Addr} {n : Nat} {xs : List S88} (h : Kd.C k88 w A n xs) (i : Int) (h0 : 0 ≤ i) (h1 : i < n) : ∃ ad , A = some ad ∧ w.cell? (ad.add (i.toNat * 2)) = some (.string (rd_T88 xs i).f0) ∧ w.cell? ⟨(ad.add (i.toNat * 2)).block, (ad.add (i.toNat * 2)).off + 1, none⟩ = some (.string (rd_T88 xs i).f1) := by
 obtain ⟨ad, c, e, _, hK, hc0⟩ := Kd.C_get h z88 i h0 h1; have hc : ∀ j u, c[j]? = some u → w.cell? (ad.add (i.toNat * 2 + j)) = some u := hc0; obtain rfl := k88_open hK; exact ⟨ad, e, hc 0 _ rfl, by rw [← add_field _ _ 1 (by omega)]; exact hc 1 _ rfl⟩

end Go.Proofs.YtfncjddolbghlaaGreatDoor.GFnResps
