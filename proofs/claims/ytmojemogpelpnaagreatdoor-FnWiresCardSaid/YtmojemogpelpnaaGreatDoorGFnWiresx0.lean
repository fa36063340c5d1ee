import Derived.Test.YtmojemogpelpnaaGreatDoorProg
import Derived.Below
import Derived.Deep.Draws
import Derived.Deep.AppendLies
import Derived.Maps.AppendAt
import Derived.OwnWalk
import Derived.Laws.BytesArg
import Derived.Laws.MakeOwn
import Derived.Laws.OwnMore
import Derived.Deep.OwnRows
import Derived.Tactics
import Derived.Lib.ConvBytes
import Derived.Laws.Slices
import Derived.WalkKit
import Derived.KernelRfl
import Derived.RowKit3
import Derived.Deep.LoopGhost
import Derived.Deep.QuietTactic
import Derived.BigQuiet
import Derived.WideLaws
import Derived.Deep.DeepCutAuto
import Derived.Deep.CutBlock
import Derived.Deep.RegionHeld3
import Derived.Laws.Rows
import Derived.Lib.AppendStr
import Derived.ArgAppend
import Derived.Laws.IdiomCopy
import Derived.OrdersHeld
import Derived.Laws.BitsLemmas
import Derived.RowKit
import Derived.Test.YtmojemogpelpnaaGreatDoorShelf
import Derived.Test.YtmojemogpelpnaaGreatDoorMStep
import Derived.Test.YtmojemogpelpnaaGreatDoorLenApp
import Derived.Test.YtmojemogpelpnaaGreatDoorSApp
import Derived.Lib.AppendIntMem
import Derived.Lib.LaidTab
import Derived.Stop.LaidErr
import Derived.Lib.ItoaMem
import Derived.Lib.Walk
import Derived.Lib.Hide
import Derived.Laws.Bits64b
import Derived.BigCall
import Derived.BigGuard
import Derived.RegionTactic
import Derived.Lib.AtoiAllCases
import Derived.Shelf.Strconv.ErrVarAll
import Derived.Test.YtmojemogpelpnaaGreatDoorWWords
import Derived.Test.YtmojemogpelpnaaGreatDoorWLast
import Derived.Test.YtmojemogpelpnaaGreatDoorWTab
import Derived.Test.YtmojemogpelpnaaGreatDoorWFour
import Derived.Test.YtmojemogpelpnaaGreatDoorWQPut
import Derived.Test.YtmojemogpelpnaaGreatDoorWApart
import Derived.Test.YtmojemogpelpnaaGreatDoorWArr
import Derived.Test.YtmojemogpelpnaaGreatDoorWZeros
import Derived.Test.YtmojemogpelpnaaGreatDoorWFoot
import Derived.Test.YtmojemogpelpnaaGreatDoorWKept
import Derived.Test.YtmojemogpelpnaaGreatDoorWShare
import Derived.Test.YtmojemogpelpnaaGreatDoorWN
import Derived.Test.YtmojemogpelpnaaGreatDoorWFootNe
import Derived.Test.YtmojemogpelpnaaGreatDoorWAt
import Derived.Test.YtmojemogpelpnaaGreatDoorWEqStruct
import Derived.Test.YtmojemogpelpnaaGreatDoorWRepsOne
import Derived.Test.YtmojemogpelpnaaGreatDoorWInv
import Derived.Test.YtmojemogpelpnaaGreatDoorWInvWords
import Derived.Test.YtmojemogpelpnaaGreatDoorWGuard
import Derived.Test.YtmojemogpelpnaaGreatDoorWNEv
import Derived.Test.YtmojemogpelpnaaGreatDoorWMore
namespace Go.Proofs.YtmojemogpelpnaaGreatDoor.GFnWires
open Go.RowKit Go.Proofs.YtmojemogpelpnaaGreatDoorW.PrintWords Go.Proofs.YtmojemogpelpnaaGreatDoorW.PrintLast Go.Proofs.YtmojemogpelpnaaGreatDoorW.PrintMore
theorem q239_{p:Prop}(h:p:=by(with_reducible repeat(first|apply rA_|apply rN_|apply rD_));exact Kd.R_mono HO4.1 (fun _ hk=>trivial)):p:=h
theorem q238_{p:Prop}(h:p:=by first|(rw[add_block];exact hf1 _ rfl (by omega))|exact hf1 _ rfl (by omega)|exact hf1 ad1 rfl (by omega)):p:=h
theorem q237_{p:Prop}(h:p:=by rw[List.length_drop,List.length_take];have h_:(x1:Int)≤(l0.length:Int):=of_decide_eq_true q6_;omega):p:=h
theorem q236_{p:Prop}(h:p:=by first|(rw[add_block];exact hn701_0)|(show(Addr.add _ _).block≠_;rw[add_block];exact hn701_0)|exact hn701_0):p:=h
theorem q235_{p:Prop}(h:p:=by first|(rw[add_block];exact hn702_0)|(show(Addr.add _ _).block≠_;rw[add_block];exact hn702_0)|exact hn702_0):p:=h
theorem q234_{p:Prop}(h:p:=by first|(rw[add_block];exact hn702_1)|(show(Addr.add _ _).block≠_;rw[add_block];exact hn702_1)|exact hn702_1):p:=h
theorem q233_{p:Prop}(h:p:=by rw[hg];exact Nat.ne_of_gt (blk_lt (g:=gb4) (o:= .cells #[.slice Ao7 t14.length co7,.int .i64 t15] 27 (0,0)) q98_)):p:=h
theorem q232_{p:Prop}(h:p:=by rw[hg];exact Nat.ne_of_lt (blk_lt (g:=gb4) (o:= .cells #[.slice Ao7 t14.length co7,.int .i64 t15] 27 (0,0)) q98_)):p:=h
theorem q231_{p:Prop}(h:p:=by first|rfl|(simp;done)|(simp only[←hji8]<;>(first|rfl|simp))|(simp[*];done)|(simp[empty_ne, *];done)):p:=h
theorem q230_{p:Prop}(h:p:=by first|rfl|(simp;done)|(simp only[←hji11]<;>(first|rfl|simp))|(simp[*];done)|(simp[empty_ne, *];done)):p:=h
theorem q229_{p:Prop}(h:p:=by first|rfl|(simp;done)|(simp only[←hji15]<;>(first|rfl|simp))|(simp[*];done)|(simp[empty_ne, *];done)):p:=h
theorem q228_{p:Prop}(h:p:=by first|rfl|(simp;done)|(simp only[←hji23]<;>(first|rfl|simp))|(simp[*];done)|(simp[empty_ne, *];done)):p:=h
theorem q227_{p:Prop}(h:p:=by(with_reducible repeat(first|refine bN_ ?_ _|refine bD_ ?_|refine bA_ ?_ _|refine blk_far ?_ NB1_0.1 _));exact BK1.1):p:=h
theorem q226_{p:Prop}(h:p:=by(with_reducible repeat(first|refine bN_ ?_ _|refine bD_ ?_|refine bA_ ?_ _|refine blk_far ?_ NB1_5.1 _));exact BK1.1):p:=h
theorem q225_{p:Prop}(h:p:=by(with_reducible repeat(first|refine bN_ ?_ _|refine bD_ ?_|refine bA_ ?_ _|refine blk_far ?_ NB2_5.1 _));exact BK2.1):p:=h
theorem q224_{p:Prop}(h:p:=by(with_reducible repeat(first|refine bN_ ?_ _|refine bD_ ?_|refine bA_ ?_ _|refine blk_far ?_ NB3_5.1 _));exact BK3.1):p:=h
theorem q223_{p:Prop}(h:p:=by(with_reducible repeat(first|refine bN_ ?_ _|refine bD_ ?_|refine bA_ ?_ _|refine blk_far ?_ NB4_5.1 _));exact BK4.1):p:=h
theorem q222_{p:Prop}(h:p:=by have h_:=c3;simp only[ByteArray.size_append]at h_;exact h_):p:=h
theorem q221_{p:Prop}(h:p:=by have h_:=c4;simp only[ByteArray.size_append]at h_;exact h_):p:=h
theorem q220_{p:Prop}(h:p:=by rw[List.length_drop,List.length_take];have h_:((wrap64 (x1+4)):Int)≤(l0.length:Int):=of_decide_eq_true q6_;omega):p:=h
theorem q219_{p:Prop}(h:p:=by exact(by exact(fun k_ hk=>(.inr (Nat.le_trans (below_size q2_) hk))))):p:=h
theorem q218_{p:Prop}(h:p:=by repeat(first|(with_reducible first|exact HB.1|apply aB_|apply pN_|apply dB_|refine sB_ ?_ (LimS61_6.ge HI0.1))|exact HB.1)):p:=h
theorem q217_{p:Prop}(h:p:=by first|simpa using c2|(simp at c2⊢;omega)):p:=h
theorem q216_{p:Prop}(h:p:=by(with_reducible repeat(first|apply rA_|apply rN_|apply rD_));exact Kd.R_mono (rG_ (Kd.R_types HO4.1 BK3.1 (by decide))) (fun _ hk=>trivial)):p:=h
theorem q215_{p:Prop}(h:p:=by have:=HJ1.1;first|omega|exact Nat.le_refl _):p:=h
theorem q214_{p:Prop}(h:p:=by(with_reducible repeat(first|apply rA_|apply rN_|apply rD_));exact Kd.R_mono (rG_ (rG_ (Kd.R_types HO4.1 BK1.1 (by decide)))) (fun _ hk=>trivial)):p:=h
theorem q213_{p:Prop}(h:p:=by(with_reducible repeat(first|apply rA_|apply rN_|apply rD_));exact Kd.R_mono (rG_ (rG_ (Kd.R_types HO3.1 BK1.1 (by decide)))) (fun _ hk=>hk.1)):p:=h
theorem q212_{p:Prop}(h:p:=by refine IsF107.out (b:=gb1) ?_;repeat(first|(with_reducible first|exact HI0.1|apply IsF107.drewN|refine IsF107.far ?_ NB0_1.1 _ _)|exact HI0.1)):p:=h
theorem q211_{p:Prop}(h:p:=by(with_reducible repeat(first|apply rA_|apply rN_|apply rD_));exact(Kd.R_mono (rG_ (rG_ (Kd.R_types HO1.1 BK3.1 (by decide)))) (fun _ h_=>h_.1))):p:=h
theorem q210_{p:Prop}(h:p:=by(with_reducible repeat(first|apply rA_|apply rN_|apply rD_));exact(Kd.R_mono (rG_ (rG_ (Kd.R_types HO2.1 BK1.1 (by decide)))) (fun _ h_=>h_.1))):p:=h
theorem q209_{p:Prop}(h:p:=by rw[hg];exact Nat.ne_of_gt (blk_lt (g:=gb1) (o:= .cells #[.string (⟨#[]⟩:BA),.string (⟨#[]⟩:BA),.slice none 0 0,.string (⟨#[]⟩:BA)] 50 (0,0)) q10_)):p:=h
theorem q208_{p:Prop}(h:p:=by rw[hg];exact Nat.ne_of_lt (blk_lt (g:=gb1) (o:= .cells #[.string (⟨#[]⟩:BA),.string (⟨#[]⟩:BA),.slice none 0 0,.string (⟨#[]⟩:BA)] 50 (0,0)) q10_)):p:=h
theorem q207_{p:Prop}(h:p:=by repeat(first|exact(Kd.R_reads' HO5.1).2.2|(with_reducible refine Kd.C_alloc ?_ _)|(with_reducible refine Kd.C_drewN ?_ _)|(with_reducible refine Kd.C_drew ?_))):p:=h
theorem q206_{p:Prop}(h:p:=by(with_reducible repeat(first|apply rA_|apply rN_|apply rD_));exact HSz2_2):p:=h
theorem q205_{p:Prop}(h:p:=by(with_reducible repeat(first|apply rA_|apply rN_|apply rD_));exact HSz9_6):p:=h
theorem q204_{p:Prop}(h:p:=by(with_reducible repeat(first|apply rA_|apply rN_|apply rD_));exact HSl58_2):p:=h
theorem q203_{p:Prop}(h:p:=by(with_reducible repeat(first|apply rA_|apply rN_|apply rD_));exact HSz13_6):p:=h
theorem q202_{p:Prop}(h:p:=by(with_reducible repeat(first|apply rA_|apply rN_|apply rD_));exact(Kd.R_mono (rG_ (rG_ (rG_ (rG_ (Kd.R_types HO1.1 BK1.1 (by decide)))))) (fun _ h_=>h_.1))):p:=h
theorem q201_{p:Prop}(h:p:=by exact(by repeat(first|exact(Kd.N_reads' HO1.1).2.2|(with_reducible refine Kd.C_alloc ?_ _)|(with_reducible refine Kd.C_drewN ?_ _)|(with_reducible refine Kd.C_drew ?_)))):p:=h
theorem q200_{p:Prop}(h:p:=by exact(by repeat(first|exact(Kd.N_reads' HO6.1).2.2|(with_reducible refine Kd.C_alloc ?_ _)|(with_reducible refine Kd.C_drewN ?_ _)|(with_reducible refine Kd.C_drew ?_)))):p:=h
theorem q199_{p:Prop}(h:p:=by exact(by repeat(first|exact(Kd.C_below HR1_2.1 HB.1)|(with_reducible refine Kd.C_alloc ?_ _)|(with_reducible refine Kd.C_drewN ?_ _)|(with_reducible refine Kd.C_drew ?_)))):p:=h
theorem q198_{p:Prop}(h:p:=by(with_reducible repeat(first|apply Kd.V_alloc|apply Kd.V_drewN|apply Kd.V_drew));exact Kd.V_mono HO3.1 (fun _ hk=>⟨⟨hk.1.1,⟨hk.1.2.2.1,⟨hk.2,hk.1.2.2.2⟩⟩⟩,hk.1.2.1⟩)):p:=h
theorem q197_{p:Prop}(h:p:=by(with_reducible repeat(first|apply Kd.V_alloc|apply Kd.V_drewN|apply Kd.V_drew));exact Kd.V_mono HO3.1 (fun _ hk=>⟨⟨hk.1.1.1,⟨hk.1.1.2.1,⟨hk.1.2,hk.1.1.2.2⟩⟩⟩,hk.2⟩)):p:=h
theorem q196_{p:Prop}(h:p:=by(with_reducible repeat(first|apply Kd.N_alloc|apply Kd.N_drewN|apply Kd.N_drew));first|exact HO4.1|exact Kd.R_mono HO4.1 (fun k_ h_ e_=>h_ (e_.trans (ob_len _ _ _ _ _)))):p:=h
theorem q195_{p:Prop}(h:p:=by(with_reducible repeat(first|apply Kd.S_alloc|apply Kd.S_drewN|apply Kd.S_drew));first|exact HO4.1|exact Kd.R_mono HO4.1 (fun k_ h_ e_=>h_ (e_.trans (ob_len _ _ _ _ _)))):p:=h
theorem q194_{p:Prop}(h:p:=by exact(by exact((Kd.R_nil _ _ _ _ (fun _=>True))))):p:=h
theorem q193_{p:Prop}(h:p:=by(try simp only[hl3_1]);(with_reducible repeat(first|apply rA_|apply rN_|apply rD_));first|exact HO2.1|exact Kd.R_mono HO2.1 (fun k_ h_ e_=>h_ (e_.trans (ob_len _ _ _ _ _)))):p:=h
theorem q192_{p:Prop}(h:p:=by first|exact Nat.le_refl _|exact HW0.1):p:=h
theorem q191_{p:Prop}(h:p:=by rw[hg];exact Nat.ne_of_gt (IsS61.lt (show IsS61 w0 _ g s0_0 s0_1 s0_2 s0_3 s0_4 s0_5 s0_6 from q13_))):p:=h
theorem q190_{p:Prop}(h:p:=by rw[hg];exact Nat.ne_of_lt (IsS61.lt (show IsS61 w0 _ g s0_0 s0_1 s0_2 s0_3 s0_4 s0_5 s0_6 from q13_))):p:=h
theorem q189_{p:Prop}(h:p:=by(with_reducible repeat(first|refine bN_ ?_ _|refine bD_ ?_|refine bA_ ?_ _));refine blk_far ?_ NB2_3.1 _;(with_reducible repeat(first|refine bN_ ?_ _|refine bD_ ?_|refine bA_ ?_ _));exact BK2.1):p:=h
theorem q188_{p:Prop}(h:p:=by(with_reducible repeat(first|apply rA_|apply rN_|apply rD_));exact Kd.R_mono HO1.1 (fun _ hk=>hk.2)):p:=h
theorem q187_{p:Prop}(h:p:=by(with_reducible repeat(first|apply rA_|apply rN_|apply rD_));exact Kd.R_mono HO5.1 (fun _ hk=>hk.2)):p:=h
theorem q186_{p:Prop}(h:p:=by exact(by exact(by(with_reducible repeat(first|apply Kd.N_alloc|apply Kd.N_drewN|apply Kd.N_drew));exact HO4.1))):p:=h
theorem q185_{p:Prop}(h:p:=by(with_reducible repeat(first|apply rA_|apply rN_|apply rD_));exact HO7.1):p:=h
theorem q184_{p:Prop}(h:p:=by rw[hg];exact Nat.ne_of_gt (blk_lt (g:=gb3) (o:= .cells #[.slice Ao6 t11.length co6,.int .i64 t12] 27 (0,0)) q45_)):p:=h
theorem q183_{p:Prop}(h:p:=by rw[hg];exact Nat.ne_of_lt (blk_lt (g:=gb3) (o:= .cells #[.slice Ao6 t11.length co6,.int .i64 t12] 27 (0,0)) q45_)):p:=h
theorem q182_{p:Prop}(h:p:=by(with_reducible repeat(first|apply rA_|apply rN_|apply rD_));exact HSz2_6):p:=h
theorem q181_{p:Prop}(h:p:=by(with_reducible repeat(first|refine bN_ ?_ _|refine bD_ ?_|refine bA_ ?_ _|refine blk_far ?_ NB2_3.1 _));exact BK2.1):p:=h
theorem q180_{p:Prop}(h:p:=by(with_reducible repeat(first|refine bN_ ?_ _|refine bD_ ?_|refine bA_ ?_ _|refine blk_far ?_ NB1_2.1 _));exact BK1.1):p:=h
theorem q179_{p:Prop}(h:p:=by(with_reducible repeat(first|refine bN_ ?_ _|refine bD_ ?_|refine bA_ ?_ _|refine blk_far ?_ NB1_4.1 _));exact BK1.1):p:=h
theorem q178_{p:Prop}(h:p:=by(with_reducible repeat(first|refine bN_ ?_ _|refine bD_ ?_|refine bA_ ?_ _|refine blk_far ?_ NB2_4.1 _));exact BK2.1):p:=h
theorem q177_{p:Prop}(h:p:=by(with_reducible repeat(first|refine bN_ ?_ _|refine bD_ ?_|refine bA_ ?_ _|refine blk_far ?_ NB3_4.1 _));exact BK3.1):p:=h
theorem q176_{p:Prop}(h:p:=by exact(by exact(fun k_ hk=>Kd.fresh' (Kd.R_lt q19_) k_ hk))):p:=h
theorem q175_{p:Prop}(h:p:=by first|exact Kd.S_nil _ _ _ _ _|exact Kd.N_nil _ _ _ _ _|exact Kd.V_nil _ _ _ _ _|exact Kd.Q_nil _ _ _ _ _|exact Kd.R_nil _ _ _ _ _):p:=h
theorem q174_{p:Prop}(h:p:=by exact(by exact HC1.1)):p:=h
theorem q173_{p:Prop}(h:p:=by repeat(first|exact q50_|(with_reducible refine Kd.C_alloc ?_ _)|(with_reducible refine Kd.C_drewN ?_ _)|(with_reducible refine Kd.C_drew ?_))):p:=h
theorem q172_{p:Prop}(h:p:=by(with_reducible repeat(first|apply Kd.S_alloc|apply Kd.S_drewN|apply Kd.S_drew));exact HO1.1):p:=h
theorem q171_{p:Prop}(h:p:=by(with_reducible repeat(first|apply Kd.S_alloc|apply Kd.S_drewN|apply Kd.S_drew));exact HO5.1):p:=h
theorem q170_{p:Prop}(h:p:=by exact(by repeat(first|exact q39_|(with_reducible refine Kd.C_alloc ?_ _)|(with_reducible refine Kd.C_drewN ?_ _)|(with_reducible refine Kd.C_drew ?_)))):p:=h
theorem q169_{p:Prop}(h:p:=by(with_reducible repeat(first|apply rA_|apply rN_|apply rD_));exact(Kd.R_mono (rG_ (rG_ (Kd.R_types HO2.1 BK3.1 (by decide)))) (fun _ h_=>h_.1))):p:=h
theorem q168_{p:Prop}(h:p:=by(with_reducible repeat(first|apply rA_|apply rN_|apply rD_));exact(Kd.R_mono (rG_ (rG_ (Kd.R_types HO2.1 BK4.1 (by decide)))) (fun _ h_=>h_.1))):p:=h
theorem q167_{p:Prop}(h:p:=by(with_reducible repeat(first|apply rA_|apply rN_|apply rD_));exact(Kd.R_mono (rG_ (rG_ (Kd.R_types HO2.1 BK5.1 (by decide)))) (fun _ h_=>h_.1))):p:=h
theorem q166_{p:Prop}(h:p:=by(with_reducible repeat(first|apply rA_|apply rN_|apply rD_));exact(Kd.R_mono (rG_ (rG_ (Kd.R_types HO4.1 BK3.1 (by decide)))) (fun _ h_=>h_.1))):p:=h
theorem q165_{p:Prop}(h:p:=by(with_reducible repeat(first|apply rA_|apply rN_|apply rD_));exact(Kd.R_mono (rG_ (rG_ (Kd.R_types HO4.1 BK4.1 (by decide)))) (fun _ h_=>h_.1))):p:=h
theorem q164_{p:Prop}(h:p:=by(with_reducible repeat(first|apply rA_|apply rN_|apply rD_));exact(Kd.R_mono (rG_ (rG_ (Kd.R_types HO4.1 BK5.1 (by decide)))) (fun _ h_=>h_.1))):p:=h
theorem q163_{p:Prop}(h:p:=by(with_reducible repeat(first|apply rA_|apply rN_|apply rD_));exact(Kd.R_mono (rG_ (rG_ (Kd.R_types HO5.1 BK3.1 (by decide)))) (fun _ h_=>h_.1))):p:=h
theorem q162_{p:Prop}(h:p:=by(with_reducible repeat(first|apply rA_|apply rN_|apply rD_));exact(Kd.R_mono (rG_ (rG_ (Kd.R_types HO5.1 BK4.1 (by decide)))) (fun _ h_=>h_.1))):p:=h
theorem q161_{p:Prop}(h:p:=by(with_reducible repeat(first|apply rA_|apply rN_|apply rD_));exact(Kd.R_mono (rG_ (rG_ (Kd.R_types HO5.1 BK5.1 (by decide)))) (fun _ h_=>h_.1))):p:=h
theorem q160_{p:Prop}(h:p:=by(with_reducible repeat(first|apply rA_|apply rN_|apply rD_));exact(Kd.R_mono (rG_ (rG_ (Kd.R_types HO8.1 BK3.1 (by decide)))) (fun _ h_=>h_.1))):p:=h
theorem q159_{p:Prop}(h:p:=by(with_reducible repeat(first|apply rA_|apply rN_|apply rD_));exact(Kd.R_mono (rG_ (rG_ (Kd.R_types HO8.1 BK4.1 (by decide)))) (fun _ h_=>h_.1))):p:=h
theorem q158_{p:Prop}(h:p:=by(with_reducible repeat(first|apply rA_|apply rN_|apply rD_));exact(Kd.R_mono (rG_ (rG_ (Kd.R_types HO8.1 BK5.1 (by decide)))) (fun _ h_=>h_.1))):p:=h
theorem q157_{p:Prop}(h:p:=by(with_reducible repeat(first|apply rA_|apply rN_|apply rD_));exact(Kd.R_mono (rG_ (rG_ (Kd.R_types HO12.1 BK5.1 (by decide)))) (fun _ h_=>h_.1))):p:=h
theorem q156_{p:Prop}(h:p:=by rw[hg];exact(keep_size (w:=w) (g:=g) (row:=none) q4_)):p:=h
theorem q155_{p:Prop}(h:p:=by exact(keep_size (w:=w) (g:=g) (row:=none) q8_)):p:=h
theorem q154_{p:Prop}(h:p:=by(with_reducible repeat(first|apply rA_|apply rN_|apply rD_));first|exact HO4.1|exact Kd.R_mono HO4.1 (fun k_ h_ e_=>h_ (e_.trans (ob_len _ _ _ _ _)))):p:=h
theorem q153_{p:Prop}(h:p:=by repeat(first|exact(Kd.R_reads' HO1.1).2.2|(with_reducible refine Kd.C_alloc ?_ _)|(with_reducible refine Kd.C_drewN ?_ _)|(with_reducible refine Kd.C_drew ?_))):p:=h
theorem q152_{p:Prop}(h:p:=by repeat(first|exact(Kd.R_reads' HO3.1).2.2|(with_reducible refine Kd.C_alloc ?_ _)|(with_reducible refine Kd.C_drewN ?_ _)|(with_reducible refine Kd.C_drew ?_))):p:=h
theorem q151_{p:Prop}(h:p:=by(try simp only[List.map_toArray,List.map_cons,List.map_nil]);first|done|(simp only[hji2];rfl)|rfl|(simp only[List.length_drop,List.length_take];rfl)):p:=h
theorem q150_{p:Prop}(h:p:=by rw[hg];exact(KeptG.size (w:=w) (g:=g) (TS:=[83,3]) q15_)):p:=h
theorem q149_{p:Prop}(h:p:=by exact(by exact(below_size q2_))):p:=h
theorem q148_{p:Prop}(h:p:=by exact(by exact(by(with_reducible repeat(first|apply Kd.S_alloc|apply Kd.S_drewN|apply Kd.S_drew));exact Kd.S_mono HO4.1 (fun k_ hk=>⟨hk.1,fun e_=>hk.2 e_⟩)))):p:=h
theorem q147_{p:Prop}(h:p:=by(try simp only[List.map_toArray,List.map_cons,List.map_nil]);first|done|(simp only[hji12];rfl)|rfl|(simp only[List.length_drop,List.length_take];rfl)):p:=h
theorem q146_{p:Prop}(h:p:=by(with_reducible repeat(first|apply Kd.N_alloc|apply Kd.N_drewN|apply Kd.N_drew));exact(Kd.N_mono (Kd.N_far (p:=⟨gb1,1,none⟩) (Kd.N_far (p:=⟨gb1,0,none⟩) (Kd.N_mono HO1.1 (fun k_ hk=>(⟨hk,hk.2⟩:_∧k_≠gb1))) (fun _ hk=>hk.2) (.slice Ao2 t3.length co2)) (fun _ hk=>hk.2) (.int .i64 t4)) (fun _ h_=>h_.1))):p:=h
theorem q145_{p:Prop}(h:p:=by(with_reducible repeat(first|apply Kd.N_alloc|apply Kd.N_drewN|apply Kd.N_drew));exact(Kd.N_mono (Kd.N_far (p:=⟨gb4,1,none⟩) (Kd.N_far (p:=⟨gb4,0,none⟩) (Kd.N_mono HO1.1 (fun k_ hk=>(⟨hk,hk.2⟩:_∧k_≠gb4))) (fun _ hk=>hk.2) (.slice Ao7 t14.length co7)) (fun _ hk=>hk.2) (.int .i64 t15)) (fun _ h_=>h_.1))):p:=h
theorem q144_{p:Prop}(h:p:=by(with_reducible repeat(first|apply Kd.N_alloc|apply Kd.N_drewN|apply Kd.N_drew));exact(Kd.N_mono (Kd.N_far (p:=⟨gb4,1,none⟩) (Kd.N_far (p:=⟨gb4,0,none⟩) (Kd.N_mono HO3.1 (fun k_ hk=>(⟨hk,hk.2⟩:_∧k_≠gb4))) (fun _ hk=>hk.2) (.slice Ao7 t14.length co7)) (fun _ hk=>hk.2) (.int .i64 t15)) (fun _ h_=>h_.1))):p:=h
theorem q143_{p:Prop}(h:p:=by(with_reducible repeat(first|apply Kd.N_alloc|apply Kd.N_drewN|apply Kd.N_drew));exact(Kd.N_mono (Kd.N_far (p:=⟨gb4,1,none⟩) (Kd.N_far (p:=⟨gb4,0,none⟩) (Kd.N_mono HO6.1 (fun k_ hk=>(⟨hk,hk.2⟩:_∧k_≠gb4))) (fun _ hk=>hk.2) (.slice Ao7 t14.length co7)) (fun _ hk=>hk.2) (.int .i64 t15)) (fun _ h_=>h_.1))):p:=h
theorem q142_{p:Prop}(h:p:=by(with_reducible repeat(first|apply Kd.N_alloc|apply Kd.N_drewN|apply Kd.N_drew));exact(Kd.N_mono (Kd.N_far (p:=⟨gb4,1,none⟩) (Kd.N_far (p:=⟨gb4,0,none⟩) (Kd.N_mono HO7.1 (fun k_ hk=>(⟨hk,hk.2⟩:_∧k_≠gb4))) (fun _ hk=>hk.2) (.slice Ao7 t14.length co7)) (fun _ hk=>hk.2) (.int .i64 t15)) (fun _ h_=>h_.1))):p:=h
theorem q141_{p:Prop}(h:p:=by(with_reducible repeat(first|apply Kd.N_alloc|apply Kd.N_drewN|apply Kd.N_drew));exact(Kd.N_mono (Kd.N_far (p:=⟨gb4,1,none⟩) (Kd.N_far (p:=⟨gb4,0,none⟩) (Kd.N_mono HO9.1 (fun k_ hk=>(⟨hk,hk.2⟩:_∧k_≠gb4))) (fun _ hk=>hk.2) (.slice Ao7 t14.length co7)) (fun _ hk=>hk.2) (.int .i64 t15)) (fun _ h_=>h_.1))):p:=h
theorem q140_{p:Prop}(h:p:=by(with_reducible repeat(first|apply Kd.N_alloc|apply Kd.N_drewN|apply Kd.N_drew));exact(Kd.N_mono (Kd.N_far (p:=⟨gb5,1,none⟩) (Kd.N_far (p:=⟨gb5,0,none⟩) (Kd.N_mono HO1.1 (fun k_ hk=>(⟨hk,hk.2⟩:_∧k_≠gb5))) (fun _ hk=>hk.2) (.slice Ao9 t17.length co9)) (fun _ hk=>hk.2) (.int .i64 t18)) (fun _ h_=>h_.1))):p:=h
theorem q139_{p:Prop}(h:p:=by(with_reducible repeat(first|apply Kd.N_alloc|apply Kd.N_drewN|apply Kd.N_drew));exact(Kd.N_mono (Kd.N_far (p:=⟨gb5,1,none⟩) (Kd.N_far (p:=⟨gb5,0,none⟩) (Kd.N_mono HO3.1 (fun k_ hk=>(⟨hk,hk.2⟩:_∧k_≠gb5))) (fun _ hk=>hk.2) (.slice Ao9 t17.length co9)) (fun _ hk=>hk.2) (.int .i64 t18)) (fun _ h_=>h_.1))):p:=h
theorem q138_{p:Prop}(h:p:=by(with_reducible repeat(first|apply Kd.N_alloc|apply Kd.N_drewN|apply Kd.N_drew));exact(Kd.N_mono (Kd.N_far (p:=⟨gb5,1,none⟩) (Kd.N_far (p:=⟨gb5,0,none⟩) (Kd.N_mono HO6.1 (fun k_ hk=>(⟨hk,hk.2⟩:_∧k_≠gb5))) (fun _ hk=>hk.2) (.slice Ao9 t17.length co9)) (fun _ hk=>hk.2) (.int .i64 t18)) (fun _ h_=>h_.1))):p:=h
theorem q137_{p:Prop}(h:p:=by(with_reducible repeat(first|apply Kd.N_alloc|apply Kd.N_drewN|apply Kd.N_drew));exact(Kd.N_mono (Kd.N_far (p:=⟨gb5,1,none⟩) (Kd.N_far (p:=⟨gb5,0,none⟩) (Kd.N_mono HO7.1 (fun k_ hk=>(⟨hk,hk.2⟩:_∧k_≠gb5))) (fun _ hk=>hk.2) (.slice Ao9 t17.length co9)) (fun _ hk=>hk.2) (.int .i64 t18)) (fun _ h_=>h_.1))):p:=h
theorem q136_{p:Prop}(h:p:=by(with_reducible repeat(first|apply Kd.N_alloc|apply Kd.N_drewN|apply Kd.N_drew));exact(Kd.N_mono (Kd.N_far (p:=⟨gb5,1,none⟩) (Kd.N_far (p:=⟨gb5,0,none⟩) (Kd.N_mono HO9.1 (fun k_ hk=>(⟨hk,hk.2⟩:_∧k_≠gb5))) (fun _ hk=>hk.2) (.slice Ao9 t17.length co9)) (fun _ hk=>hk.2) (.int .i64 t18)) (fun _ h_=>h_.1))):p:=h
theorem q135_{p:Prop}(h:p:=by(with_reducible repeat(first|apply Kd.N_alloc|apply Kd.N_drewN|apply Kd.N_drew));exact(Kd.N_mono (Kd.N_far (p:=⟨gb5,1,none⟩) (Kd.N_far (p:=⟨gb5,0,none⟩) (Kd.N_mono HO13.1 (fun k_ hk=>(⟨hk,hk.2⟩:_∧k_≠gb5))) (fun _ hk=>hk.2) (.slice Ao9 t17.length co9)) (fun _ hk=>hk.2) (.int .i64 t18)) (fun _ h_=>h_.1))):p:=h
theorem q134_{p:Prop}(h:p:=by exact(by exact HC0_2.1)):p:=h
theorem q133_{p:Prop}(h:p:=by first|rfl|(simp[errW_none,errW_some]<;>rfl)|(simp only[←hji2];first|rfl|(simp[errW_none,errW_some]<;>rfl))|(simp[*,errW_none,errW_some]<;>rfl)):p:=h
theorem q132_{p:Prop}(h:p:=by repeat(first|(with_reducible first|exact HI403.1|apply IsS55.alloc|apply IsS55.drewN|apply IsS55.drew|apply IsS55.set_1|apply IsS55.set_2)|exact HI403.1)):p:=h
theorem q131_{p:Prop}(h:p:=by rw[hg];exact(below_size q17_)):p:=h
theorem q130_{p:Prop}(h:p:=by have:=HK1.1;have:=HJ1.1;omega):p:=h
theorem q129_{p:Prop}(h:p:=by(with_reducible repeat(first|apply rA_|apply rN_|apply rD_));exact Kd.R_mono HO5.1 (fun _ hk=>⟨trivial,hk⟩)):p:=h
theorem q128_{p:Prop}(h:p:=by rw[hg];exact Nat.ne_of_gt (blk_lt (g:=gb2) (o:= .cells #[.slice Ao4 t7.length co4,.int .i64 t8] 27 (0,0)) q28_)):p:=h
theorem q127_{p:Prop}(h:p:=by rw[hg];exact Nat.ne_of_lt (blk_lt (g:=gb2) (o:= .cells #[.slice Ao4 t7.length co4,.int .i64 t8] 27 (0,0)) q28_)):p:=h
theorem q126_{p:Prop}(h:p:=by exact(by(with_reducible repeat(first|apply rA_|apply rN_|apply rD_));exact Kd.R_mono HO9.1 (fun _ hk=>hk.2))):p:=h
theorem q125_{p:Prop}(h:p:=by repeat(first|(with_reducible first|exact HB.1|apply aB_|apply pN_|apply dB_|refine sB_ ?_ (IsS27.ge HI596.1)|refine sB_ ?_ GE1.1|refine sB_ ?_ GE2.1)|exact HB.1)):p:=h
theorem q124_{p:Prop}(h:p:=by(with_reducible repeat(first|refine bN_ ?_ _|refine bD_ ?_|refine bA_ ?_ _|refine blk_far ?_ NB1_3.1 _));exact BK1.1):p:=h
theorem q123_{p:Prop}(h:p:=by rw[Ny5.1];exact Kd.C_take (m:=(t21:Int).toNat) ((Kd.R_reads' (Kd.R_after (ok:=(fun _=>True)) q19_ hg hat)).2.2) KL46.1):p:=h
theorem q122_{p:Prop}(h:p:=by simp only[putAll,Act.put,sI,sZ,sS]):p:=h
theorem q121_{p:Prop}(h:p:=by(with_reducible repeat(first|apply Kd.N_alloc|apply Kd.N_drewN|apply Kd.N_drew));exact HO15.1):p:=h
theorem q120_{p:Prop}(h:p:=by(with_reducible repeat(first|refine bN_ ?_ _|refine bD_ ?_|refine bA_ ?_ _));refine blk_far ?_ NB1_3.1 _;(with_reducible repeat(first|refine bN_ ?_ _|refine bD_ ?_|refine bA_ ?_ _));exact BK1.1):p:=h
theorem q119_{p:Prop}(h:p:=by rw[hg];exact Nat.ne_of_gt (blk_lt (g:=gb2) (o:= .cells #[.slice none 0 0,.int .i64 0] 27 (0,0)) q28_)):p:=h
theorem q118_{p:Prop}(h:p:=by rw[hg];exact Nat.ne_of_lt (blk_lt (g:=gb2) (o:= .cells #[.slice none 0 0,.int .i64 0] 27 (0,0)) q28_)):p:=h
theorem q117_{p:Prop}(h:p:=by(with_reducible repeat(first|apply rA_|apply rN_|apply rD_));exact Kd.R_mono HO2.1 (fun _ hk=>hk.2)):p:=h
theorem q116_{p:Prop}(h:p:=by rw[hg];exact Nat.ne_of_gt (blk_lt (g:=gb1) (o:= .cells #[.string a0_0,.string a0_1,.slice A0_2 l0_2.length c0_2,.string a0_3] 50 (0,0)) q10_)):p:=h
theorem q115_{p:Prop}(h:p:=by rw[hg];exact Nat.ne_of_lt (blk_lt (g:=gb1) (o:= .cells #[.string a0_0,.string a0_1,.slice A0_2 l0_2.length c0_2,.string a0_3] 50 (0,0)) q10_)):p:=h
theorem q114_{p:Prop}(h:p:=by exact(by exact(fun k_ hk=>(Nat.le_trans (keep_size (w:=w) (g:=g) (row:=none) q4_) hk)))):p:=h
theorem q113_{p:Prop}(h:p:=by(with_reducible repeat(first|apply rA_|apply rN_|apply rD_));exact(Kd.R_mono (rG_ (rG_ (Kd.R_types HO10.1 BK4.1 (by decide)))) (fun _ h_=>h_.1))):p:=h
theorem q112_{p:Prop}(h:p:=by(with_reducible repeat(first|apply rA_|apply rN_|apply rD_));exact(Kd.R_mono (rG_ (rG_ (Kd.R_types HO10.1 BK5.1 (by decide)))) (fun _ h_=>h_.1))):p:=h
theorem q111_{p:Prop}(h:p:=by exact(by exact(keep_size (w:=w) (g:=g) (row:=none) q4_))):p:=h
theorem q110_{p:Prop}(h:p:=by rw[hg];exact Nat.ne_of_gt (blk_lt (g:=gb1) (o:= .cells #[.slice Ao2 t3.length co2,.int .i64 t4] 27 (0,0)) q10_)):p:=h
theorem q109_{p:Prop}(h:p:=by rw[hg];exact Nat.ne_of_lt (blk_lt (g:=gb1) (o:= .cells #[.slice Ao2 t3.length co2,.int .i64 t4] 27 (0,0)) q10_)):p:=h
theorem q108_{p:Prop}(h:p:=by(with_reducible repeat(first|apply rA_|apply rN_|apply rD_));exact HO9.1):p:=h
theorem q107_{p:Prop}(h:p:=by(with_reducible repeat(first|apply rA_|apply rN_|apply rD_));exact HO14.1):p:=h
theorem q106_{p:Prop}(h:p:=by repeat(first|exact(Kd.R_reads' HO4.1).2.2|(with_reducible refine Kd.C_alloc ?_ _)|(with_reducible refine Kd.C_drewN ?_ _)|(with_reducible refine Kd.C_drew ?_))):p:=h
theorem q105_{p:Prop}(h:p:=by(with_reducible repeat(first|apply Kd.S_alloc|apply Kd.S_drewN|apply Kd.S_drew));exact HO3.1):p:=h
theorem q104_{p:Prop}(h:p:=by(with_reducible repeat(first|apply Kd.N_alloc|apply Kd.N_drewN|apply Kd.N_drew));exact HO13.1):p:=h
theorem q103_{p:Prop}(h:p:=by repeat(first|(with_reducible first|exact HBW.1|apply aB_|apply pN_|apply dB_)|exact HBW.1)):p:=h
theorem q102_{p:Prop}(h:p:=by rw[hg];exact(below_size q7_)):p:=h
theorem q101_{p:Prop}(h:p:=by repeat(first|(with_reducible first|exact HB.1|apply aB_|apply pN_|apply dB_|refine sB_ ?_ (IsSQ27.ge HI0.1))|exact HB.1)):p:=h
theorem q100_{p:Prop}(h:p:=by repeat(first|(with_reducible first|exact HB.1|apply aB_|apply pN_|apply dB_|refine sB_ ?_ (IsS55.ge HI403.1))|exact HB.1)):p:=h
theorem q99_{p:Prop}(h:p:=by(with_reducible repeat(first|apply Kd.V_alloc|apply Kd.V_drewN|apply Kd.V_drew));first|exact HO3.1|exact Kd.R_mono HO3.1 (fun k_ h_ e_=>h_ (e_.trans (ob_len _ _ _ _ _)))):p:=h
theorem q98_{p:Prop}(h:p:=by(with_reducible repeat(first|refine bN_ ?_ _|refine bD_ ?_|refine bA_ ?_ _));exact BK4.1):p:=h
theorem q97_{p:Prop}(h:p:=by(with_reducible repeat(first|apply rA_|apply rN_|apply rD_));exact HO8.1):p:=h
theorem q96_{p:Prop}(h:p:=by(with_reducible repeat(first|apply rA_|apply rN_|apply rD_));first|exact HO3.1|exact Kd.R_mono HO3.1 (fun k_ h_ e_=>h_ (e_.trans (ob_len _ _ _ _ _)))):p:=h
theorem q95_{p:Prop}(h:p:=by exact(by exact(Reps.none _ _))):p:=h
theorem q94_{p:Prop}(h:p:=by exact(by first|(with_reducible exact hG)|(refine GOK_below hG ?_;(repeat(first|(with_reducible first|exact HB.1|apply aB_|apply pN_|apply dB_|refine sB_ ?_ GE1.1|refine sB_ ?_ GE2.1)|exact HB.1));done)|(refine GOK_drawn hG ?_;(repeat(first|exact Drawn0.refl _|apply Drawn0.step));done)|exact hG)):p:=h
theorem q93_{p:Prop}(h:p:=by rw[Ny9.1,KA47.1];exact Kd.C_drop (m:=(t21:Int).toNat) (c:=co4) ((Kd.R_reads' (Kd.R_after (ok:=(fun _=>True)) q19_ hg hat)).2.2) KL47.1 ((Kd.R_reads' (Kd.R_after (ok:=(fun _=>True)) q19_ hg hat)).2.1)):p:=h
theorem q92_{p:Prop}(h:p:=by first|omega|exact Nat.le_refl _):p:=h
theorem q91_{p:Prop}(h:p:=by first|rfl|(simp[errW_none,errW_some]<;>rfl)|(simp only[←hji9];first|rfl|(simp[errW_none,errW_some]<;>rfl))|(simp[*,errW_none,errW_some]<;>rfl)):p:=h
theorem q90_{p:Prop}(h:p:=by first|rfl|(simp[errW_none,errW_some]<;>rfl)|(simp only[←hji10];first|rfl|(simp[errW_none,errW_some]<;>rfl))|(simp[*,errW_none,errW_some]<;>rfl)):p:=h
theorem q89_{p:Prop}(h:p:=by(with_reducible repeat(first|apply Kd.N_alloc|apply Kd.N_drewN|apply Kd.N_drew));exact HO9.1):p:=h
theorem q88_{p:Prop}(h:p:=by exact(by repeat(first|exact(Kd.C_below HR0_0.1 HB.1)|(with_reducible refine Kd.C_alloc ?_ _)|(with_reducible refine Kd.C_drewN ?_ _)|(with_reducible refine Kd.C_drew ?_)))):p:=h
theorem q87_{p:Prop}(h:p:=by(with_reducible repeat(first|apply Kd.Q_alloc|apply Kd.Q_drewN|apply Kd.Q_drew));exact HO11.1):p:=h
theorem q86_{p:Prop}(h:p:=by(with_reducible repeat(first|apply rA_|apply rN_|apply rD_));exact HO11.1):p:=h
theorem q85_{p:Prop}(h:p:=by(with_reducible repeat(first|apply rA_|apply rN_|apply rD_));exact HO12.1):p:=h
theorem q84_{p:Prop}(h:p:=by exact(by exact(fun _ _=>trivial))):p:=h
theorem q83_{p:Prop}(h:p:=by exact(by repeat(first|exact HR1.1|(with_reducible refine Kd.C_alloc ?_ _)|(with_reducible refine Kd.C_drewN ?_ _)|(with_reducible refine Kd.C_drew ?_)))):p:=h
theorem q82_{p:Prop}(h:p:=by repeat(first|(with_reducible first|exact HI793.1|apply IsS61.alloc|apply IsS61.drewN|apply IsS61.drew|apply IsS61.set_0|apply IsS61.set_1|apply IsS61.set_3|apply IsS61.set_4|apply IsS61.set_5|refine IsS61.far ?_ NB2_1.1 _)|exact HI793.1)):p:=h
theorem q81_{p:Prop}(h:p:=by have:=HK1.1;omega):p:=h
theorem q80_{p:Prop}(h:p:=by rw[hg];exact Nat.ne_of_gt (blk_lt (g:=gb1) (o:= .cells #[.slice A0_0 l0_0.length c0_0,.int .i64 a0_1] 27 (0,0)) q10_)):p:=h
theorem q79_{p:Prop}(h:p:=by rw[hg];exact Nat.ne_of_lt (blk_lt (g:=gb1) (o:= .cells #[.slice A0_0 l0_0.length c0_0,.int .i64 a0_1] 27 (0,0)) q10_)):p:=h
theorem q78_{p:Prop}(h:p:=by(with_reducible repeat(first|apply Kd.N_alloc|apply Kd.N_drewN|apply Kd.N_drew));exact HO7.1):p:=h
theorem q77_{p:Prop}(h:p:=by(with_reducible repeat(first|apply Kd.V_alloc|apply Kd.V_drewN|apply Kd.V_drew));exact HO3.1):p:=h
theorem q76_{p:Prop}(h:p:=by repeat(first|exact Reps.none _ _|refine Reps.one rfl ?_)):p:=h
theorem q75_{p:Prop}(h:p:=by(with_reducible repeat(first|apply Kd.Q_alloc|apply Kd.Q_drewN|apply Kd.Q_drew));exact(Kd.Q_mono (Kd.Q_far (p:=⟨gb4,1,none⟩) (Kd.Q_far (p:=⟨gb4,0,none⟩) (Kd.Q_types HO11.1 BK4.1 (by decide)) (fun _ hk=>hk.2) (.slice Ao7 t14.length co7)) (fun _ hk=>hk.2) (.int .i64 t15)) (fun _ h_=>h_.1))):p:=h
theorem q74_{p:Prop}(h:p:=by(with_reducible repeat(first|apply Kd.Q_alloc|apply Kd.Q_drewN|apply Kd.Q_drew));exact(Kd.Q_mono (Kd.Q_far (p:=⟨gb5,1,none⟩) (Kd.Q_far (p:=⟨gb5,0,none⟩) (Kd.Q_types HO11.1 BK5.1 (by decide)) (fun _ hk=>hk.2) (.slice Ao9 t17.length co9)) (fun _ hk=>hk.2) (.int .i64 t18)) (fun _ h_=>h_.1))):p:=h
theorem q73_{p:Prop}(h:p:=by repeat(first|(with_reducible first|exact HB.1|apply aB_|apply pN_|apply dB_|refine sB_ ?_ (IsSQ27.ge HI0.1)|refine sB_ ?_ GE1.1)|exact HB.1)):p:=h
theorem q72_{p:Prop}(h:p:=by repeat(first|(with_reducible first|exact HB.1|apply aB_|apply pN_|apply dB_|refine sB_ ?_ (IsS27.ge HI575.1)|refine sB_ ?_ GE1.1)|exact HB.1)):p:=h
theorem q71_{p:Prop}(h:p:=by(with_reducible repeat(first|apply rA_|apply rN_|apply rD_));first|exact HO2.1|exact Kd.R_mono HO2.1 (fun k_ h_ e_=>h_ (e_.trans (ob_len _ _ _ _ _)))):p:=h
theorem q70_{p:Prop}(h:p:=by first|exact Kd.own_blk (IsS72.own_ne HI476.1 HO4.1 (by decide))|(rw[add_block];exact Kd.own_blk (IsS72.own_ne HI476.1 HO4.1 (by decide)))|(show(Addr.add _ _).block≠_;rw[add_block];exact Kd.own_blk (IsS72.own_ne HI476.1 HO4.1 (by decide)))|(dsimp only;exact Kd.own_blk (IsS72.own_ne HI476.1 HO4.1 (by decide)))):p:=h
theorem q69_{p:Prop}(h:p:=by(with_reducible repeat(first|apply Kd.S_alloc|apply Kd.S_drewN|apply Kd.S_drew));exact HO4.1):p:=h
theorem q68_{p:Prop}(h:p:=by first|rfl|(simp[errW_none,errW_some]<;>rfl)|(simp only[←hji12];first|rfl|(simp[errW_none,errW_some]<;>rfl))|(simp[*,errW_none,errW_some]<;>rfl)):p:=h
theorem q67_{p:Prop}(h:p:=by repeat(first|(with_reducible first|exact HI0.1|apply IsSQ27.alloc|apply IsSQ27.drewN|apply IsSQ27.drew|apply IsSQ27.set_1|apply IsSQ27.nil_0)|exact HI0.1)):p:=h
theorem q66_{p:Prop}(h:p:=by repeat(first|(with_reducible first|exact HB.1|apply aB_|apply pN_|apply dB_|refine sB_ ?_ GE1.1|refine sB_ ?_ GE2.1|refine sB_ ?_ GE3.1|refine sB_ ?_ GE4.1|refine sB_ ?_ GE5.1)|exact HB.1)):p:=h
theorem q65_{p:Prop}(h:p:=by have:=HK1.1;first|omega|exact Nat.le_refl _):p:=h
theorem q64_{p:Prop}(h:p:=by first|(with_reducible exact hG)|(refine GOK_below hG ?_;(repeat(first|(with_reducible first|exact HB.1|apply aB_|apply pN_|apply dB_|refine sB_ ?_ GE1.1)|exact HB.1));done)|(refine GOK_drawn hG ?_;(repeat(first|exact Drawn0.refl _|apply Drawn0.step));done)|exact hG):p:=h
theorem q63_{p:Prop}(h:p:=by(with_reducible repeat(first|apply Kd.N_alloc|apply Kd.N_drewN|apply Kd.N_drew));exact HO6.1):p:=h
theorem q62_{p:Prop}(h:p:=by(with_reducible repeat(first|apply rA_|apply rN_|apply rD_));exact HO10.1):p:=h
theorem q61_{p:Prop}(h:p:=by exact(by repeat(first|exact(Kd.C_below HR0_2.1 q7_)|(with_reducible refine Kd.C_alloc ?_ _)|(with_reducible refine Kd.C_drewN ?_ _)|(with_reducible refine Kd.C_drew ?_)))):p:=h
theorem q60_{p:Prop}(h:p:=by exact(by first|(with_reducible exact hG)|(refine GOK_below hG ?_;(repeat(first|(with_reducible first|exact HB.1|apply aB_|apply pN_|apply dB_|refine sB_ ?_ GE1.1|refine sB_ ?_ GE2.1|refine sB_ ?_ GE3.1|refine sB_ ?_ GE4.1|refine sB_ ?_ GE5.1|refine sB_ ?_ GE6.1)|exact HB.1));done)|(refine GOK_drawn hG ?_;(repeat(first|exact Drawn0.refl _|apply Drawn0.step));done)|exact hG)):p:=h
theorem q59_{p:Prop}(h:p:=by repeat(first|(with_reducible first|exact HB.1|apply aB_|apply pN_|apply dB_|refine sB_ ?_ (IsS55.ge HI642.1)|refine sB_ ?_ GE1.1|refine sB_ ?_ GE3.1)|exact HB.1)):p:=h
theorem q58_{p:Prop}(h:p:=by repeat(first|(with_reducible first|exact HI0.1|apply IsSQ27.alloc|apply IsSQ27.drewN|apply IsSQ27.drew|apply IsSQ27.set_1|apply IsSQ27.nil_0|refine IsSQ27.farT ?_ (by repeat(first|exact TypB.of BK1.1|apply TypB.set|apply TypB.alloc|apply TypB.drewN|apply TypB.drew)) NB0_1.1 (by decide))|exact HI0.1)):p:=h
theorem q57_{p:Prop}(h:p:=by repeat(first|(with_reducible first|exact HB.1|apply aB_|apply pN_|apply dB_|refine sB_ ?_ GE1.1|refine sB_ ?_ GE2.1|refine sB_ ?_ GE3.1|refine sB_ ?_ GE4.1|refine sB_ ?_ GE5.1|refine sB_ ?_ GE6.1)|exact HB.1)):p:=h
theorem q56_{p:Prop}(h:p:=by first|exact Kd.R_nil _ _ _ _ _|exact Kd.N_nil _ _ _ _ _|exact Kd.V_nil _ _ _ _ _|exact Kd.Q_nil _ _ _ _ _|exact Kd.S_nil _ _ _ _ _):p:=h
theorem q55_{p:Prop}(h:p:=by repeat(first|(with_reducible first|exact HI642.1|apply IsS55.alloc|apply IsS55.drewN|apply IsS55.drew|apply IsS55.set_1|apply IsS55.set_2|refine IsS55.far ?_ NB2_1.1 _)|exact HI642.1)):p:=h
theorem q54_{p:Prop}(h:p:=by repeat(first|(with_reducible first|exact HB.1|apply aB_|apply pN_|apply dB_|refine sB_ ?_ (IsS55.ge HI642.1)|refine sB_ ?_ GE1.1)|exact HB.1)):p:=h
theorem q53_{p:Prop}(h:p:=by repeat(first|(with_reducible first|exact HB.1|apply aB_|apply pN_|apply dB_|refine sB_ ?_ (IsS61.ge HI793.1)|refine sB_ ?_ GE1.1)|exact HB.1)):p:=h
theorem q52_{p:Prop}(h:p:=by(with_reducible repeat(first|apply rA_|apply rN_|apply rD_));exact HO3.1):p:=h
theorem q51_{p:Prop}(h:p:=by(with_reducible repeat(first|apply Kd.N_alloc|apply Kd.N_drewN|apply Kd.N_drew));exact HO3.1):p:=h
theorem q50_{p:Prop}(h:p:=by repeat(first|(with_reducible exact HR2.1)|(with_reducible refine Kd.C_alloc ?_ _)|(with_reducible refine Kd.C_drewN ?_ _)|(with_reducible refine Kd.C_drew ?_)|exact HR2.1)):p:=h
theorem q49_{p:Prop}(h:p:=by repeat(first|(with_reducible first|exact HI575.1|apply IsS27.alloc|apply IsS27.drewN|apply IsS27.drew|apply IsS27.set_1|apply IsS27.nil_0|refine IsS27.farT ?_ (by repeat(first|exact TypB.of BK1.1|apply TypB.set|apply TypB.alloc|apply TypB.drewN|apply TypB.drew)) NB2_1.1 (by decide))|exact HI575.1)):p:=h
theorem q48_{p:Prop}(h:p:=by rw[hg];exact(below_size q2_)):p:=h
theorem q47_{p:Prop}(h:p:=by(with_reducible repeat(first|apply rA_|apply rN_|apply rD_));exact HO4.1):p:=h
theorem q46_{p:Prop}(h:p:=by(with_reducible repeat(first|apply Kd.N_alloc|apply Kd.N_drewN|apply Kd.N_drew));exact HO1.1):p:=h
theorem q45_{p:Prop}(h:p:=by(with_reducible repeat(first|refine bN_ ?_ _|refine bD_ ?_|refine bA_ ?_ _));exact BK3.1):p:=h
theorem q44_{p:Prop}(h:p:=by repeat(first|(with_reducible first|exact HB.1|apply aB_|apply pN_|apply dB_|refine sB_ ?_ (IsS96.ge HI0.1))|exact HB.1)):p:=h
theorem q43_{p:Prop}(h:p:=by exact(by repeat(first|exact(Kd.C_below HR0_2.1 HB.1)|(with_reducible refine Kd.C_alloc ?_ _)|(with_reducible refine Kd.C_drewN ?_ _)|(with_reducible refine Kd.C_drew ?_)))):p:=h
theorem q42_{p:Prop}(h:p:=by repeat(first|(with_reducible first|exact HB.1|apply aB_|apply pN_|apply dB_|refine sB_ ?_ (IsS96.ge HI521.1))|exact HB.1)):p:=h
theorem q41_{p:Prop}(h:p:=by(with_reducible repeat(first|apply rA_|apply rN_|apply rD_));first|exact HO1.1|exact Kd.R_mono HO1.1 (fun k_ h_ e_=>h_ (e_.trans (ob_len _ _ _ _ _)))):p:=h
theorem q40_{p:Prop}(h:p:=by repeat(first|(with_reducible first|exact HI521.1|apply IsS96.alloc|apply IsS96.drewN|apply IsS96.drew|apply IsS96.set_0|apply IsS96.set_1)|exact HI521.1)):p:=h
theorem q39_{p:Prop}(h:p:=by repeat(first|(with_reducible exact HR1.1)|(with_reducible refine Kd.C_alloc ?_ _)|(with_reducible refine Kd.C_drewN ?_ _)|(with_reducible refine Kd.C_drew ?_)|exact HR1.1)):p:=h
theorem q38_{p:Prop}(h:p:=by repeat(first|(with_reducible first|exact HI0.1|apply IsS61.alloc|apply IsS61.drewN|apply IsS61.drew|apply IsS61.set_0|apply IsS61.set_1|apply IsS61.set_3|apply IsS61.set_4|apply IsS61.set_5|refine IsS61.far ?_ NB0_1.1 _)|exact HI0.1)):p:=h
theorem q37_{p:Prop}(h:p:=by exact(by repeat(first|exact(Kd.C_below HR1.1 HB.1)|(with_reducible refine Kd.C_alloc ?_ _)|(with_reducible refine Kd.C_drewN ?_ _)|(with_reducible refine Kd.C_drew ?_)))):p:=h
theorem q36_{p:Prop}(h:p:=by repeat(first|(with_reducible first|exact HI0.1|apply IsS96.alloc|apply IsS96.drewN|apply IsS96.drew|apply IsS96.set_0|apply IsS96.set_1)|exact HI0.1)):p:=h
theorem q35_{p:Prop}(h:p:=by repeat(first|(with_reducible first|exact HB.1|apply aB_|apply pN_|apply dB_|refine sB_ ?_ (IsS72.ge HI476.1)|refine sB_ ?_ GE1.1)|exact HB.1)):p:=h
theorem q34_{p:Prop}(h:p:=by repeat(first|(with_reducible first|exact HB.1|apply aB_|apply pN_|apply dB_|refine sB_ ?_ (IsS61.ge HI0.1)|refine sB_ ?_ GE1.1)|exact HB.1)):p:=h
theorem q33_{p:Prop}(h:p:=by repeat(first|(with_reducible first|exact HI642.1|apply IsS55.alloc|apply IsS55.drewN|apply IsS55.drew|apply IsS55.set_1|apply IsS55.set_2|refine IsS55.far ?_ NB2_1.1 _|refine IsS55.far ?_ NB2_3.1 _)|exact HI642.1)):p:=h
theorem q32_{p:Prop}(h:p:=by repeat(first|(with_reducible first|exact HK.1|apply KeptG.set_|apply KeptG.drewN|apply KeptG.drew|apply KeptG.alloc|refine KeptG.far ?_ GW1.1 _)|exact HK.1)):p:=h
theorem q31_{p:Prop}(h:p:=by repeat(first|(with_reducible first|exact HB.1|apply aB_|apply pN_|apply dB_|refine sB_ ?_ (IsS72.ge HI0.1))|exact HB.1)):p:=h
theorem q30_{p:Prop}(h:p:=by(with_reducible repeat(first|apply rA_|apply rN_|apply rD_));exact HO6.1):p:=h
theorem q29_{p:Prop}(h:p:=by exact(by first|(with_reducible exact hG)|(refine GOK_below hG ?_;(repeat(first|(with_reducible first|exact HB.1|apply aB_|apply pN_|apply dB_)|exact HB.1));done)|(refine GOK_drawn hG ?_;(repeat(first|exact Drawn0.refl _|apply Drawn0.step));done)|exact hG)):p:=h
theorem q28_{p:Prop}(h:p:=by(with_reducible repeat(first|refine bN_ ?_ _|refine bD_ ?_|refine bA_ ?_ _));exact BK2.1):p:=h
theorem q27_{p:Prop}(h:p:=by repeat(first|(with_reducible first|exact HB.1|apply aB_|apply pN_|apply dB_|refine sB_ ?_ GE1.1|refine sB_ ?_ GE2.1|refine sB_ ?_ GE3.1|refine sB_ ?_ GE4.1)|exact HB.1)):p:=h
theorem q26_{p:Prop}(h:p:=by(with_reducible repeat(first|apply rA_|apply rN_|apply rD_));exact HO1.1):p:=h
theorem q25_{p:Prop}(h:p:=by repeat(first|(with_reducible first|exact HI476.1|apply IsS72.alloc|apply IsS72.drewN|apply IsS72.drew|apply IsS72.set_0|apply IsS72.set_1|apply IsS72.set_3|apply IsS72.set_4|apply IsS72.set_5|apply IsS72.set_6|apply IsS72.set_7|apply IsS72.set_8|refine IsS72.far ?_ NB2_1.1 _)|exact HI476.1)):p:=h
theorem q24_{p:Prop}(h:p:=by repeat(first|(with_reducible first|exact HB.1|apply aB_|apply pN_|apply dB_|refine sB_ ?_ (IsS61.ge HI0.1))|exact HB.1)):p:=h
theorem q23_{p:Prop}(h:p:=by first|exact NB2_1.1|(rw[add_block];exact NB2_1.1)|(show(Addr.add _ _).block≠_;rw[add_block];exact NB2_1.1)|(dsimp only;exact NB2_1.1)):p:=h
theorem q22_{p:Prop}(h:p:=by exact(by first|(go_simp;done)|(go_simp;rfl))):p:=h
theorem q21_{p:Prop}(h:p:=by(with_reducible repeat(first|apply rA_|apply rN_|apply rD_));exact HO2.1):p:=h
theorem q20_{p:Prop}(h:p:=by repeat(first|(with_reducible first|exact HB.1|apply aB_|apply pN_|apply dB_|refine sB_ ?_ GE1.1|refine sB_ ?_ GE2.1|refine sB_ ?_ GE3.1)|exact HB.1)):p:=h
theorem q19_{p:Prop}(h:p:=by(with_reducible repeat(first|apply rA_|apply rN_|apply rD_));exact HO5.1):p:=h
theorem q18_{p:Prop}(h:p:=by repeat(first|(with_reducible first|exact HI0.1|apply IsS72.alloc|apply IsS72.drewN|apply IsS72.drew|apply IsS72.set_0|apply IsS72.set_1|apply IsS72.set_3|apply IsS72.set_4|apply IsS72.set_5|apply IsS72.set_6|apply IsS72.set_7|apply IsS72.set_8)|exact HI0.1)):p:=h
theorem q17_{p:Prop}(h:p:=by repeat(first|(with_reducible first|exact HB.1|apply aB_|apply pN_|apply dB_|refine sB_ ?_ GE1.1|refine sB_ ?_ GE2.1)|exact HB.1)):p:=h
theorem q16_{p:Prop}(h:p:=by repeat(first|(with_reducible first|exact HB.1|apply aB_|apply pN_|apply dB_|refine sB_ ?_ (IsS55.ge HI0.1)|refine sB_ ?_ GE1.1)|exact HB.1)):p:=h
theorem q15_{p:Prop}(h:p:=by repeat(first|(with_reducible first|exact HK.1|apply KeptG.set_|apply KeptG.drewN|apply KeptG.drew|apply KeptG.alloc)|exact HK.1)):p:=h
theorem q14_{p:Prop}(h:p:=by repeat(first|(with_reducible first|exact HB.1|apply aB_|apply pN_|apply dB_|refine sB_ ?_ (IsS55.ge HI0.1))|exact HB.1)):p:=h
theorem q13_{p:Prop}(h:p:=by repeat(first|(with_reducible first|exact HI0.1|apply IsS61.alloc|apply IsS61.drewN|apply IsS61.drew|apply IsS61.set_0|apply IsS61.set_1|apply IsS61.set_3|apply IsS61.set_4|apply IsS61.set_5)|exact HI0.1)):p:=h
theorem q12_{p:Prop}(h:p:=by repeat(first|exact Drawn0.refl _|apply Drawn0.step)):p:=h
theorem q11_{p:Prop}(h:p:=by first|rfl|(simp[errW_none,errW_some]<;>rfl)|(simp[*,errW_none,errW_some]<;>rfl)):p:=h
theorem q10_{p:Prop}(h:p:=by(with_reducible repeat(first|refine bN_ ?_ _|refine bD_ ?_|refine bA_ ?_ _));exact BK1.1):p:=h
theorem q9_{p:Prop}(h:p:=by repeat(first|(with_reducible first|exact HI0.1|apply IsS55.alloc|apply IsS55.drewN|apply IsS55.drew|apply IsS55.set_1|apply IsS55.set_2)|exact HI0.1)):p:=h
theorem q8_{p:Prop}(h:p:=by repeat(first|(with_reducible first|exact HK.1|apply KeepBut.set_|apply keep_drewN|apply keep_drew|apply keep_alloc|refine keep_far ?_ GW1.1 _)|exact HK.1)):p:=h
theorem q7_{p:Prop}(h:p:=by repeat(first|(with_reducible first|exact HB.1|apply aB_|apply pN_|apply dB_|refine sB_ ?_ GE1.1)|exact HB.1)):p:=h
theorem q6_{p:Prop}(h:p:=by first|(with_reducible assumption)|assumption):p:=h
theorem q5_{p:Prop}(h:p:=by repeat(first|(with_reducible first|exact HI0.1|apply IsS55.alloc|apply IsS55.drewN|apply IsS55.drew|apply IsS55.set_1|apply IsS55.set_2|refine IsS55.far ?_ NB0_1.1 _)|exact HI0.1)):p:=h
theorem q4_{p:Prop}(h:p:=by repeat(first|(with_reducible first|exact HK.1|apply KeepBut.set_|apply keep_drewN|apply keep_drew|apply keep_alloc)|exact HK.1)):p:=h
theorem q3_{p:Prop}(h:p:=by first|rfl|(simp;done)|(simp[*];done)|(simp[empty_ne, *];done)):p:=h
theorem q2_{p:Prop}(h:p:=by repeat(first|(with_reducible first|exact HB.1|apply aB_|apply pN_|apply dB_)|exact HB.1)):p:=h
theorem q1_{p:Prop}(h:p:=by(try simp only[List.map_toArray,List.map_cons,List.map_nil]);first|done|rfl|(simp only[List.length_drop,List.length_take];rfl)):p:=h
section
variable{c:Prop}{_:Decidable c}{α:Type}{a b:Option α}{r:α}
theorem iE(h:(if c then a else none)=some r):c∧a=some r:=by split at h;exact⟨‹_›,h⟩;cases h
theorem iF{a:Option Bool}(h:(if c then a else some false)=some true):c∧a=some true:=by split at h;exact⟨‹_›,h⟩;cases h
theorem iB(h:(if c then a else b)=some r):c∧a=some r∨¬c∧b=some r:=by split at h;exact .inl ⟨‹_›,h⟩;exact .inr ⟨‹_›,h⟩
theorem iD(h:(if c then a else b)=some r):decide c=true∧a=some r∨decide c=false∧b=some r:=by rcases iB h with⟨c,h⟩|⟨c,h⟩;exact .inl ⟨decide_eq_true c,h⟩;exact .inr ⟨decide_eq_false c,h⟩
theorem iG(h:(if c then a else none)=some r):decide c=true∧a=some r:=⟨decide_eq_true (iE h).1,(iE h).2⟩
theorem iT{b:Bool}{x:Option α}(h:(if b=true then a else x)=some r):b=true∧a=some r∨b=false∧x=some r:=by cases b;exact .inr ⟨rfl,h⟩;exact .inl ⟨rfl,h⟩
theorem iQ{β:Type}[BEq β][LawfulBEq β]{x y:β}{_:Decidable (x=y)}(h:(if x=y then a else b)=some r):(x=y∧(x==y)=true∧(x !=y)=false∧a=some r)∨¬x=y∧(x==y)=false∧(x !=y)=true∧b=some r:=by rcases iB h with⟨c,h⟩|⟨c,h⟩;exact .inl ⟨c,beq_iff_eq.mpr c,bne_eq_false_iff_eq.mpr c,h⟩;exact .inr ⟨c,beq_eq_false_iff_ne.mpr c,bne_iff_ne.mpr c,h⟩
theorem iU(h:(if c then a else none)=some r):c∧(c=True)∧decide c=true∧a=some r:=⟨(iE h).1,eq_true (iE h).1,decide_eq_true (iE h).1,(iE h).2⟩
theorem iL(h:(if c then a else none)=some r):Aside0 c∧a=some r:=⟨⟨(iE h).1⟩,(iE h).2⟩
end
abbrev Y:=true
abbrev Z:=false
theorem aK{p:Prop}(h:p):Aside0 p:=⟨h⟩
theorem sI{α:Type}(l:List α)(i:Nat)(a:α):l.toArray.setIfInBounds i a=(l.set i a).toArray:=List.setIfInBounds_toArray ..
theorem sZ{α:Type}(x a:α)(l:List α):(x::l).set 0 a=a::l:=List.set_cons_zero
theorem sS{α:Type}(x a:α)(l:List α)(n:Nat):(x::l).set (n+1) a=x::l.set n a:=List.set_cons_succ
attribute [local go_sem] max2_int min2_int max_two min_two max_three min_three max_four min_four
set_option linter.unusedVariables false
set_option linter.unusedSimpArgs false
theorem cel2{w:World}{g:Nat}{a0 a1:Value}{t:TypeId}(h:w.heap[g]? =some (.cells #[a0,a1] t (0,0))):w.cell? ⟨g,0,none⟩=some a0∧w.frozen? ⟨g,0,none⟩=false∧w.cell? ⟨g,1,none⟩=some a1∧w.frozen? ⟨g,1,none⟩=false:=⟨(blk_cell h 0).trans rfl,blk_frozen h 0,(blk_cell h 1).trans rfl,blk_frozen h 1⟩
theorem cel3{w:World}{g:Nat}{a0 a1 a2:Value}{t:TypeId}(h:w.heap[g]? =some (.cells #[a0,a1,a2] t (0,0))):w.cell? ⟨g,0,none⟩=some a0∧w.frozen? ⟨g,0,none⟩=false∧w.cell? ⟨g,1,none⟩=some a1∧w.frozen? ⟨g,1,none⟩=false∧w.cell? ⟨g,2,none⟩=some a2∧w.frozen? ⟨g,2,none⟩=false:=⟨(blk_cell h 0).trans rfl,blk_frozen h 0,(blk_cell h 1).trans rfl,blk_frozen h 1,(blk_cell h 2).trans rfl,blk_frozen h 2⟩
theorem cel4{w:World}{g:Nat}{a0 a1 a2 a3:Value}{t:TypeId}(h:w.heap[g]? =some (.cells #[a0,a1,a2,a3] t (0,0))):w.cell? ⟨g,0,none⟩=some a0∧w.frozen? ⟨g,0,none⟩=false∧w.cell? ⟨g,1,none⟩=some a1∧w.frozen? ⟨g,1,none⟩=false∧w.cell? ⟨g,2,none⟩=some a2∧w.frozen? ⟨g,2,none⟩=false∧w.cell? ⟨g,3,none⟩=some a3∧w.frozen? ⟨g,3,none⟩=false:=⟨(blk_cell h 0).trans rfl,blk_frozen h 0,(blk_cell h 1).trans rfl,blk_frozen h 1,(blk_cell h 2).trans rfl,blk_frozen h 2,(blk_cell h 3).trans rfl,blk_frozen h 3⟩
theorem cel7{w:World}{g:Nat}{a0 a1 a2 a3 a4 a5 a6:Value}{t:TypeId}(h:w.heap[g]? =some (.cells #[a0,a1,a2,a3,a4,a5,a6] t (0,0))):w.cell? ⟨g,0,none⟩=some a0∧w.frozen? ⟨g,0,none⟩=false∧w.cell? ⟨g,1,none⟩=some a1∧w.frozen? ⟨g,1,none⟩=false∧w.cell? ⟨g,2,none⟩=some a2∧w.frozen? ⟨g,2,none⟩=false∧w.cell? ⟨g,3,none⟩=some a3∧w.frozen? ⟨g,3,none⟩=false∧w.cell? ⟨g,4,none⟩=some a4∧w.frozen? ⟨g,4,none⟩=false∧w.cell? ⟨g,5,none⟩=some a5∧w.frozen? ⟨g,5,none⟩=false∧w.cell? ⟨g,6,none⟩=some a6∧w.frozen? ⟨g,6,none⟩=false:=⟨(blk_cell h 0).trans rfl,blk_frozen h 0,(blk_cell h 1).trans rfl,blk_frozen h 1,(blk_cell h 2).trans rfl,blk_frozen h 2,(blk_cell h 3).trans rfl,blk_frozen h 3,(blk_cell h 4).trans rfl,blk_frozen h 4,(blk_cell h 5).trans rfl,blk_frozen h 5,(blk_cell h 6).trans rfl,blk_frozen h 6⟩
theorem cel9{w:World}{g:Nat}{a0 a1 a2 a3 a4 a5 a6 a7 a8:Value}{t:TypeId}(h:w.heap[g]? =some (.cells #[a0,a1,a2,a3,a4,a5,a6,a7,a8] t (0,0))):w.cell? ⟨g,0,none⟩=some a0∧w.frozen? ⟨g,0,none⟩=false∧w.cell? ⟨g,1,none⟩=some a1∧w.frozen? ⟨g,1,none⟩=false∧w.cell? ⟨g,2,none⟩=some a2∧w.frozen? ⟨g,2,none⟩=false∧w.cell? ⟨g,3,none⟩=some a3∧w.frozen? ⟨g,3,none⟩=false∧w.cell? ⟨g,4,none⟩=some a4∧w.frozen? ⟨g,4,none⟩=false∧w.cell? ⟨g,5,none⟩=some a5∧w.frozen? ⟨g,5,none⟩=false∧w.cell? ⟨g,6,none⟩=some a6∧w.frozen? ⟨g,6,none⟩=false∧w.cell? ⟨g,7,none⟩=some a7∧w.frozen? ⟨g,7,none⟩=false∧w.cell? ⟨g,8,none⟩=some a8∧w.frozen? ⟨g,8,none⟩=false:=⟨(blk_cell h 0).trans rfl,blk_frozen h 0,(blk_cell h 1).trans rfl,blk_frozen h 1,(blk_cell h 2).trans rfl,blk_frozen h 2,(blk_cell h 3).trans rfl,blk_frozen h 3,(blk_cell h 4).trans rfl,blk_frozen h 4,(blk_cell h 5).trans rfl,blk_frozen h 5,(blk_cell h 6).trans rfl,blk_frozen h 6,(blk_cell h 7).trans rfl,blk_frozen h 7,(blk_cell h 8).trans rfl,blk_frozen h 8⟩
section
variable{P:Program}{ops:Array Oper}{Q:Exit→Act→World→Prop}{md:Region.Mode}{S:World→Prop}{ds:List Nat}{oi:Oper}{v:Value}{fuel:Nat}{l l':Array Bool}{a a':Act}{w:World}{T:Bool×List (List Nat×List Nat)}
theorem pz_(i:Nat)(N:Option Tmp)(hT:rtab md ops=T)(h:wpAnyLast P md ops Q S ds fuel l' a' w)(hl:l.setIfInBounds i true=l':=by simp only[sI,sZ,sS];rfl)(hi:ops[i]? =some oi:=by exact rfl)(hN:oi.dst=N:=by exact rfl)(hc:anyT T l.toList l'.toList i=true:=by kernel_rfl)
  (hQ:∀c a w,Q (.panic c) (a.put oi.dst v) w→Q (.panic c) a w:=by exact fun _ _ _ h=>h)(hy:Yields P ops oi v a:=by(refine Or.inl ⟨by rfl,?_⟩;intro w';go_simp;with_reducible rfl))(ha:a.put N v=a':=by(simp only[Act.put,sI,sZ,sS,i64_w,i32_w];rfl)):wpAnyLast P md ops Q S ds (fuel+1) l a w:=
 pure_ l' hi hN (any_of hT hc) hQ hy ha h
theorem pk_(i:Nat)(N:Option Tmp)(h:wpAnyLast P md ops Q S ds fuel l' a' w)(hl:l.setIfInBounds i true=l':=by simp only[sI,sZ,sS];rfl)(hi:ops[i]? =some oi:=by exact rfl)(hN:oi.dst=N:=by exact rfl)(hc:anyB md ops l l' i=true:=by kernel_rfl)
  (hQ:∀c a w,Q (.panic c) (a.put oi.dst v) w→Q (.panic c) a w:=by exact fun _ _ _ h=>h)(hy:Yields P ops oi v a:=by(refine Or.inl ⟨by rfl,?_⟩;intro w';go_simp;with_reducible rfl))(ha:a.put N v=a':=by(simp only[Act.put,sI,sZ,sS,i64_w,i32_w];rfl)):wpAnyLast P md ops Q S ds (fuel+1) l a w:=
 pure_ l' hi hN hc hQ hy ha h
theorem tz_{B:List Nat}(i:Nat)(N:Option Tmp)(hT:rtab md ops=T)(hB:waitsOk T.2 B=true)(hS:S w)(h:wpAnyLast P md ops Q S ds fuel l' a' w)(hl:l.setIfInBounds i true=l':=by simp only[sI,sZ,sS];rfl)(hi:ops[i]? =some oi:=by exact rfl)(hN:oi.dst=N:=by exact rfl)(hc:takeW T B ds l.toList l'.toList i=true:=by kernel_rfl)
  (hQ:∀c a w,Q (.panic c) (a.put oi.dst v) w→Q (.panic c) a w:=by exact fun _ _ _ h=>h)(hy:YieldsIf P ops S oi v a:=by(refine Or.inl ⟨by rfl,?_⟩;intro w';(try simp only[and_imp]);intros;go_simp;with_reducible rfl))(ha:a.put N v=a':=by(simp only[Act.put,sI,sZ,sS,i64_w,i32_w];rfl)):wpAnyLast P md ops Q S ds (fuel+1) l a w:=
 take_ l' hi hN (take_ofW hT hB hc) hQ hy hS ha h
theorem tk_(i:Nat)(N:Option Tmp)(hS:S w)(h:wpAnyLast P md ops Q S ds fuel l' a' w)(hl:l.setIfInBounds i true=l':=by simp only[sI,sZ,sS];rfl)(hi:ops[i]? =some oi:=by exact rfl)(hN:oi.dst=N:=by exact rfl)(hc:takeB md ops ds l l' i=true:=by kernel_rfl)
  (hQ:∀c a w,Q (.panic c) (a.put oi.dst v) w→Q (.panic c) a w:=by exact fun _ _ _ h=>h)(hy:YieldsIf P ops S oi v a:=by(refine Or.inl ⟨by rfl,?_⟩;intro w';(try simp only[and_imp]);intros;go_simp;with_reducible rfl))(ha:a.put N v=a':=by(simp only[Act.put,sI,sZ,sS,i64_w,i32_w];rfl)):wpAnyLast P md ops Q S ds (fuel+1) l a w:=
 take_ l' hi hN hc hQ hy hS ha h
theorem oz_(i:Nat)(N:Option Tmp)(hT:rtab md ops=T)(h:∀K:Act→World→Prop,Shut (∀a' w',S w'→(S w'→wpAnyLast P md ops Q S ds fuel l' a' w')→K a' w')→if Region.wanted oi (yielded ops a.tmps)=true then Oper.wp P oi a w K Q else K (a.put N undef) w)(hl:l.setIfInBounds i true=l':=by simp only[sI,sZ,sS];rfl)
  (hi:ops[i]? =some oi:=by exact rfl)(hN:oi.dst=N:=by exact rfl)(hc:(readyT T.2 l.toList==[i]&&l.toList.set i true==l'.toList)=true:=by kernel_rfl)(hd:i∉ds:=by decide):wpAnyLast P md ops Q S ds (fuel+1) l a w:=
 one_ l' hi hN (one_of hT hc) hd h
theorem ok_(i:Nat)(N:Option Tmp)(h:∀K:Act→World→Prop,Shut (∀a' w',S w'→(S w'→wpAnyLast P md ops Q S ds fuel l' a' w')→K a' w')→if Region.wanted oi (yielded ops a.tmps)=true then Oper.wp P oi a w K Q else K (a.put N undef) w)(hl:l.setIfInBounds i true=l':=by simp only[sI,sZ,sS];rfl)
  (hi:ops[i]? =some oi:=by exact rfl)(hN:oi.dst=N:=by exact rfl)(hc:readyB md ops l l' i=true:=by kernel_rfl)(hd:i∉ds:=by decide):wpAnyLast P md ops Q S ds (fuel+1) l a w:=
 one_ l' hi hN hc hd h
theorem nz_(N:Option Tmp)(h:wpAnyLast P md ops Q S ds fuel l a' w)(ha:a.put N v=a':=by(simp only[Act.put,sI,sZ,sS,i64_w,i32_w];rfl)):wpAnyLast P md ops Q S ds fuel l (a.put N v) w:=norm_ ha h
end
theorem oB{α β:Type}{x:Option α}{f:α→Option β}{b:β}(h:x.bind f=some b):∃a,Aside0 (x=some a)∧f a=some b:=by
 obtain⟨a,h1,h2⟩:=Option.bind_eq_some_iff.mp h;exact⟨a,⟨h1⟩,h2⟩
theorem oS{α β:Type}{a:α}{f:α→Option β}{b:β}(h:(some a).bind f=some b):∃y,Aside0 (y=a)∧f y=some b:=⟨a,⟨rfl⟩,h⟩
abbrev BA:=ByteArray
theorem bfin_{o:Option Obj}{cs cs':Array Value}{t:TypeId}(h:o=some (.cells cs t (0,0)))(e:cs=cs'):o=some (.cells cs' t (0,0)):=e▸h
theorem bset_{w:World}{g:Nat}{t:TypeId}{cs:Array Value}{i:Nat}{u:Value}(h:w.heap[g]? =some (.cells cs t (0,0))):(w.setCell ⟨g,i,none⟩ u).heap[g]? =some (.cells (cs.setIfInBounds i u) t (0,0)):=blk_put h i u rfl
theorem bput_{p q:Prop}(h:q)(k:q→p:=by(intro h_;apply bfin_;(with_reducible repeat(first|apply bset_|refine blk_drewN ?_ _|refine blk_drew ?_|refine blk_alloc ?_ _));exact h_;(first|(simp only[sI,sZ,sS];done)|(simp only[sI,sZ,sS];rfl)))):p:=k h
theorem kbk_{W0 W w1:World}{g g':Nat}{o:Obj}(h:W0.heap[g']? =some o)(hk:KeepBut W w1 g none)(hne:g'≠g)(hp:W0.heap[g']? =some o→W.heap[g']? =some o:=by(intro h_;(with_reducible repeat(first|refine blk_drewN ?_ _|refine blk_drew ?_|refine blk_alloc ?_ _));exact h_)):w1.heap[g']? =some o:=KeepBut.blk hk (hp h) hne (by simp)
theorem bbk_{W0 W w1:World}{g:Nat}{o:Obj}(h:W0.heap[g]? =some o)(hb:Below W.heap.size W w1)(hp:W0.heap[g]? =some o→W.heap[g]? =some o:=by(intro h_;(with_reducible repeat(first|refine blk_drewN ?_ _|refine blk_drew ?_|refine blk_alloc ?_ _));exact h_)):w1.heap[g]? =some o:=blk_below (hp h) hb
theorem rG_{α:Type}{d:Kd α}{e base g j:Nat}{ok:Nat→Prop}{w:World}{v u:Value}{xs:List α}(h:d.R e w base (fun k=>ok k∧k≠g) v xs):d.R e (w.setCell ⟨g,j,none⟩ u) base (fun k=>ok k∧k≠g) v xs:=Kd.R_far h (fun _ hk=>hk.2) u
def errW:Option Int→Value
 |none=> .nilIface
 |some c=> .iface 0 (.int .i64 c)
theorem errW_none:errW none= .nilIface:=rfl
theorem errW_some(c:Int):errW (some c)= .iface 0 (.int .i64 c):=rfl
theorem empty_ne(l:List UInt8):(!(l !=[]))=l.isEmpty:=by cases l<;>rfl
def GOK(w:World):Prop:=(∃m,w.cell? ⟨0,0,none⟩=some (.int .i64 m))∧Go.Lib.TabIs Tryz.prog w "internal/strconv.uint64pow10" .u64 Go.Lib.pow10Tab∧Go.Lib.TabIs Tryz.prog w "math/bits.deBruijn64tab" .u8 [0,1,56,2,57,49,28,3,61,58,42,50,38,29,17,4,62,47,59,36,45,43,51,22,53,39,33,30,24,18,12,5,63,55,48,27,60,41,37,16,46,35,44,21,52,32,23,11,54,26,40,15,34,20,31,10,25,14,19,9,13,8,7,6]∧(∃tp p,w.var? Tryz.prog "strconv.ErrRange" =some #[.iface tp p])∧(∃tp p,w.var? Tryz.prog "strconv.ErrSyntax" =some #[.iface tp p])
theorem GOK.maxlen{w:World}(h:GOK w):(∃m,w.cell? ⟨0,0,none⟩=some (.int .i64 m)):=h.1
theorem GOK.pow10{w:World}(h:GOK w):Go.Lib.TabIs Tryz.prog w "internal/strconv.uint64pow10" .u64 Go.Lib.pow10Tab:=h.2.1
theorem GOK.deb{w:World}(h:GOK w):Go.Lib.TabIs Tryz.prog w "math/bits.deBruijn64tab" .u8 [0,1,56,2,57,49,28,3,61,58,42,50,38,29,17,4,62,47,59,36,45,43,51,22,53,39,33,30,24,18,12,5,63,55,48,27,60,41,37,16,46,35,44,21,52,32,23,11,54,26,40,15,34,20,31,10,25,14,19,9,13,8,7,6]:=h.2.2.1
theorem GOK.errr{w:World}(h:GOK w):(∃tp p,w.var? Tryz.prog "strconv.ErrRange" =some #[.iface tp p]):=h.2.2.2.1
theorem GOK.errs{w:World}(h:GOK w):(∃tp p,w.var? Tryz.prog "strconv.ErrSyntax" =some #[.iface tp p]):=h.2.2.2.2
theorem var_below{P:Program}{w w':World}{name:String}{cs:Array Value}{g:Nat}(hg:P.globalNamed name=some g)(h:w.var? P name=some cs)(hb:Below w.heap.size w w'):w'.var? P name=some cs:=by
 unfold World.var? at *
 rw[hg]at h⊢;simp only[Option.bind_some]at h⊢;have hl:g<w.heap.size:=by
  rcases Nat.lt_or_ge g w.heap.size with hl|hl
  ·exact hl
  ·rw[Array.getElem?_eq_none hl]at h;cases h
 rw[hb.block g hl];exact h
theorem tab_below{P:Program}{w w':World}{name:String}{k:IntKind}{zs:List Int}{g:Nat}(hg:P.globalNamed name=some g)(h:Go.Lib.TabIs P w name k zs)(hb:Below w.heap.size w w'):Go.Lib.TabIs P w' name k zs:=by
 unfold Go.Lib.TabIs World.var? at *
 rw[hg]at h⊢;simp only[Option.bind_some]at h⊢;have hl:g<w.heap.size:=by
  rcases Nat.lt_or_ge g w.heap.size with hl|hl
  ·exact hl
  ·rw[Array.getElem?_eq_none hl]at h;cases h
 rw[hb.block g hl];exact h
theorem GOK_below{w w':World}(h:GOK w)(hb:Below w.heap.size w w'):GOK w':=⟨(let⟨m,hm⟩:=h.maxlen;⟨m,pw_cell_below hb hm⟩),(tab_below (g:=5) (by kernel_rfl) h.pow10 hb),(tab_below (g:=7) (by kernel_rfl) h.deb hb),(let⟨tp,p,h_⟩:=h.errr;⟨tp,p,var_below (g:=4) (by kernel_rfl) h_ hb⟩),(let⟨tp,p,h_⟩:=h.errs;⟨tp,p,var_below (g:=3) (by kernel_rfl) h_ hb⟩)⟩
theorem GOK_drawn{w w':World}(h:GOK w)(hd:Drawn0 w w'):GOK w':=GOK_below h hd.below
theorem ob_len(A:Option Addr)(n m c d:Nat):(Value.slice A n c).ownBlock=(Value.slice A m d).ownBlock:=by cases A<;>rfl
theorem bc_{w:World}{g:Nat}{t:TypeId}{cs:Array Value}(h:w.heap[g]? =some (.cells cs t (0,0)))(i:Nat):w.cell? ⟨g,i,none⟩=cs[i]? :=blk_cell h i
theorem bN_{w:World}{g:Nat}{o:Obj}(h:w.heap[g]? =some o)(n:Nat):(w.drewN n).heap[g]? =some o:=blk_drewN h n
theorem bA_{w:World}{g:Nat}{o:Obj}(h:w.heap[g]? =some o)(o':Obj):(w.alloc o').heap[g]? =some o:=blk_alloc h o'
theorem bD_{w:World}{g:Nat}{o:Obj}(h:w.heap[g]? =some o):w.drew.heap[g]? =some o:=blk_drew h
theorem sB_{w W:World}{g j:Nat}{v:Value}(h:Below w.heap.size w W)(hg:w.heap.size≤g):Below w.heap.size w (W.setCell ⟨g,j,none⟩ v):=below_set h hg
theorem pN_{B:Nat}{w W:World}(h:Below B w W)(n:Nat):Below B w (W.drewN n):=pw_below_drewN h n
theorem dB_{base:Nat}{w W:World}(h:Below base w W):Below base w W.drew:=below_drew1 h
theorem aB_{w W:World}(h:Below w.heap.size w W)(o:Obj):Below w.heap.size w (W.alloc o):=below_alloc h o
theorem bB_{w w1:World}{g:Nat}{o:Obj}(h:w.heap[g]? =some o)(hb:Below w.heap.size w w1):w1.heap[g]? =some o:=blk_below h hb
theorem bF_{w:World}{g:Nat}{t:TypeId}{cs:Array Value}(h:w.heap[g]? =some (.cells cs t (0,0)))(i:Nat):w.frozen? ⟨g,i,none⟩=false:=blk_frozen h i
theorem rA_{α:Type}{d:Kd α}{e:Nat}{w:World}{base:Nat}{ok:Nat→Prop}{v:Value}{xs:List α}(h:d.R e w base ok v xs)(o:Obj):d.R e (w.alloc o) base ok v xs:=Kd.R_alloc h o
theorem rN_{α:Type}{d:Kd α}{e:Nat}{w:World}{base:Nat}{ok:Nat→Prop}{v:Value}{xs:List α}(h:d.R e w base ok v xs)(m:Nat):d.R e (w.drewN m) base ok v xs:=Kd.R_drewN h m
theorem rD_{α:Type}{d:Kd α}{e:Nat}{w:World}{base:Nat}{ok:Nat→Prop}{v:Value}{xs:List α}(h:d.R e w base ok v xs):d.R e w.drew base ok v xs:=Kd.R_drew h
theorem rF_{α:Type}{d:Kd α}{e:Nat}{w:World}{base:Nat}{ok:Nat→Prop}{v:Value}{xs:List α}(h:d.R e w base ok v xs){p:Addr}(hok:∀k,ok k→k≠p.block)(u:Value):d.R e (w.setCell p u) base ok v xs:=Kd.R_far h hok u
theorem info3:(Tryz.prog.info? 3).map (fun i=>(i.zero,i.size,i.bytes))=some (some (.int .i64 0),1,8):=by kernel_rfl
theorem info5:(Tryz.prog.info? 5).map (fun i=>(i.zero,i.size,i.bytes))=some (some (.int .u8 0),1,1):=by kernel_rfl
theorem info9:(Tryz.prog.info? 9).map (fun i=>(i.zero,i.size,i.bytes))=some (some (.string ⟨#[]⟩),1,16):=by kernel_rfl
theorem info22:(Tryz.prog.info? 22).map (fun i=>(i.zero,i.size,i.bytes))=some (some (.slice none 0 0),1,24):=by kernel_rfl
theorem info50:(Tryz.prog.info? 50).map (fun i=>(i.zero,i.size,i.bytes))=some (some (.agg #[(.string ⟨#[]⟩),(.string ⟨#[]⟩),(.slice none 0 0),(.string ⟨#[]⟩)]),4,72):=by kernel_rfl
theorem info83:(Tryz.prog.info? 83).map (fun i=>(i.zero,i.size,i.bytes))=some (some (.agg #[(.string ⟨#[]⟩),(.string ⟨#[]⟩)]),2,32):=by kernel_rfl
def rd_L2(xs:List (List Int))(i:Int):(List Int):=xs.getD i.toNat ([]:List Int)
theorem at_L2{w:World}{A:Option Addr}{n:Nat}{xs:List (List Int)}(h:Kd.C (Kd.slice 5 (Kd.int .u8)) w A n xs)(i:Int)(h0:0≤i)(h1:i<n):∃ad A0 c0,A=some ad∧w.cell? (ad.add i.toNat)=some (.slice A0 (rd_L2 xs i).length c0)∧(rd_L2 xs i).length≤c0∧(Kd.int .u8).C w A0 (rd_L2 xs i).length (rd_L2 xs i):=by
 obtain⟨ad,c,e,_,hK,hc0⟩:=Kd.C_get h ([]:List Int) i h0 h1;have hc:∀j u,c[j]? =some u→w.cell? (ad.add (i.toNat*1+j))=some u:=hc0;obtain⟨A0,c0,rfl,l0,g0⟩:=hK;exact⟨ad,A0,c0,e,by have hq:=hc 0 _ rfl;rwa[Nat.mul_one,Nat.add_zero]at hq,l0,g0⟩
structure S83 where
 f0:ByteArray
 f1:ByteArray
def z83:S83:=⟨(⟨#[]⟩:BA),(⟨#[]⟩:BA)⟩
def k83:Kd S83:=Kd.iso (Kd.pair Kd.string Kd.string) (fun x:S83=>(x.f0,x.f1))
theorem k83_open{w:World}{x:S83}{cs:List Value}(h:k83.K w x cs):cs=[.string x.f0,.string x.f1]:=by
 obtain⟨_,_,rfl,rfl,rfl⟩:=h;exact rfl
theorem k83_openM{w:World}{base:Nat}{ok:Nat→Prop}{x:S83}{cs:List Value}(h:k83.M w base ok x cs):cs=[.string x.f0,.string x.f1]:=by
 obtain⟨_,_,rfl,rfl,rfl⟩:=h;exact rfl
theorem k83_mk(w:World)(x:S83):k83.K w x [.string x.f0,.string x.f1]:=⟨[.string x.f0],[.string x.f1],rfl,rfl,rfl⟩
theorem k83_mkM(w:World)(base:Nat)(ok:Nat→Prop)(x:S83):k83.M w base ok x [.string x.f0,.string x.f1]:=⟨[.string x.f0],[.string x.f1],rfl,rfl,rfl⟩
theorem k83_mkF(W:World)(ok:Nat→Prop)(x:S83):Kd.FK k83 W ok x [.string x.f0,.string x.f1]:=fun W2 _=>k83_mk W2 x
def rd_T83(xs:List S83)(i:Int):S83:=xs.getD i.toNat z83
theorem at_T83{w:World}{A:Option Addr}{n:Nat}{xs:List S83}(h:Kd.C k83 w A n xs)(i:Int)(h0:0≤i)(h1:i<n):∃ad,A=some ad∧w.cell? (ad.add (i.toNat*2))=some (.string (rd_T83 xs i).f0)∧w.cell? ⟨(ad.add (i.toNat*2)).block,(ad.add (i.toNat*2)).off+1,none⟩=some (.string (rd_T83 xs i).f1):=by
 obtain⟨ad,c,e,_,hK,hc0⟩:=Kd.C_get h z83 i h0 h1;have hc:∀j u,c[j]? =some u→w.cell? (ad.add (i.toNat*2+j))=some u:=hc0;obtain rfl:=k83_open hK;exact⟨ad,e,hc 0 _ rfl,by rw[←add_field _ _ 1 (by omega)];exact hc 1 _ rfl⟩
def rd_L5(xs:List (List S83))(i:Int):(List S83):=xs.getD i.toNat ([]:List S83)
theorem at_L5{w:World}{A:Option Addr}{n:Nat}{xs:List (List S83)}(h:Kd.C (Kd.slice 83 k83) w A n xs)(i:Int)(h0:0≤i)(h1:i<n):∃ad A0 c0,A=some ad∧w.cell? (ad.add i.toNat)=some (.slice A0 (rd_L5 xs i).length c0)∧(rd_L5 xs i).length≤c0∧k83.C w A0 (rd_L5 xs i).length (rd_L5 xs i):=by
 obtain⟨ad,c,e,_,hK,hc0⟩:=Kd.C_get h ([]:List S83) i h0 h1;have hc:∀j u,c[j]? =some u→w.cell? (ad.add (i.toNat*1+j))=some u:=hc0;obtain⟨A0,c0,rfl,l0,g0⟩:=hK;exact⟨ad,A0,c0,e,by have hq:=hc 0 _ rfl;rwa[Nat.mul_one,Nat.add_zero]at hq,l0,g0⟩
structure S50 where
 f0:ByteArray
 f1:ByteArray
 f2:(List S83)
 f3:ByteArray
def z50:S50:=⟨(⟨#[]⟩:BA),(⟨#[]⟩:BA),([]:List S83),(⟨#[]⟩:BA)⟩
def k50:Kd S50:=Kd.iso (Kd.pair Kd.string (Kd.pair Kd.string (Kd.pair (Kd.slice 83 k83) Kd.string))) (fun x:S50=>(x.f0,x.f1,x.f2,x.f3))
theorem k50_open{w:World}{x:S50}{cs:List Value}(h:k50.K w x cs):∃A2 c2,cs=[.string x.f0,.string x.f1,.slice A2 x.f2.length c2,.string x.f3]∧x.f2.length≤c2∧k83.C w A2 x.f2.length x.f2:=by
 obtain⟨_,_,rfl,rfl,⟨_,_,rfl,rfl,⟨_,_,rfl,⟨A2,c2,rfl,l2,g2⟩,rfl⟩⟩⟩:=h;exact⟨A2,c2,rfl,l2,g2⟩
theorem k50_openM{w:World}{base:Nat}{ok:Nat→Prop}{x:S50}{cs:List Value}(h:k50.M w base ok x cs):∃v2,cs=[.string x.f0,.string x.f1,v2,.string x.f3]∧k83.R 83 w base ok v2 x.f2:=by
 obtain⟨_,_,rfl,rfl,⟨_,_,rfl,rfl,⟨_,_,rfl,⟨v2,rfl,g2⟩,rfl⟩⟩⟩:=h;exact⟨v2,rfl,g2⟩
theorem k50_mk(w:World)(x:S50){A2:Option Addr}{c2:Nat}(l2:x.f2.length≤c2)(g2:k83.C w A2 x.f2.length x.f2):k50.K w x [.string x.f0,.string x.f1,.slice A2 x.f2.length c2,.string x.f3]:=⟨[.string x.f0],[.string x.f1,.slice A2 x.f2.length c2,.string x.f3],rfl,rfl,⟨[.string x.f1],[.slice A2 x.f2.length c2,.string x.f3],rfl,rfl,⟨[.slice A2 x.f2.length c2],[.string x.f3],rfl,⟨A2,c2,rfl,l2,g2⟩,rfl⟩⟩⟩
theorem k50_mkM(w:World)(base:Nat)(ok:Nat→Prop)(x:S50){v2:Value}(g2:k83.R 83 w base ok v2 x.f2):k50.M w base ok x [.string x.f0,.string x.f1,v2,.string x.f3]:=⟨[.string x.f0],[.string x.f1,v2,.string x.f3],rfl,rfl,⟨[.string x.f1],[v2,.string x.f3],rfl,rfl,⟨[v2],[.string x.f3],rfl,⟨v2,rfl,g2⟩,rfl⟩⟩⟩
theorem k50_openF{W:World}{ok:Nat→Prop}{x:S50}{cs:List Value}(h:Kd.FK k50 W ok x cs):∃A2 c2,cs=[.string x.f0,.string x.f1,.slice A2 x.f2.length c2,.string x.f3]∧x.f2.length≤c2∧Kd.F k83 W ok A2 x.f2.length x.f2:=by
 obtain⟨A2,c2,rfl,l2,_⟩:=k50_open (Kd.FK_now h);exact⟨A2,c2,rfl,l2,(fun W' hW=>by obtain⟨A2_,c2_,he,l2_,g2_⟩:=k50_open (h W' hW);injection(Option.some.inj (show some (Value.slice A2 x.f2.length c2)=some (Value.slice A2_ x.f2.length c2_)from congrArg (fun l=>l[2]?) he))with ha_ _ _;rw[ha_];exact g2_)⟩
theorem k50_mkF(W:World)(ok:Nat→Prop)(x:S50){A2:Option Addr}{c2:Nat}(l2:x.f2.length≤c2)(g2:Kd.F k83 W ok A2 x.f2.length x.f2):Kd.FK k50 W ok x [.string x.f0,.string x.f1,.slice A2 x.f2.length c2,.string x.f3]:=fun W2 hW=>k50_mk W2 x l2 (g2 W2 hW)
def rd_T50(xs:List S50)(i:Int):S50:=xs.getD i.toNat z50
theorem at_T50{w:World}{A:Option Addr}{n:Nat}{xs:List S50}(h:Kd.C k50 w A n xs)(i:Int)(h0:0≤i)(h1:i<n):∃ad A2 c2,A=some ad∧w.cell? (ad.add (i.toNat*4))=some (.string (rd_T50 xs i).f0)∧w.cell? ⟨(ad.add (i.toNat*4)).block,(ad.add (i.toNat*4)).off+1,none⟩=some (.string (rd_T50 xs i).f1)∧w.cell? ⟨(ad.add (i.toNat*4)).block,(ad.add (i.toNat*4)).off+2,none⟩=some (.slice A2 (rd_T50 xs i).f2.length c2)∧w.cell? ⟨(ad.add (i.toNat*4)).block,(ad.add (i.toNat*4)).off+3,none⟩=some (.string (rd_T50 xs i).f3)∧(rd_T50 xs i).f2.length≤c2∧k83.C w A2 (rd_T50 xs i).f2.length (rd_T50 xs i).f2:=by
 obtain⟨ad,c,e,_,hK,hc0⟩:=Kd.C_get h z50 i h0 h1;have hc:∀j u,c[j]? =some u→w.cell? (ad.add (i.toNat*4+j))=some u:=hc0;obtain⟨A2,c2,rfl,l2,g2⟩:=k50_open hK;exact⟨ad,A2,c2,e,hc 0 _ rfl,by rw[←add_field _ _ 1 (by omega)];exact hc 1 _ rfl,by rw[←add_field _ _ 2 (by omega)];exact hc 2 _ rfl,by rw[←add_field _ _ 3 (by omega)];exact hc 3 _ rfl,l2,g2⟩
end Go.Proofs.YtmojemogpelpnaaGreatDoor.GFnWires
namespace Go.Proofs.YtmojemogpelpnaaGreatDoor.GFnWires
open Go.RowKit Go.Proofs.YtmojemogpelpnaaGreatDoorW.PrintWords Go.Proofs.YtmojemogpelpnaaGreatDoorW.PrintLast Go.Proofs.YtmojemogpelpnaaGreatDoorW.PrintMore
attribute [local go_sem] max2_int min2_int max_two min_two max_three min_three max_four min_four
set_option linter.unusedVariables false
set_option linter.unusedSimpArgs false
theorem eqA83(d:Nat)(w:World)(x0 y0:ByteArray)(x1 y1:ByteArray):
  (Op.equalIn (d+2) 83 (.agg #[.string x0,.string x1]) (.agg #[.string y0,.string y1])).run Tryz.prog w= .ok (x0.toList==y0.toList&&(x1.toList==y1.toList)) w:=by
 refine eqA_of Tryz.underlying83 (by kernel_rfl) ?_;refine eqf_cons (by rfl) (by go_simp;rfl) (by go_simp;rfl) (by go_simp) ?_;exact eqf_last (by rfl) (by go_simp;rfl) (by go_simp;rfl) (by go_simp)
end Go.Proofs.YtmojemogpelpnaaGreatDoor.GFnWires
