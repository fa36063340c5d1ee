import Derived.Test.YtmojemogpelpnaaGreatDoorGFnWiresx0
import Derived.Test.YtmojemogpelpnaaGreatDoorGFnWiresx2
import Derived.Test.YtmojemogpelpnaaGreatDoorGFnWiresx6
namespace Go.Proofs.YtmojemogpelpnaaGreatDoor.GFnWires
open Go.RowKit Go.Proofs.YtmojemogpelpnaaGreatDoorW.PrintWords Go.Proofs.YtmojemogpelpnaaGreatDoorW.PrintLast Go.Proofs.YtmojemogpelpnaaGreatDoorW.PrintMore
attribute [local go_sem] max2_int min2_int max_two min_two max_three min_three max_four min_four
set_option linter.unusedVariables false
set_option linter.unusedSimpArgs false
set_option maxRecDepth 100000
set_option maxHeartbeats 8000000
def spec_l6Bytes.l0:Nat→List Int→Int→List Int→Int→Int→Option (List Int×Int×Int)
 |0,_,_,_,_,_=>none
 |k+1,a,b,c,d,e=>if b>0 then((spec_l3Bytes.f k c d e).bind fun g=>(if a.length+g.1.length<140737488355328 then(spec_l6Bytes.l0 k (a++g.1) (wrap64 (b-1)) c g.2.1 g.2.2)else(none)))else(some (a,d,e))
def spec_l6Bytes.f(k:Nat)(a:List Int)(b:Int)(c:Int):Option (List Int×Int×Int):=(spec_l1Below.f a b c 3).bind fun d=>(spec_l6Bytes.l0 k (([]:List Int)) (wrap64 (1+d.1)) a d.2.1 d.2.2)
theorem spec_l6Bytes.calls(k:Nat)(g:Nat)(s0_0:List Int)(s0_1:Int)(s0_2:Int)(r1:List Int)(r2:Int)(r3:Int)(w0 w:World)(hI:IsS55 w0 w g s0_0 s0_1 s0_2)(hB:Below w0.heap.size w0 w)(h:spec_l6Bytes.f k s0_0 s0_1 s0_2=some (r1,r2,r3)):
  Calls Tryz.prog 16 #[.pointer (some ⟨g,0,none⟩)] w fun e w'=>∃v0_:Value,e= .returned (v0_)∧Kd.R (Kd.int .u8) 5 w' w.heap.size (fun _=>True) v0_ r1∧IsS55 w0 w' g s0_0 r2 r3∧Below w0.heap.size w0 w'∧KeepBut w w' g none:=by
 have HI0:=aK hI;have HK:=aK (KeepBut.refl w g none);have HL:=aK hB.size;clear hI;have HW0:=aK hB.size;have HB:=aK hB;clear hB;have H:=h;clear h;unfold spec_l6Bytes.f at H
 (first|(with_reducible replace H:=oS H;obtain⟨y1,Ny1,H⟩:=H)|(generalize hy_:(([]:List Int):List Int)=y1 at H;have Ny1:=aK hy_.symm;clear hy_));(try dsimp only at H);replace H:=oB H;obtain⟨⟨t1,t2,t3⟩,A1,H⟩:=H;(try dsimp only at H);have H':=aK H;clear H;go_enter Tryz.func16,Tryz.ntmps16
 go_wp2_with (first|((with_reducible refine gate_dst (N:=5) rfl ?_);refine Kd.R_lit (Kd.int .u8) _ 5 ?hg (N:=5) ?hd (xs:=([]:List Int)) (inner:=[]) (ok:=fun _=>True) (okp:=fun _=>True) ?hr ?hp (fun _ hk=>hk) trivial (Below.refl _ _) (Nat.le_refl _) (by simp) ?_;(case hd=>rfl);(case hg=>rfl);(case hr=>exact q22_);(case hp=>exact q95_);intro v1 w1 ho1 hb hg_ hnew_;clear hg_ hnew_;(first|rw[←Ny1.1]at ho1|(simp only[Int.reduceToNat]at ho1;rw[←Ny1.1]at ho1));have HO1:=aK (Kd.R_lower ho1 (keep_size (w:=w) (g:=g) (row:=none) q4_));replace HK:=aK (KeepBut.trans q4_ (KeepBut.of_below hb g none) (.inl rfl));replace HB:=aK (below_step q14_ hb);replace HI0:=aK (IsS55.below q9_ hb);clear hb ho1)|((with_reducible refine gate_callee (f:=20) rfl ?_);refine goesL_ (some 7) rfl rfl Tryz.func20 (by kernel_rfl) rfl #[.pointer (some ⟨g,0,none⟩),.int .i64 3] rfl q1_ ?_;(with_reducible refine(spec_l1Below.calls g s0_0 s0_1 s0_2 3 t1 t2 t3 w0 _ ?side1 ?side2 A1.1).mono ?_);(case side1=>exact q9_);(case side2=>exact q14_);rintro e w2 ⟨rfl,hi,hb,hk⟩;refine⟨_,rfl,?_⟩;replace HO1:=aK (Kd.R_mono (Kd.R_keep (IsS55.apart (show IsS55 w0 _ g s0_0 s0_1 s0_2 from q9_) q26_ (by decide)) hk (fun _ h=>h.2)) (fun _ h=>h.1));replace HK:=aK (KeepBut.trans q4_ hk (.inl rfl));replace HB:=aK (hb);replace HI0:=aK (hi);clear hb hk hi))
 go_loopg [3,4] k (fun kq v2 v3 w'=>∃(x1:List Int)(x2:Int)(x3:Int)(x4:Int),v3= .int .i64 x2∧Aside0 (spec_l6Bytes.l0 kq x1 x2 s0_0 x3 x4=some (r1,r2,r3))∧Aside0 (kq≤k)∧Aside0 (Kd.R (Kd.int .u8) 5 w' w.heap.size (fun _=>True) v2 x1)∧Aside0 (IsS55 w0 w' g s0_0 x3 x4)∧Aside0 (KeepBut w w' g none)∧Aside0 (Below w0.heap.size w0 w'))
 case atStart=>exact⟨(y1),(wrap64 (1+t1)),(t2),(t3),q3_,H',⟨Nat.le_refl _⟩,⟨q41_⟩,⟨q9_⟩,⟨q4_⟩,⟨q14_⟩⟩
 case round=>
  clear H';(try clear c1);(try clear c2);(try clear p2);obtain⟨x1,x2,x3,x4,rfl,HA,HK1,HO2,HI0,HK,HB⟩:=hrel;cases gk with
  |zero=>exact absurd HA.1 (by simp[spec_l6Bytes.l0])
  |succ k1=>
   have H:=HA.1;clear HA;simp only[spec_l6Bytes.l0]at H;replace H:=iB H;rcases H with⟨c3,H⟩|⟨c3,H⟩
   ·have c3b0:decide (0<x2)=true:=decide_eq_true c3;clear c3;replace H:=oB H;obtain⟨⟨t4,t5,t6⟩,A2,H⟩:=H;(try dsimp only at H);replace H:=iL H;obtain⟨LMc4,H⟩:=H;(first|(with_reducible replace H:=oS H;obtain⟨y2,Ny2,H⟩:=H)|(generalize hy_:(x1++t4:List Int)=y2 at H;have Ny2:=aK hy_.symm;clear hy_));(try dsimp only at H);have H':=aK H;clear H;go_wp2_with (first|((with_reducible refine gate_callee (f:=25) rfl ?_);refine goesL_ (some 15) rfl rfl Tryz.func25 (by kernel_rfl) rfl #[.pointer (some ⟨g,0,none⟩)] rfl q1_ ?_;(with_reducible refine(spec_l3Bytes.calls k1 g s0_0 x3 x4 t4 t5 t6 w0 _ ?side1 ?side2 A2.1).mono ?_);(case side1=>exact q9_);(case side2=>exact q14_);rintro e w3 ⟨v4,rfl,ho2,hi,hb,hk⟩;refine⟨_,rfl,?_⟩;have HO3:=aK (Kd.R_lower (Kd.R_new' ho2 (Kd.R_lt q21_)) (keep_size (w:=w) (g:=g) (row:=none) q4_));replace HO2:=aK (Kd.R_mono (Kd.R_told (Kd.R_oldK (IsS55.apart (show IsS55 w0 _ g s0_0 x3 x4 from q9_) q21_ (by decide)) hk) (Kd.R_base ho2)) (fun _ h_=>h_.1));replace HK:=aK (KeepBut.trans q4_ hk (.inl rfl));replace HB:=aK (hb);replace HI0:=aK (hi);clear hb hk hi ho2;obtain⟨Ao1,co1,eo1⟩:=Kd.R_slice HO3.1;subst eo1)|((with_reducible refine gate_builtin (b:= .append) (xs:= #[.tmp 13,.tmp 15]) rfl ?_);at_builtin;refine Kd.R_append_rows (Kd.int .u8) w.heap.size rfl (.tmp 13) (.tmp 15) 22 5 (.int .u8 0) 1 rfl Tryz.underlying22 info5 rfl (by decide) (by omega) u3 x1 t4 _ _ _ (fun k_=>some k_≠(.slice Ao1 t4.length co1:Value).ownBlock) (fun _=>False) rfl rfl ?aO ?aR (fun _ _ h=>h) (fun _ h=>h.elim) ?aF (Below.refl _ _) ?aS ?aL ?_;(case aR=>exact q152_);(case aF=>exact(fun k_ hk=>Kd.fresh' (Kd.R_lt q52_) k_ hk));(case aO=>exact q117_);(case aS=>exact q111_);(case aL=>have:=LMc4.1;omega);intro v5 w4 ho hb hg hat;rw[←Ny2.1]at ho;replace HO3:=aK (Kd.R_after (ok:=(fun _=>True)) q52_ hg hat);replace HB:=aK (below_weaken q14_ HL.1 hb);replace HI0:=aK (IsS55.grown (show IsS55 w0 _ g s0_0 t5 t6 from q9_) hg (IsS55.own_ne HI0.1 HO2.1 (by decide)));replace HK:=aK (KeepBut.trans q4_ (KeepBut.of_grown hg g) (Kd.R_base2 HO2.1));have HO4:=aK (ho);clear HO2;clear ho hb hg hat))
    go_roundg k1
    case measure=>have:=HK1.1;omega
    case rel=>exact⟨(y2),(wrap64 (x2-1)),(t5),(t6),q3_,H',⟨q81_⟩,⟨q239_⟩,⟨q9_⟩,⟨q4_⟩,⟨q14_⟩⟩
   ·have c3b0:decide (0<x2)=false:=decide_eq_false c3;clear c3;simp only[Option.some.injEq,Prod.mk.injEq]at H;obtain⟨rfl,rfl,rfl⟩:=H;go_wp2
    go_ret
    exact⟨_,q11_,q21_,q9_,q14_,q4_⟩
def spec_DrawFeedAll.f(k:Nat)(l0:List Int):Option ((List (List Int))):=(spec_l1New.f k l0).bind fun a=>((spec_l6Bytes.f k a.1 a.2.1 a.2.2).bind fun b=>((spec_l6Cut.f k a.1 b.2.1 b.2.2 b.1).bind fun c=>(some c.1)))
theorem spec_DrawFeedAll.calls(k:Nat)(A0:Option Addr)(c0:Nat)(l0:List Int)(r:List (List Int))(w:World)(hr0:Kd.C (Kd.int .u8) w A0 l0.length l0)(hc0:l0.length≤c0)(h:spec_DrawFeedAll.f k l0=some r):
  Calls Tryz.prog 5 #[.slice A0 l0.length c0] w fun e w'=>∃v0_:Value,e= .returned (v0_)∧Kd.S (Kd.slice 5 (Kd.int .u8)) 22 w' w.heap.size (fun _=>True) v0_ r∧Below w.heap.size w w':=by
 have HR1:=aK hr0;have HC1:=aK hc0;clear hr0 hc0;have HB:=aK (Below.refl w.heap.size w);have H:=h;clear h;unfold spec_DrawFeedAll.f at H
 replace H:=oB H;obtain⟨⟨t1,t2,t3⟩,A1,H⟩:=H;(try dsimp only at H);replace H:=oB H;obtain⟨⟨t4,t5,t6⟩,A2,H⟩:=H;(try dsimp only at H);replace H:=oB H;obtain⟨⟨t7,t8,t9⟩,A3,H⟩:=H;(try dsimp only at H);obtain rfl:=Option.some.inj H;go_enter Tryz.func5,Tryz.ntmps5
 go_wp2_with (first|((with_reducible refine gate_callee (f:=14) rfl ?_);refine goesL_ (some 5) rfl rfl Tryz.func14 (by kernel_rfl) rfl #[.slice A0 l0.length c0] rfl q1_ ?_;(with_reducible refine(spec_l1New.calls k _ _ l0 t1 t2 t3 w _ ?side1 ?side2 ?side3 A1.1).mono ?_);(case side1=>exact q2_);(case side2=>exact HR1.1);(case side3=>exact q174_);rintro e w1 ⟨g403,rfl,hi,hb,hb2⟩;refine⟨_,rfl,?_⟩;replace HB:=aK (hb);have HI403:=aK (hi);clear hb hb2 hi)|((with_reducible refine gate_callee (f:=16) rfl ?_);refine goesL_ (some 8) rfl rfl Tryz.func16 (by kernel_rfl) rfl #[.pointer (some ⟨g403,0,none⟩)] rfl q1_ ?_;(with_reducible refine(spec_l6Bytes.calls k g403 t1 t2 t3 t4 t5 t6 w _ ?side1 ?side2 A2.1).mono ?_);(case side1=>exact q132_);(case side2=>exact q100_);rintro e w2 ⟨v1,rfl,ho1,hi,hb,hk⟩;refine⟨_,rfl,?_⟩;have HO1:=aK (Kd.R_lower ho1 (below_size q100_));replace HB:=aK (hb);replace HI403:=aK (hi);clear hb hk hi ho1;obtain⟨Ao1,co1,eo1⟩:=Kd.R_slice HO1.1;subst eo1)|((with_reducible refine gate_callee (f:=15) rfl ?_);refine goesL_ (some 9) rfl rfl Tryz.func15 (by kernel_rfl) rfl #[.pointer (some ⟨g403,0,none⟩),.slice Ao1 t4.length co1] rfl q1_ ?_;(with_reducible refine(spec_l6Cut.calls k g403 t1 t5 t6 (fun k_=>some k_=(.slice Ao1 t4.length co1:Value).ownBlock) _ _ t4 t7 t8 t9 w _ ?side1 ?side2 ?side3 A3.1).mono ?_);(case side1=>exact q132_);(case side2=>exact q100_);(case side3=>exact Kd.V_mono (Kd.R_V (Kd.R_tight rfl (IsS55.apart HI403.1 (HO1.1) (by decide)))) (fun k_ hk_=>⟨hk_,((IsS55.apart HI403.1 (HO1.1) (by decide)).1 k_ hk_.symm).2⟩));rintro e w3 ⟨v2,rfl,ho1,hi,hb,hk⟩;refine⟨_,rfl,?_⟩;have HO2:=aK (Kd.S_lower (Kd.S_new' (Kd.S_mono (ok':=fun k_=>True) ho1 (fun _ hk_=>trivial)) (Kd.R_lt q26_)) (below_size q100_));replace HO1:=aK (Kd.R_mono (Kd.R_keep (IsS55.apart (show IsS55 w _ g403 t1 t5 t6 from q132_) q26_ (by decide)) hk (fun _ h=>h.2)) (fun _ h=>h.1));replace HB:=aK (hb);replace HI403:=aK (hi);clear hb hk hi ho1))
 go_ret
 exact⟨_,q11_,by(with_reducible repeat(first|apply Kd.S_alloc|apply Kd.S_drewN|apply Kd.S_drew));exact Kd.S_mono HO2.1 (fun _ hk=>trivial),q100_⟩
def impl_copyBytes.f(l0:List Int):Option (List Int):=if([]:List Int).length+l0.length<140737488355328 then(some (([]:List Int)++l0))else(none)
theorem impl_copyBytes.calls(A0:Option Addr)(c0:Nat)(l0:List Int)(r:List Int)(w:World)(hr0:Kd.C (Kd.int .u8) w A0 l0.length l0)(hc0:l0.length≤c0)(h:impl_copyBytes.f l0=some r):
  Calls Tryz.prog 18 #[.slice A0 l0.length c0] w fun e w'=>∃v0_:Value,e= .returned (v0_)∧Kd.R (Kd.int .u8) 5 w' w.heap.size (fun _=>True) v0_ r∧Below w.heap.size w w':=by
 have HR1:=aK hr0;have HC1:=aK hc0;clear hr0 hc0;have HB:=aK (Below.refl w.heap.size w);have H:=h;clear h;unfold impl_copyBytes.f at H
 replace H:=iL H;obtain⟨LMc1,H⟩:=H;(first|(with_reducible replace H:=oS H;obtain⟨y1,Ny1,H⟩:=H)|(generalize hy_:(([]:List Int)++l0:List Int)=y1 at H;have Ny1:=aK hy_.symm;clear hy_));(try dsimp only at H);obtain rfl:=Option.some.inj H;go_enter Tryz.func18,Tryz.ntmps18
 go_wp2_with (first|((with_reducible refine gate_builtin (b:= .append) (xs:= #[.const (.slice none 0 0),.tmp 3]) rfl ?_);at_builtin;refine Kd.R_append_rows (Kd.int .u8) (w0:=w) w.heap.size rfl (.const (.slice none 0 0)) (.tmp 3) 22 5 (.int .u8 0) 1 rfl Tryz.underlying22 info5 rfl (by decide) (by omega) (.slice none 0 0) ([]:List Int) l0 _ _ _ (fun _=>True) (fun _=>False) rfl rfl ?aO ?aR (fun _ _ h=>h) (fun _ h=>h.elim) ?aF ?aB ?aS ?aL ?_;(case aR=>exact q83_);(case aB=>exact q2_);(case aF=>exact q84_);(case aO=>exact q194_);(case aS=>exact q149_);(case aL=>have:=LMc1.1;omega);intro v1 w1 ho hb hg hat;rw[←Ny1.1]at ho;replace HB:=aK (hb);have HO1:=aK (ho);clear ho hb hg hat))
 go_ret
 exact⟨_,q11_,q26_,q2_⟩
def strings_Index.f(a:ByteArray)(b:ByteArray):Option Int:=if a.size<4294967281 then some (Lib.index a.data.toList b.data.toList)else none
theorem strings_Index.calls(a0:ByteArray)(a1:ByteArray)(r:Int)(w:World)(h:strings_Index.f a0 a1=some r)(hG:GOK w):
  Calls Tryz.prog 51 #[.string a0,.string a1] w fun e w'=>e= .returned (.int .i64 r)∧Drawn0 w w':=by
 unfold strings_Index.f at h
 split at h
 ·rename_i hs
  obtain rfl:=Option.some.inj h;obtain⟨m,hm⟩:=hG.maxlen;exact(Go.Proofs.YtmojemogpelpnaaGreatDoor.Shelf.Tryz.strings_Index a0 a1 m w hs hm).mono fun e w' ⟨he,hw⟩=>⟨he,by subst hw;exact Drawn0.refl _⟩
 ·cases h
def impl_HeadEnd.f(l0:List Int):Option (Int):=if 0≤(mn (l0.length:Int) 400)then(if(mn (l0.length:Int) 400)≤(l0.length:Int)then((strings_Index.f (strOfNums (l0.take ((mn (l0.length:Int) 400):Int).toNat)) (⟨#[13,10,13,10]⟩:BA)).bind fun a=>(if a<0 then(some (-1))else(some (wrap64 (a+4)))))else(none))else(none)
theorem impl_HeadEnd.calls(A0:Option Addr)(c0:Nat)(l0:List Int)(r:Int)(w:World)(hr0:Kd.C (Kd.int .u8) w A0 l0.length l0)(hc0:l0.length≤c0)(h:impl_HeadEnd.f l0=some r)(hG:GOK w):
  Calls Tryz.prog 36 #[.slice A0 l0.length c0] w fun e w'=>e= .returned (.int .i64 r)∧Below w.heap.size w w':=by
 have HR1:=aK hr0;have HC1:=aK hc0;clear hr0 hc0;have HB:=aK (Below.refl w.heap.size w);have H:=h;clear h;unfold impl_HeadEnd.f at H
 obtain⟨ji2,hji2⟩:∃j_:Int,(mn (l0.length:Int) 400)=j_:=⟨_,rfl⟩;replace H:(if 0≤(ji2)then(if(ji2)≤(l0.length:Int)then((strings_Index.f (strOfNums (l0.take ((ji2):Int).toNat)) (⟨#[13,10,13,10]⟩:BA)).bind fun t1=>(if t1<0 then(some (-1))else(some (wrap64 (t1+4)))))else(none))else(none))=some r:=by first|(rw[hji2]at H;exact H)|(simp only[hji2]at H⊢;exact H)
 (try(have hji2h:ji2≤400:=by(rw[←hji2];unfold mn;(repeat' split)<;>omega)));(try(have hji2g:ji2≤64:=by omega));(try(have hji2l:0≤ji2:=by(rw[←hji2];unfold mn;(repeat' split)<;>omega)));(try(have hji2m:0≤ji2:=by omega));have hji2_:(if 400<(l0.length:Int)then 400 else(l0.length:Int))=ji2:=hji2;replace H:=iU H;obtain⟨-,c1b0,c1b1,H⟩:=H;replace H:=iU H;obtain⟨-,c2b0,c2b1,H⟩:=H;replace H:=oB H;obtain⟨t1,A1,H⟩:=H;(try dsimp only at H);replace H:=iD H;rcases H with⟨c3b0,H⟩|⟨c3b0,H⟩
 ·obtain rfl:=Option.some.inj H;obtain⟨i07,hi07,_,hsz7,_⟩:=info_parts info5;obtain⟨hcut7,hA7,hC7⟩:=print_take_of (P:=Tryz.prog) (Value.int .u8) 0 22 5 .i64 Tryz.underlying22 hi07 hsz7 A0 c0 l0 (ji2) (of_decide_eq_true q6_) (of_decide_eq_true q6_) HC1.1;have HR2:=aK (Kd.C_of_reads (h1:=fun _=>rfl) (hA7 _ (Kd.reads_of_C HR1.1)));have HC2:=aK hC7;clear hA7 hC7 hi07 hsz7;have hq_:=HR2.1;rw[show(l0.take ((ji2):Int).toNat).length=(ji2).toNat from(by rw[List.length_take];have h_:((ji2):Int)≤(l0.length:Int):=of_decide_eq_true q6_;omega)]at hq_;have hcv8:=Kd.C_string (P:=Tryz.prog) (A:=A0) (c:=c0) Tryz.underlying22 Tryz.underlying5 Tryz.underlying9 hq_;have hcv9:=fun nq_:Nat=>Kd.C_string (P:=Tryz.prog) (A:=A0) (c:=c0) Tryz.underlying22 Tryz.underlying5 Tryz.underlying9 (Kd.C_drewN hq_ nq_)
  clear hq_;go_enter Tryz.func36,Tryz.ntmps36
  go_wp2_with (first|((with_reducible refine gate_callee (f:=51) rfl ?_);refine goesL_ (some 10) rfl rfl Tryz.func51 (by kernel_rfl) rfl #[.string (strOfNums (l0.take ((ji2):Int).toNat)),.string (⟨#[13,10,13,10]⟩:BA)] rfl q151_ ?_;(with_reducible refine(strings_Index.calls (strOfNums (l0.take ((ji2):Int).toNat)) (⟨#[13,10,13,10]⟩:BA) t1 _ A1.1 ?side99).mono ?_);(case side99=>exact q29_);rintro e w' ⟨rfl,⟨nd,rfl⟩⟩;refine⟨_,rfl,?_⟩))
  go_ret
  exact⟨q133_,q2_⟩
 ·obtain rfl:=Option.some.inj H;obtain⟨i010,hi010,_,hsz10,_⟩:=info_parts info5;obtain⟨hcut10,hA10,hC10⟩:=print_take_of (P:=Tryz.prog) (Value.int .u8) 0 22 5 .i64 Tryz.underlying22 hi010 hsz10 A0 c0 l0 (ji2) (of_decide_eq_true q6_) (of_decide_eq_true q6_) HC1.1;have HR2:=aK (Kd.C_of_reads (h1:=fun _=>rfl) (hA10 _ (Kd.reads_of_C HR1.1)));have HC2:=aK hC10;clear hA10 hC10 hi010 hsz10;have hq_:=HR2.1;rw[show(l0.take ((ji2):Int).toNat).length=(ji2).toNat from(by rw[List.length_take];have h_:((ji2):Int)≤(l0.length:Int):=of_decide_eq_true q6_;omega)]at hq_;have hcv11:=Kd.C_string (P:=Tryz.prog) (A:=A0) (c:=c0) Tryz.underlying22 Tryz.underlying5 Tryz.underlying9 hq_;have hcv12:=fun nq_:Nat=>Kd.C_string (P:=Tryz.prog) (A:=A0) (c:=c0) Tryz.underlying22 Tryz.underlying5 Tryz.underlying9 (Kd.C_drewN hq_ nq_)
  clear hq_;go_enter Tryz.func36,Tryz.ntmps36
  go_wp2_with (first|((with_reducible refine gate_callee (f:=51) rfl ?_);refine goesL_ (some 10) rfl rfl Tryz.func51 (by kernel_rfl) rfl #[.string (strOfNums (l0.take ((ji2):Int).toNat)),.string (⟨#[13,10,13,10]⟩:BA)] rfl q151_ ?_;(with_reducible refine(strings_Index.calls (strOfNums (l0.take ((ji2):Int).toNat)) (⟨#[13,10,13,10]⟩:BA) t1 _ A1.1 ?side99).mono ?_);(case side99=>exact q29_);rintro e w' ⟨rfl,⟨nd,rfl⟩⟩;refine⟨_,rfl,?_⟩))
  go_ret
  exact⟨q133_,q2_⟩
def strings_Split.f(a:ByteArray)(b:ByteArray):Option (List ByteArray):=if a.size<4294967281∧1≤b.size then some (Go.Lib.splitB b 0 (Go.Lib.countB a b) a)else none
theorem strings_Split.calls(a0:ByteArray)(a1:ByteArray)(r:List ByteArray)(w:World)(h:strings_Split.f a0 a1=some r)(hG:GOK w):
  Calls Tryz.prog 52 #[.string a0,.string a1] w fun e w'=>∃v0_:Value,e= .returned (v0_)∧Kd.R Kd.string 9 w' w.heap.size (fun _=>True) v0_ r∧Below w.heap.size w w':=by
 unfold strings_Split.f at h
 split at h
 ·rename_i hs
  obtain rfl:=Option.some.inj h;obtain⟨m,hm⟩:=hG.maxlen;have hl:=Go.Lib.splitB_all a1 hs.2 0 _ a0 rfl;have hc:=Go.Lib.countB_le a1 hs.2 a0.size a0 (Nat.le_refl _);refine(Go.Proofs.YtmojemogpelpnaaGreatDoor.Shelf.Tryz.strings_Split a0 a1 m w hs.1 hm hs.2).mono fun e w' ⟨he,hw⟩=>⟨_,he,?_,by subst hw;exact aB_ (Below.refl _ _) _⟩
  subst hw;refine Kd.R_of_own (enc:=Value.string) (h1:=fun _=>rfl) ?_ (fun _ _=>trivial);refine⟨by simp[encs],.inr ⟨w.heap.size,_,_,by rw[hl],Nat.le_refl _,(by first|exact blk_new w _|exact HasRow.of (blk_new w _)),by rw[hl];exact Nat.le_refl _,by unfold maxLen;omega,by simp[hl],?_⟩⟩;rw[Nat.mul_one,List.take_of_length_le (by simp)];simp[encs]
 ·cases h
def impl_in.f(a:Int)(b:Int)(c:Int):Option (Bool):=if a≥b then(some (decide (a≤c)))else(some false)
theorem impl_in.calls(a0:Int)(a1:Int)(a2:Int)(r:Bool)(w:World)(h:impl_in.f a0 a1 a2=some r):
  Calls Tryz.prog 56 #[.int .i64 a0,.int .i64 a1,.int .i64 a2] w fun e w'=>e= .returned (.bool r)∧Drawn0 w w':=by
 have H:(if a0≥a1 then(some (decide (a0≤a2)))else(some false))=some r:=h;clear h;replace H:=iB H;rcases H with⟨c1,H⟩|⟨c1,H⟩
 ·have c1b0:decide (a1≤a0)=true:=decide_eq_true c1;clear c1;obtain rfl:=Option.some.inj H;go_enter Tryz.func56,Tryz.ntmps56
  go_wp2
  go_ret
  exact⟨q3_,q12_⟩
 ·have c1b0:decide (a1≤a0)=false:=decide_eq_false c1;clear c1;obtain rfl:=Option.some.inj H;go_enter Tryz.func56,Tryz.ntmps56
  go_wp2
  go_ret
  exact⟨q3_,q12_⟩
def impl_isLarge.f(a:Int):Option (Bool):=if a≥65 then(some (decide (a≤90)))else(some false)
theorem impl_isLarge.calls(a0:Int)(r:Bool)(w:World)(h:impl_isLarge.f a0=some r):
  Calls Tryz.prog 73 #[.int .u8 a0] w fun e w'=>e= .returned (.bool r)∧Drawn0 w w':=by
 have H:(if a0≥65 then(some (decide (a0≤90)))else(some false))=some r:=h;clear h;replace H:=iB H;rcases H with⟨c1,H⟩|⟨c1,H⟩
 ·have c1b0:decide (65≤a0)=true:=decide_eq_true c1;clear c1;obtain rfl:=Option.some.inj H;go_enter Tryz.func73,Tryz.ntmps73
  go_wp2
  go_ret
  exact⟨q3_,q12_⟩
 ·have c1b0:decide (65≤a0)=false:=decide_eq_false c1;clear c1;obtain rfl:=Option.some.inj H;go_enter Tryz.func73,Tryz.ntmps73
  go_wp2
  go_ret
  exact⟨q3_,q12_⟩
def impl_isPlain.f(a:Int):Option (Bool):=if a≥32 then(some (decide (a≤126)))else(some false)
theorem impl_isPlain.calls(a0:Int)(r:Bool)(w:World)(h:impl_isPlain.f a0=some r):
  Calls Tryz.prog 96 #[.int .u8 a0] w fun e w'=>e= .returned (.bool r)∧Drawn0 w w':=by
 have H:(if a0≥32 then(some (decide (a0≤126)))else(some false))=some r:=h;clear h;replace H:=iB H;rcases H with⟨c1,H⟩|⟨c1,H⟩
 ·have c1b0:decide (32≤a0)=true:=decide_eq_true c1;clear c1;obtain rfl:=Option.some.inj H;go_enter Tryz.func96,Tryz.ntmps96
  go_wp2
  go_ret
  exact⟨q3_,q12_⟩
 ·have c1b0:decide (32≤a0)=false:=decide_eq_false c1;clear c1;obtain rfl:=Option.some.inj H;go_enter Tryz.func96,Tryz.ntmps96
  go_wp2
  go_ret
  exact⟨q3_,q12_⟩
def impl_Plain.l0:Nat→ByteArray→Int→Option (Bool)
 |0,_,_=>none
 |k+1,a,b=>if b<(a.size:Int)then(if 0≤b then((impl_isPlain.f (bt a b)).bind fun c=>(if c=true then(impl_Plain.l0 k a (wrap64 (b+1)))else(some false)))else(none))else(some true)
def impl_Plain.f(k:Nat)(a:ByteArray):Option (Bool):=impl_Plain.l0 k a 0
theorem impl_Plain.calls(k:Nat)(a0:ByteArray)(r:Bool)(w:World)(h:impl_Plain.f k a0=some r):
  Calls Tryz.prog 74 #[.string a0] w fun e w'=>e= .returned (.bool r)∧Drawn0 w w':=by
 have H:(impl_Plain.l0 k a0 0)=some r:=h;clear h;have H':=aK H;clear H;go_enter Tryz.func74,Tryz.ntmps74
 go_wp2
 go_loopg [3] k (fun kq v1 w'=>∃(x1:Int),v1= .int .i64 x1∧Aside0 (impl_Plain.l0 kq a0 x1=some r)∧Aside0 (kq≤k)∧Drawn0 w w')
 case atStart=>exact⟨(0),q3_,H',⟨Nat.le_refl _⟩,q12_⟩
 case round=>
  clear H';obtain⟨x1,rfl,HA,HK1,⟨m1,rfl⟩⟩:=hrel;cases gk with
  |zero=>exact absurd HA.1 (by simp[impl_Plain.l0])
  |succ k1=>
   have H:=HA.1;clear HA;simp only[impl_Plain.l0]at H;replace H:=iD H;rcases H with⟨c1b0,H⟩|⟨c1b0,H⟩
   ·replace H:=iG H;obtain⟨c2b0,H⟩:=H;replace H:=oB H;obtain⟨t1,A1,H⟩:=H;(try dsimp only at H);have HC1:=aK H;clear H;have p4:0≤(x1:Int):=of_decide_eq_true q6_;have q4:x1<(a0.size:Int):=of_decide_eq_true q6_;have hx4:=bt_at a0 x1;replace p4:=eq_true p4;replace q4:=eq_true q4;go_upto_if 14 with(first|((with_reducible refine gate_callee (f:=96) rfl ?_);refine goesL_ (some 13) rfl rfl Tryz.func96 (by kernel_rfl) rfl #[.int .u8 (bt a0 x1)] rfl q1_ ?_;(with_reducible refine(impl_isPlain.calls (bt a0 x1) t1 _ A1.1).mono ?_);rintro e w' ⟨rfl,⟨nd,rfl⟩⟩;refine⟨_,rfl,?_⟩))
    (try simp only[Act.put,sI,sZ,sS]);have H:=HC1.1;clear HC1;replace H:=iT H;rcases H with⟨rfl,H⟩|⟨rfl,H⟩
    ·have H':=aK H;clear H;go_wp2
     go_roundg k1
     case measure=>have:=HK1.1;omega
     case rel=>exact⟨(wrap64 (x1+1)),q3_,H',⟨q81_⟩,q12_⟩
    ·obtain rfl:=Option.some.inj H;go_wp2
     go_ret
     exact⟨q3_,q12_⟩
   ·obtain rfl:=Option.some.inj H;go_wp2
    go_ret
    exact⟨q3_,q12_⟩
def strings_Contains.f(a:ByteArray)(b:ByteArray):Option Bool:=match b.data.toList with|[c]=>some (decide (0≤Lib.indexByte a.data.toList c))|_=>none
theorem strings_Contains.calls(a0:ByteArray)(a1:ByteArray)(r:Bool)(w:World)(h:strings_Contains.f a0 a1=some r):
  Calls Tryz.prog 75 #[.string a0,.string a1] w fun e w'=>e= .returned (.bool r)∧Drawn0 w w':=by
 unfold strings_Contains.f at h
 split at h
 ·rename_i c hc
  obtain rfl:=Option.some.inj h;obtain rfl:a1=⟨#[c]⟩:=by cases a1;simp only[ByteArray.mk.injEq];exact Array.toList_inj.mp hc
  exact(Go.Proofs.YtmojemogpelpnaaGreatDoor.Shelf.Tryz.strings_Contains_one a0 c w).mono fun e w' ⟨he,hw⟩=>⟨he,by subst hw;exact Drawn0.refl _⟩
 ·cases h
def impl_lineOk.l0:Nat→ByteArray→ByteArray→Int→Option (Bool)
 |0,_,_,_=>none
 |k+1,a,b,c=>if c<(a.size:Int)then(if 0≤c then((impl_isLarge.f (bt a c)).bind fun d=>(if d=true then(impl_lineOk.l0 k a b (wrap64 (c+1)))else(some false)))else(none))else((impl_in.f (a.size:Int) 1 9).bind fun e=>(if e=true then((impl_in.f (b.size:Int) 1 80).bind fun g=>(if g=true then((impl_Plain.f k b).bind fun h=>(if h=true then((strings_Contains.f b (⟨#[32]⟩:BA)).bind fun i=>(some (!i)))else(some false)))else(some false)))else(some false)))
def impl_lineOk.f(k:Nat)(a:ByteArray)(b:ByteArray):Option (Bool):=impl_lineOk.l0 k a b 0
theorem impl_lineOk.calls(k:Nat)(a0:ByteArray)(a1:ByteArray)(r:Bool)(w:World)(h:impl_lineOk.f k a0 a1=some r):
  Calls Tryz.prog 53 #[.string a0,.string a1] w fun e w'=>e= .returned (.bool r)∧Drawn0 w w':=by
 have H:(impl_lineOk.l0 k a0 a1 0)=some r:=h;clear h;have H':=aK H;clear H;go_enter Tryz.func53,Tryz.ntmps53
 go_wp2
 go_loopg [5] k (fun kq v1 w'=>∃(x1:Int),v1= .int .i64 x1∧Aside0 (impl_lineOk.l0 kq a0 a1 x1=some r)∧Aside0 (kq≤k)∧Drawn0 w w')
 case atStart=>exact⟨(0),q3_,H',⟨Nat.le_refl _⟩,q12_⟩
 case round=>
  clear H';(try clear p2);obtain⟨x1,rfl,HA,HK1,⟨m1,rfl⟩⟩:=hrel;cases gk with
  |zero=>exact absurd HA.1 (by simp[impl_lineOk.l0])
  |succ k1=>
   have H:=HA.1;clear HA;simp only[impl_lineOk.l0]at H;replace H:=iD H;rcases H with⟨c1b0,H⟩|⟨c1b0,H⟩
   ·replace H:=iG H;obtain⟨c2b0,H⟩:=H;replace H:=oB H;obtain⟨t1,A1,H⟩:=H;(try dsimp only at H);have HC1:=aK H;clear H;have p5:0≤(x1:Int):=of_decide_eq_true q6_;have q5:x1<(a0.size:Int):=of_decide_eq_true q6_;have hx5:=bt_at a0 x1;replace p5:=eq_true p5;replace q5:=eq_true q5;go_upto_if 16 with(first|((with_reducible refine gate_callee (f:=73) rfl ?_);refine goesL_ (some 15) rfl rfl Tryz.func73 (by kernel_rfl) rfl #[.int .u8 (bt a0 x1)] rfl q1_ ?_;(with_reducible refine(impl_isLarge.calls (bt a0 x1) t1 _ A1.1).mono ?_);rintro e w' ⟨rfl,⟨nd,rfl⟩⟩;refine⟨_,rfl,?_⟩))
    (try simp only[Act.put,sI,sZ,sS]);have H:=HC1.1;clear HC1;replace H:=iT H;rcases H with⟨rfl,H⟩|⟨rfl,H⟩
    ·have H':=aK H;clear H;go_wp2
     go_roundg k1
     case measure=>have:=HK1.1;omega
     case rel=>exact⟨(wrap64 (x1+1)),q3_,H',⟨q81_⟩,q12_⟩
    ·obtain rfl:=Option.some.inj H;go_wp2
     go_ret
     exact⟨q3_,q12_⟩
   ·replace H:=oB H;obtain⟨t2,A2,H⟩:=H;(try dsimp only at H);replace H:=iT H;rcases H with⟨rfl,H⟩|⟨rfl,H⟩
    ·replace H:=oB H;obtain⟨t3,A3,H⟩:=H;(try dsimp only at H);replace H:=iT H;rcases H with⟨rfl,H⟩|⟨rfl,H⟩
     ·replace H:=oB H;obtain⟨t4,A4,H⟩:=H;(try dsimp only at H);replace H:=iT H;rcases H with⟨rfl,H⟩|⟨rfl,H⟩
      ·replace H:=oB H;obtain⟨t5,A5,H⟩:=H;(try dsimp only at H);obtain rfl:=Option.some.inj H;go_wp2_with (first|((with_reducible refine gate_callee (f:=56) rfl ?_);refine goesL_ (some 19) rfl rfl Tryz.func56 (by kernel_rfl) rfl #[.int .i64 (a0.size:Int),.int .i64 1,.int .i64 9] rfl q1_ ?_;(with_reducible refine(impl_in.calls (a0.size:Int) 1 9 true _ A2.1).mono ?_);rintro e w' ⟨rfl,⟨nd,rfl⟩⟩;refine⟨_,rfl,?_⟩)|(go_at_call 56;(with_reducible refine(impl_in.calls (a1.size:Int) 1 80 true _ A3.1).mono ?_);rintro e w' ⟨rfl,⟨nd,rfl⟩⟩)|(go_at_call 74;(with_reducible refine(impl_Plain.calls k1 a1 true _ A4.1).mono ?_);rintro e w' ⟨rfl,⟨nd,rfl⟩⟩)|(go_at_call 75;(with_reducible refine(strings_Contains.calls a1 (⟨#[32]⟩:BA) t5 _ A5.1).mono ?_);rintro e w' ⟨rfl,⟨nd,rfl⟩⟩))
       go_ret
       exact⟨q3_,q12_⟩
      ·obtain rfl:=Option.some.inj H;go_wp2_with (first|((with_reducible refine gate_callee (f:=56) rfl ?_);refine goesL_ (some 19) rfl rfl Tryz.func56 (by kernel_rfl) rfl #[.int .i64 (a0.size:Int),.int .i64 1,.int .i64 9] rfl q1_ ?_;(with_reducible refine(impl_in.calls (a0.size:Int) 1 9 true _ A2.1).mono ?_);rintro e w' ⟨rfl,⟨nd,rfl⟩⟩;refine⟨_,rfl,?_⟩)|(go_at_call 56;(with_reducible refine(impl_in.calls (a1.size:Int) 1 80 true _ A3.1).mono ?_);rintro e w' ⟨rfl,⟨nd,rfl⟩⟩)|(go_at_call 74;(with_reducible refine(impl_Plain.calls k1 a1 false _ A4.1).mono ?_);rintro e w' ⟨rfl,⟨nd,rfl⟩⟩))
       go_ret
       exact⟨q3_,q12_⟩
     ·obtain rfl:=Option.some.inj H;go_wp2_with (first|((with_reducible refine gate_callee (f:=56) rfl ?_);refine goesL_ (some 19) rfl rfl Tryz.func56 (by kernel_rfl) rfl #[.int .i64 (a0.size:Int),.int .i64 1,.int .i64 9] rfl q1_ ?_;(with_reducible refine(impl_in.calls (a0.size:Int) 1 9 true _ A2.1).mono ?_);rintro e w' ⟨rfl,⟨nd,rfl⟩⟩;refine⟨_,rfl,?_⟩)|(go_at_call 56;(with_reducible refine(impl_in.calls (a1.size:Int) 1 80 false _ A3.1).mono ?_);rintro e w' ⟨rfl,⟨nd,rfl⟩⟩))
      go_ret
      exact⟨q3_,q12_⟩
    ·obtain rfl:=Option.some.inj H;go_wp2_with (first|((with_reducible refine gate_callee (f:=56) rfl ?_);refine goesL_ (some 19) rfl rfl Tryz.func56 (by kernel_rfl) rfl #[.int .i64 (a0.size:Int),.int .i64 1,.int .i64 9] rfl q1_ ?_;(with_reducible refine(impl_in.calls (a0.size:Int) 1 9 false _ A2.1).mono ?_);rintro e w' ⟨rfl,⟨nd,rfl⟩⟩;refine⟨_,rfl,?_⟩))
     go_ret
     exact⟨q3_,q12_⟩
def impl_Lower.l0:Nat→List Int→Int→Int→Option (ByteArray)
 |0,_,_,_=>none
 |k+1,a,b,c=>if c<b then(if 0≤c then(if c<(a.length:Int)then((impl_isLarge.f (rd a c)).bind fun d=>(if d=true then(impl_Lower.l0 k (a.set (c:Int).toNat (((rd a c)+32)%256)) b (wrap64 (c+1)))else(impl_Lower.l0 k a b (wrap64 (c+1)))))else(none))else(none))else(some (strOfNums a))
def impl_Lower.f(k:Nat)(a:ByteArray):Option (ByteArray):=if a.size<140737488355328 then((some (bytesOf a:List Int)).bind fun b=>(impl_Lower.l0 k b (b.length:Int) 0))else(none)
theorem impl_Lower.calls(k:Nat)(a0:ByteArray)(r:ByteArray)(w:World)(h:impl_Lower.f k a0=some r):
  Calls Tryz.prog 55 #[.string a0] w fun e w'=>e= .returned (.string r)∧Below w.heap.size w w':=by
 have HB:=aK (Below.refl w.heap.size w);have H:=h;clear h;unfold impl_Lower.f at H
 replace H:=iL H;obtain⟨LMc1,H⟩:=H;(first|(with_reducible replace H:=oS H;obtain⟨y1,Ny1,H⟩:=H)|(generalize hy_:(bytesOf a0:List Int)=y1 at H;have Ny1:=aK hy_.symm;clear hy_));(try dsimp only at H);have H':=aK H;clear H;go_enter Tryz.func55,Tryz.ntmps55
 go_wp2_with (first|((with_reducible refine gate_ (.convert 9 22 _) rfl ?_);refine Kd.R_conv_str (w0:=w) w.heap.size rfl 9 22 5 _ rfl Tryz.underlying9 Tryz.underlying22 Tryz.underlying5 a0 (fun _=>True) rfl ?aF ?aO ?aB ?aS ?aL ?_;(case aB=>exact q2_);(case aF=>exact q84_);(case aO=>exact q194_);(case aS=>exact q149_);(case aL=>have:=LMc1.1;omega);intro v1 w1 ho hb hg hat;rw[←Ny1.1]at ho;replace HB:=aK (hb);have HO1:=aK (ho);clear ho hb hg hat;obtain⟨Ao1,co1,eo1⟩:=Kd.R_slice HO1.1;subst eo1))
 go_loopg [10] k (fun kq v2 w'=>∃(x1:List Int)(x2:Int),v2= .int .i64 x2∧Aside0 (impl_Lower.l0 kq x1 (y1.length:Int) x2=some r)∧Aside0 (kq≤k)∧Aside0 (Kd.R (Kd.int .u8) 5 w' w.heap.size (fun _=>True) (.slice Ao1 y1.length co1) x1)∧Aside0 (Below w.heap.size w w'))
 case atStart=>exact⟨(y1),(0),q3_,H',⟨Nat.le_refl _⟩,⟨q41_⟩,⟨q2_⟩⟩
 case round=>
  clear H';(try clear c1);(try clear p2);obtain⟨x1,x2,rfl,HA,HK1,HO2,HB⟩:=hrel;have hl3_1:=(Kd.R_reads' HO2.1).1;rw[hl3_1]at HO2;(try simp only[hl3_1]);cases gk with
  |zero=>exact absurd HA.1 (by simp[impl_Lower.l0])
  |succ k1=>
   have H:=HA.1;clear HA;simp only[impl_Lower.l0]at H;replace H:=iB H;rcases H with⟨c2,H⟩|⟨c2,H⟩
   ·have c2b0:=decide_eq_true c2;(try simp only[hl3_1]at c2b0);clear c2;replace H:=iG H;obtain⟨c3b0,H⟩:=H;replace H:=iE H;obtain⟨c4,H⟩:=H;have c4b0:=decide_eq_true c4;(try simp only[hl3_1]at c4b0);clear c4;replace H:=oB H;obtain⟨t1,A1,H⟩:=H;(try dsimp only at H);replace H:=iT H;rcases H with⟨rfl,H⟩|⟨rfl,H⟩
    ·(first|(with_reducible replace H:=oS H;obtain⟨y2,Ny2,H⟩:=H)|(generalize hy_:(x1.set (x2:Int).toNat (((rd x1 x2)+32)%256):List Int)=y2 at H;have Ny2:=aK hy_.symm;clear hy_));(try dsimp only at H);have H':=aK H;clear H;have p428:0≤(x2:Int):=of_decide_eq_true q6_;have q428:x2<(x1.length:Int):=of_decide_eq_true q6_;obtain⟨ad1,e428,hx428_0⟩:=Kd.at_int (Kd.R_reads' HO2.1).2.2 x2 p428 q428;cases e428
     replace p428:=eq_true p428;replace q428:=eq_true q428;go_wp2_with (first|((with_reducible refine gate_callee (f:=73) rfl ?_);refine goesL_ (some 16) rfl rfl Tryz.func73 (by kernel_rfl) rfl #[.int .u8 (rd x1 x2)] rfl q1_ ?_;(with_reducible refine(impl_isLarge.calls (rd x1 x2) true _ A1.1).mono ?_);rintro e w' ⟨rfl,⟨nd,rfl⟩⟩;refine⟨_,rfl,?_⟩;(try(rw[drewN_self wr];generalize hq_:World.drewN wr _=wr;replace HO2:Aside0 (Kd.R (Kd.int .u8) 5 wr w.heap.size (fun _=>True) (.slice (some ad1) x1.length co1) x1):=⟨by rw[←hq_];exact q21_⟩;replace HB:Aside0 (Below w.heap.size w wr):=⟨by rw[←hq_];exact q2_⟩;clear hq_));have p10:0≤(x2:Int):=of_decide_eq_true q6_;have q10:(x2:Int)<((x1.length:Int):Int):=of_decide_eq_true q6_;obtain⟨go10,co2,eo2,gb1,gl10,cl10,HG10⟩:=Kd.R_form HO2.1 (by omega);(first|cases eo2|(injection eo2 with ea_ en_ ec_;(first|subst ea_|(injection ea_ with ea_;subst ea_));subst ec_;clear en_));have GB10:=aK gb1;have GG10:=aK HG10;clear gb1 gl10 HG10;(first|simp only[add_plain]at hx428_0|skip);obtain⟨hx10_0,hf10_0⟩:=Kd.R_celln 0 HO2.1 (x2:Int) p10 q10;replace p10:=eq_true p10;replace q10:=eq_true q10;obtain⟨hy11_,hz11_⟩:=Kd.R_celln 0 HO2.1 (x2:Int) (of_decide_eq_true q6_) (of_decide_eq_true q6_);have HP11:=Kd.R_putg HO2.1 (x2:Int) (((rd x1 x2)+32)%256))|((with_reducible refine gate_store (t:=5) (p:=21) rfl ?_);refine store_event (t:=5) (p:=21) (v:= ?vo_w12) (w1:=(wr.setCell ⟨go10,(x2:Int).toNat,none⟩ (.int .u8 (((rd x1 x2)+32)%256)))) ?hg ?ho ?hn ?hr ?_;(case ho=>rfl);(case hg=>rfl);(case hn=>rfl);(case hr=>exact q22_);intro w2 hw;have hg:wr.grownBy w2 (some go10):=(by rw[hw];exact HP11.2);have hp_:Kd.R (Kd.int .u8) 5 w2 w.heap.size (fun _=>True) (.slice (some ⟨go10,0,none⟩) x1.length co1) y2:=(by rw[hw,Ny2.1];exact HP11.1);clear HP11;replace HO2:=aK (hp_);replace HB:=aK ((by rw[hw];exact sB_ (HB.1) GB10.1:Below w.heap.size w w2));clear hg hw hp_))
     (try simp only[←hl3_1]);go_roundg k1
     case measure=>have:=HK1.1;omega
     case rel=>exact⟨(y2),(wrap64 (x2+1)),q3_,H',⟨q81_⟩,⟨q193_⟩,⟨q2_⟩⟩
    ·have H':=aK H;clear H;have p428:0≤(x2:Int):=of_decide_eq_true q6_;have q428:x2<(x1.length:Int):=of_decide_eq_true q6_;obtain⟨ad1,e428,hx428_0⟩:=Kd.at_int (Kd.R_reads' HO2.1).2.2 x2 p428 q428;cases e428
     replace p428:=eq_true p428;replace q428:=eq_true q428;go_wp2_with (first|((with_reducible refine gate_callee (f:=73) rfl ?_);refine goesL_ (some 16) rfl rfl Tryz.func73 (by kernel_rfl) rfl #[.int .u8 (rd x1 x2)] rfl q1_ ?_;(with_reducible refine(impl_isLarge.calls (rd x1 x2) false _ A1.1).mono ?_);rintro e w' ⟨rfl,⟨nd,rfl⟩⟩;refine⟨_,rfl,?_⟩))
     (try simp only[←hl3_1]);go_roundg k1
     case measure=>have:=HK1.1;omega
     case rel=>exact⟨(x1),(wrap64 (x2+1)),q3_,H',⟨q81_⟩,⟨q193_⟩,⟨q2_⟩⟩
   ·have c2b0:=decide_eq_false c2;(try simp only[hl3_1]at c2b0);clear c2;obtain rfl:=Option.some.inj H;have hcv13:=own_string (P:=Tryz.prog) Tryz.underlying22 Tryz.underlying5 Tryz.underlying9 (Kd.own_of_R HO2.1);go_wp2
    go_ret
    exact⟨q11_,q2_⟩
def strings_Cut.f(a:ByteArray)(b:ByteArray):Option (ByteArray×ByteArray×Bool):=if a.size<4294967281 then some (⟨(Lib.cut a.data.toList b.data.toList).1.toArray⟩,⟨(Lib.cut a.data.toList b.data.toList).2.1.toArray⟩,(Lib.cut a.data.toList b.data.toList).2.2)else none
theorem strings_Cut.calls(a0:ByteArray)(a1:ByteArray)(r1:ByteArray)(r2:ByteArray)(r3:Bool)(w:World)(h:strings_Cut.f a0 a1=some (r1,r2,r3))(hG:GOK w):
  Calls Tryz.prog 76 #[.string a0,.string a1] w fun e w'=>e= .returned (.tuple #[.string r1,.string r2,.bool r3])∧Drawn0 w w':=by
 unfold strings_Cut.f at h
 split at h
 ·rename_i hs
  simp only[Option.some.injEq,Prod.mk.injEq]at h;obtain⟨rfl,rfl,rfl⟩:=h;obtain⟨m,hm⟩:=hG.maxlen;exact(Go.Proofs.YtmojemogpelpnaaGreatDoor.Shelf.Tryz.strings_Cut a0 a1 m w hs hm).mono fun e w' ⟨he,hw⟩=>⟨he,⟨hw⟩⟩
 ·cases h
def strings_Trim.f(a:ByteArray)(c:ByteArray):Option ByteArray:=if a.size≤9223372036854775807∧c.data.toList.all (fun b=>decide (b.toNat<128))=true∧c.size<4294967281 then some ⟨(Lib.trimS a.data.toList c.data.toList).toArray⟩else none
theorem strings_Trim.calls(a0:ByteArray)(a1:ByteArray)(r:ByteArray)(w:World)(h:strings_Trim.f a0 a1=some r):
  Calls Tryz.prog 98 #[.string a0,.string a1] w fun e w'=>e= .returned (.string r)∧Below w.heap.size w w':=by
 unfold strings_Trim.f at h
 split at h
 ·rename_i hs
  obtain rfl:=Option.some.inj h;exact(Go.Proofs.YtmojemogpelpnaaGreatDoor.Shelf.Tryz.strings_Trim_laid a0 a1 w hs.1 hs.2.2 (fun j b hb=>of_decide_eq_true (List.all_eq_true.1 hs.2.1 b (List.mem_of_getElem? hb)))).mono fun e w' ⟨he,hw⟩=>⟨he,hw⟩
 ·cases h
def impl_Trim.f(a:ByteArray):Option (ByteArray):=(strings_Trim.f a (⟨#[32,9]⟩:BA)).bind fun b=>(some b)
theorem impl_Trim.calls(a0:ByteArray)(r:ByteArray)(w:World)(h:impl_Trim.f a0=some r):
  Calls Tryz.prog 77 #[.string a0] w fun e w'=>e= .returned (.string r)∧Below w.heap.size w w':=by
 have HB:=aK (Below.refl w.heap.size w);have H:((strings_Trim.f a0 (⟨#[32,9]⟩:BA)).bind fun t1=>(some t1))=some r:=h;clear h;replace H:=oB H;obtain⟨t1,A1,H⟩:=H;(try dsimp only at H);obtain rfl:=Option.some.inj H;go_enter Tryz.func77,Tryz.ntmps77
 go_wp2_with (first|((with_reducible refine gate_callee (f:=98) rfl ?_);refine goesL_ (some 4) rfl rfl Tryz.func98 (by kernel_rfl) rfl #[.string a0,.string (⟨#[32,9]⟩:BA)] rfl q1_ ?_;(with_reducible refine(strings_Trim.calls a0 (⟨#[32,9]⟩:BA) t1 _ A1.1).mono ?_);rintro e w1 ⟨rfl,hb⟩;refine⟨_,rfl,?_⟩;replace HB:=aK (below_step q2_ hb);clear hb))
 go_ret
 exact⟨q11_,q2_⟩
def impl_isSmall.f(a:Int):Option (Bool):=if a≥97 then(some (decide (a≤122)))else(some false)
theorem impl_isSmall.calls(a0:Int)(r:Bool)(w:World)(h:impl_isSmall.f a0=some r):
  Calls Tryz.prog 99 #[.int .u8 a0] w fun e w'=>e= .returned (.bool r)∧Drawn0 w w':=by
 have H:(if a0≥97 then(some (decide (a0≤122)))else(some false))=some r:=h;clear h;replace H:=iB H;rcases H with⟨c1,H⟩|⟨c1,H⟩
 ·have c1b0:decide (97≤a0)=true:=decide_eq_true c1;clear c1;obtain rfl:=Option.some.inj H;go_enter Tryz.func99,Tryz.ntmps99
  go_wp2
  go_ret
  exact⟨q3_,q12_⟩
 ·have c1b0:decide (97≤a0)=false:=decide_eq_false c1;clear c1;obtain rfl:=Option.some.inj H;go_enter Tryz.func99,Tryz.ntmps99
  go_wp2
  go_ret
  exact⟨q3_,q12_⟩
def impl_isDigit.f(a:Int):Option (Bool):=if a≥48 then(some (decide (a≤57)))else(some false)
theorem impl_isDigit.calls(a0:Int)(r:Bool)(w:World)(h:impl_isDigit.f a0=some r):
  Calls Tryz.prog 100 #[.int .u8 a0] w fun e w'=>e= .returned (.bool r)∧Drawn0 w w':=by
 have H:(if a0≥48 then(some (decide (a0≤57)))else(some false))=some r:=h;clear h;replace H:=iB H;rcases H with⟨c1,H⟩|⟨c1,H⟩
 ·have c1b0:decide (48≤a0)=true:=decide_eq_true c1;clear c1;obtain rfl:=Option.some.inj H;go_enter Tryz.func100,Tryz.ntmps100
  go_wp2
  go_ret
  exact⟨q3_,q12_⟩
 ·have c1b0:decide (48≤a0)=false:=decide_eq_false c1;clear c1;obtain rfl:=Option.some.inj H;go_enter Tryz.func100,Tryz.ntmps100
  go_wp2
  go_ret
  exact⟨q3_,q12_⟩
end Go.Proofs.YtmojemogpelpnaaGreatDoor.GFnWires
