import Derived.Test.YtmojemogpelpnaaGreatDoorGFnWiresx0
import Derived.Test.YtmojemogpelpnaaGreatDoorGFnWiresx3
import Derived.Test.YtmojemogpelpnaaGreatDoorGFnWiresx8
import Derived.Test.YtmojemogpelpnaaGreatDoorGFnWiresx15
import Derived.Test.YtmojemogpelpnaaGreatDoorGFnWiresx17
namespace Go.Proofs.YtmojemogpelpnaaGreatDoor.GFnWires
open Go.RowKit Go.Proofs.YtmojemogpelpnaaGreatDoorW.PrintWords Go.Proofs.YtmojemogpelpnaaGreatDoorW.PrintLast Go.Proofs.YtmojemogpelpnaaGreatDoorW.PrintMore
attribute [local go_sem] max2_int min2_int max_two min_two max_three min_three max_four min_four
set_option linter.unusedVariables false
set_option linter.unusedSimpArgs false
set_option maxRecDepth 100000
set_option maxHeartbeats 8000000
theorem LimS61_6.blk{w0 W:World}{g:Nat}{f0:ByteArray}{f1:ByteArray}{f2:List (S83)}{f3:ByteArray}{f4:Int}{f5:Int}{f6:List Int}(h:LimS61_6 w0 W g f0 f1 f2 f3 f4 f5 f6):∃cs,W.heap[g]? =some (.cells cs 61 (0,0)):=by
 obtain⟨A2,c2,A6,c6,hb,_⟩:=h;exact⟨_,hb⟩
mutual
def spec_l3Least.l0:Nat→List Int→List Int→Int→Option (Int)
 |0,_,_,_=>none
 |k+1,a,b,c=>if c<(b.length:Int)then(spec_l3Least.l1 k a b c 0)else(some 0)
def spec_l3Least.l1:Nat→List Int→List Int→Int→Int→Option (Int)
 |0,_,_,_,_=>none
 |k+1,a,b,c,d=>if d<(a.length:Int)then(if 0≤d then(if 0≤c then(if c<(b.length:Int)then(if(rd a d)=(rd b c)then(some (rd b c))else(spec_l3Least.l1 k a b c (wrap64 (d+1))))else(none))else(none))else(none))else(spec_l3Least.l0 k a b (wrap64 (c+1)))
end
def spec_l3Least.f(k:Nat)(l0:List Int)(l1:List Int):Option (Int):=spec_l3Least.l0 k l0 l1 0
theorem spec_l3Least.calls(k:Nat)(A0:Option Addr)(c0:Nat)(l0:List Int)(A1:Option Addr)(c1:Nat)(l1:List Int)(r:Int)(w:World)(hr0:Kd.C (Kd.int .i64) w A0 l0.length l0)(hc0:l0.length≤c0)(hr1:Kd.C (Kd.int .i64) w A1 l1.length l1)(hc1:l1.length≤c1)(h:spec_l3Least.f k l0 l1=some r):
  Calls Tryz.prog 42 #[.slice A0 l0.length c0,.slice A1 l1.length c1] w fun e w'=>e= .returned (.int .i64 r)∧Drawn0 w w':=by
 have HR1:=aK hr0;have HC1:=aK hc0;clear hr0 hc0;have HR2:=aK hr1;have HC2:=aK hc1;clear hr1 hc1;have H:(spec_l3Least.l0 k l0 l1 0)=some r:=h;clear h;have H':=aK H;clear H;go_enter Tryz.func42,Tryz.ntmps42
 go_wp2
 repeat(go_quiet (fail);try go_wp2)
 go_loopg [5] k (fun kq v1 w'=>∃(x1:Int),v1= .int .i64 x1∧Aside0 (spec_l3Least.l0 kq l0 l1 x1=some r)∧Aside0 (kq≤k)∧Drawn0 w w')
 case atStart=>exact⟨(0),q3_,H',⟨Nat.le_refl _⟩,q12_⟩
 case round=>
  clear H';(try clear c1);(try clear p2);obtain⟨x1,rfl,HA,HK1,⟨m1,rfl⟩⟩:=hrel;cases gk with
  |zero=>exact absurd HA.1 (by simp[spec_l3Least.l0])
  |succ k1=>
   have H:=HA.1;clear HA;simp only[spec_l3Least.l0]at H;replace H:=iD H;rcases H with⟨c2b0,H⟩|⟨c2b0,H⟩
   ·have H':=aK H;clear H;go_wp2
    repeat(go_quiet (fail);try go_wp2)
    go_loopg [6] k1 (fun kq v2 w'=>∃(x2:Int),v2= .int .i64 x2∧Aside0 (spec_l3Least.l1 kq l0 l1 x1 x2=some r)∧Aside0 (kq≤k1)∧Drawn0 w w')
    case atStart=>exact⟨(0),q3_,H',⟨Nat.le_refl _⟩,q12_⟩
    case round=>
     clear H';(try clear c1);(try clear p2);(try clear c2);(try clear c2b0);(try clear p2);obtain⟨x2,rfl,HA,HK2,⟨m2,rfl⟩⟩:=hrel;cases gk with
     |zero=>exact absurd HA.1 (by simp[spec_l3Least.l1])
     |succ k2=>
      have H:=HA.1;clear HA;simp only[spec_l3Least.l1]at H;replace H:=iD H;rcases H with⟨c3b0,H⟩|⟨c3b0,H⟩
      ·replace H:=iG H;obtain⟨c4b0,H⟩:=H;replace H:=iG H;obtain⟨c5b0,H⟩:=H;replace H:=iG H;obtain⟨c6b0,H⟩:=H;replace H:=iQ H;rcases H with⟨-,c7b0,c7b1,H⟩|⟨c7,c7b0,c7b1,H⟩
       ·obtain rfl:=Option.some.inj H;have p735:0≤(x2:Int):=of_decide_eq_true q6_;have q735:x2<(l0.length:Int):=of_decide_eq_true q6_;obtain⟨ad1,e735,hx735_0⟩:=Kd.at_int HR1.1 x2 p735 q735;cases e735
        replace p735:=eq_true p735;replace q735:=eq_true q735;have p736:0≤(x1:Int):=of_decide_eq_true q6_;have q736:x1<(l1.length:Int):=of_decide_eq_true q6_;obtain⟨ad2,e736,hx736_0⟩:=Kd.at_int HR2.1 x1 p736 q736;cases e736
        replace p736:=eq_true p736;replace q736:=eq_true q736;have p737:0≤(x1:Int):=of_decide_eq_true q6_;have q737:x1<(l1.length:Int):=of_decide_eq_true q6_;obtain⟨ad3,e737,hx737_0⟩:=Kd.at_int HR2.1 x1 p737 q737;obtain rfl:ad2=ad3:=(by injection e737);replace p737:=eq_true p737;replace q737:=eq_true q737;go_wp2
        repeat(go_quiet (fail);try go_wp2)
        go_ret
        exact⟨q3_,q12_⟩
       ·have H':=aK H;clear H;have p735:0≤(x2:Int):=of_decide_eq_true q6_;have q735:x2<(l0.length:Int):=of_decide_eq_true q6_;obtain⟨ad1,e735,hx735_0⟩:=Kd.at_int HR1.1 x2 p735 q735;cases e735
        replace p735:=eq_true p735;replace q735:=eq_true q735;have p736:0≤(x1:Int):=of_decide_eq_true q6_;have q736:x1<(l1.length:Int):=of_decide_eq_true q6_;obtain⟨ad2,e736,hx736_0⟩:=Kd.at_int HR2.1 x1 p736 q736;cases e736
        replace p736:=eq_true p736;replace q736:=eq_true q736;go_wp2
        repeat(go_quiet (fail);try go_wp2)
        go_roundg k2
        case measure=>have:=HK1.1;have:=HK2.1;omega
        case rel=>exact⟨(wrap64 (x2+1)),q3_,H',⟨by have:=HK1.1;have:=HK2.1;omega⟩,q12_⟩
      ·have H':=aK H;clear H;go_wp2
       repeat(go_quiet (fail);try go_wp2)
       go_roundg k2
       case measure=>have:=HK1.1;have:=HK2.1;omega
       case rel=>exact⟨(wrap64 (x1+1)),q3_,H',⟨by have:=HK1.1;have:=HK2.1;omega⟩,q12_⟩
   ·obtain rfl:=Option.some.inj H;go_wp2
    repeat(go_quiet (fail);try go_wp2)
    go_ret
    exact⟨q3_,q12_⟩
def spec_l3Read.l0:Nat→List ByteArray→Int→ByteArray→ByteArray→List (S83)→ByteArray→Int→Int→List Int→Option (Int×ByteArray×ByteArray×(List (S83))×ByteArray×Int×Int×List Int)
 |0,_,_,_,_,_,_,_,_,_=>none
 |k+1,a,b,c,d,e,g,h,i,j=>if b<(a.length:Int)then(if 0≤b then((spec_l3Head.f k c d e g h i j (rdOf ByteArray.empty a b)).bind fun m=>(if m.1=0 then(spec_l3Read.l0 k a (wrap64 (b+1)) m.2.1 m.2.2.1 m.2.2.2.1 m.2.2.2.2.1 m.2.2.2.2.2.1 m.2.2.2.2.2.2.1 m.2.2.2.2.2.2.2)else(some (m.1,m.2.1,m.2.2.1,m.2.2.2.1,m.2.2.2.2.1,m.2.2.2.2.2.1,m.2.2.2.2.2.2.1,m.2.2.2.2.2.2.2))))else(none))else(if i>1 then(some (400,c,d,e,g,h,i,j))else(if h>200 then(if j.length<17592186044416 then((some (j++[413]:List Int)).bind fun n=>((spec_l3Least.f k n (([431,501,413]:List Int))).bind fun o=>(some (o,c,d,e,g,h,i,n))))else(none))else((spec_l3Least.f k j (([431,501,413]:List Int))).bind fun p=>(some (p,c,d,e,g,h,i,j)))))
def spec_l3Read.f(k:Nat)(a:ByteArray)(b:ByteArray)(c:List (S83))(d:ByteArray)(e:Int)(g:Int)(h:List Int)(i:ByteArray):Option (Int×ByteArray×ByteArray×(List (S83))×ByteArray×Int×Int×List Int):=(spec_l3Lines.f k i).bind fun j=>(if 0<(j.length:Int)then((spec_l3First.f k a b c d e g h (rdOf ByteArray.empty j 0)).bind fun m=>(if m.1=true then(spec_l3Read.l0 k j 1 m.2.1 m.2.2.1 m.2.2.2.1 m.2.2.2.2.1 m.2.2.2.2.2.1 m.2.2.2.2.2.2.1 m.2.2.2.2.2.2.2)else(some (400,m.2.1,m.2.2.1,m.2.2.2.1,m.2.2.2.2.1,m.2.2.2.2.2.1,m.2.2.2.2.2.2.1,m.2.2.2.2.2.2.2))))else(none))
theorem spec_l3Read.calls(k:Nat)(g:Nat)(s0_0:ByteArray)(s0_1:ByteArray)(s0_2:List (S83))(s0_3:ByteArray)(s0_4:Int)(s0_5:Int)(s0_6:List Int)(a1:ByteArray)(r1:Int)(r2:ByteArray)(r3:ByteArray)(r4:List (S83))(r5:ByteArray)(r6:Int)(r7:Int)(r8:List Int)(w0 w:World)(hI:IsS61 w0 w g s0_0 s0_1 s0_2 s0_3 s0_4 s0_5 s0_6)(hB:Below w0.heap.size w0 w)(h:spec_l3Read.f k s0_0 s0_1 s0_2 s0_3 s0_4 s0_5 s0_6 a1=some (r1,r2,r3,r4,r5,r6,r7,r8)):
  Calls Tryz.prog 29 #[.pointer (some ⟨g,0,none⟩),.string a1] w fun e w'=>e= .returned (.int .i64 r1)∧IsS61 w0 w' g r2 r3 r4 r5 r6 r7 r8∧Below w0.heap.size w0 w'∧KeptG w w' g [83,3]:=by
 have HI0:=aK hI;have HK:=aK (KeptG.refl w g [83,3]);have HL:=aK hB.size;clear hI;have HW0:=aK hB.size;have HB:=aK hB;clear hB;have H:=h;clear h;unfold spec_l3Read.f at H
 replace H:=oB H;obtain⟨t1,A1,H⟩:=H;(try dsimp only at H);replace H:=iE H;obtain⟨c1,H⟩:=H;have c1b0:=decide_eq_true c1;have c1b1:decide (0<t1.length)=true:=decide_eq_true (by omega);clear c1;replace H:=oB H;obtain⟨⟨t2,t3,t4,t5,t6,t7,t8,t9⟩,A2,H⟩:=H;(try dsimp only at H);have HC1:=aK H;clear H;go_enter Tryz.func29,Tryz.ntmps29
 go_upto_if 15 with(first|((with_reducible refine gate_callee (f:=39) rfl ?_);refine goesL_ (some 9) rfl rfl Tryz.func39 (by kernel_rfl) rfl #[.string a1] rfl q1_ ?_;(with_reducible refine(spec_l3Lines.calls k a1 t1 _ A1.1).mono ?_);rintro e w1 ⟨v1,rfl,ho1,hb⟩;refine⟨_,rfl,?_⟩;have HO1:=aK (Kd.R_lower ho1 (KeptG.size (w:=w) (g:=g) (TS:=[83,3]) q15_));replace HK:=aK (KeptG.below q15_ hb);replace HB:=aK (below_step q24_ hb);replace HI0:=aK (IsS61.below q13_ hb);clear hb ho1;obtain⟨Ao1,co1,eo1⟩:=Kd.R_slice HO1.1;subst eo1;have p741:0≤(0:Int):=(by omega);have q741:0<(t1.length:Int):=of_decide_eq_true q6_;obtain⟨ad1,e741,hx741_0⟩:=Kd.at_string (Kd.R_reads' HO1.1).2.2 0 p741 q741;cases e741;have qi741:(0<t1.length)=True:=eq_true (by omega);(try rw[show((0:Int)).toNat=0 from rfl]at hx741_0);(try rw[Addr.add_zero']at hx741_0);replace p741:=eq_true p741;replace q741:=eq_true q741)|((with_reducible refine gate_callee (f:=40) rfl ?_);refine goesL_ (some 14) rfl rfl Tryz.func40 (by kernel_rfl) rfl #[.pointer (some ⟨g,0,none⟩),.string (rdOf ByteArray.empty t1 0)] rfl q1_ ?_;(with_reducible refine(spec_l3First.calls k g s0_0 s0_1 s0_2 s0_3 s0_4 s0_5 s0_6 (rdOf ByteArray.empty t1 0) t2 t3 t4 t5 t6 t7 t8 t9 w0 _ ?side1 ?side2 A2.1).mono ?_);(case side1=>exact q13_);(case side2=>exact q24_);rintro e w2 ⟨rfl,hi,hb,hk⟩;refine⟨_,rfl,?_⟩;replace HO1:=aK (Kd.R_mono (Kd.R_keep (IsS61.apart (show IsS61 w0 _ g s0_0 s0_1 s0_2 s0_3 s0_4 s0_5 s0_6 from q13_) q26_ (by decide)) hk (fun _ h=>h.2)) (fun _ h=>h.1));replace HK:=aK (KeptG.then_ q15_ (KeptG.of_keep hk [83,3]));replace HB:=aK (hb);replace HI0:=aK (hi);clear hb hk hi))
 (try simp only[Act.put,sI,sZ,sS]);have H:=HC1.1;clear HC1;replace H:=iT H;rcases H with⟨rfl,H⟩|⟨rfl,H⟩
 ·have H':=aK H;clear H;go_wp2
  go_loopg [6] k (fun kq v2 w'=>∃(x1:Int)(x2:ByteArray)(x3:ByteArray)(x4:List (S83))(x5:ByteArray)(x6:Int)(x7:Int)(x8:List Int),v2= .int .i64 x1∧Aside0 (spec_l3Read.l0 kq t1 x1 x2 x3 x4 x5 x6 x7 x8=some (r1,r2,r3,r4,r5,r6,r7,r8))∧Aside0 (kq≤k)∧Aside0 (Kd.R Kd.string 9 w' w.heap.size (fun _=>True) (.slice (some ad1) t1.length co1) t1)∧Aside0 (IsS61 w0 w' g x2 x3 x4 x5 x6 x7 x8)∧Aside0 (KeptG w w' g [83,3])∧Aside0 (Below w0.heap.size w0 w'))
  case atStart=>exact⟨(1),(t3),(t4),(t5),(t6),(t7),(t8),(t9),q3_,H',⟨Nat.le_refl _⟩,⟨q41_⟩,⟨q13_⟩,⟨q15_⟩,⟨q24_⟩⟩
  case round=>
   clear H';(try clear c3);(try clear p2);(try clear q2);(try clear hx2);(try clear qi2);(try clear c1);(try clear c1b0);(try clear c1b1);(try clear c4);(try clear c2);(try clear hx741_0);(try clear p741);(try clear q741);obtain⟨x1,x2,x3,x4,x5,x6,x7,x8,rfl,HA,HK1,HO2,HI0,HK,HB⟩:=hrel;cases gk with
   |zero=>exact absurd HA.1 (by simp[spec_l3Read.l0])
   |succ k1=>
    have H:=HA.1;clear HA;simp only[spec_l3Read.l0]at H;replace H:=iD H;rcases H with⟨c5b0,H⟩|⟨c5b0,H⟩
    ·(first|rw[c5b0]|rw[c5i0]|(simp only[i64_w,i32_w];rw[c5b0])|skip);replace H:=iG H;obtain⟨c6b0,H⟩:=H;replace H:=oB H;obtain⟨⟨t10,t11,t12,t13,t14,t15,t16,t17⟩,A3,H⟩:=H;(try dsimp only at H);have HC2:=aK H;clear H;have p750:0≤(x1:Int):=of_decide_eq_true q6_;have q750:x1<(t1.length:Int):=of_decide_eq_true q6_;obtain⟨ad2,e750,hx750_0⟩:=Kd.at_string (Kd.R_reads' HO2.1).2.2 x1 p750 q750;obtain rfl:ad1=ad2:=(by injection e750);replace p750:=eq_true p750;replace q750:=eq_true q750;go_upto_if 29 with(first|((with_reducible refine gate_callee (f:=41) rfl ?_);refine goesL_ (some 27) rfl rfl Tryz.func41 (by kernel_rfl) rfl #[.pointer (some ⟨g,0,none⟩),.string (rdOf ByteArray.empty t1 x1)] rfl q1_ ?_;(with_reducible refine(spec_l3Head.calls k1 g x2 x3 x4 x5 x6 x7 x8 (rdOf ByteArray.empty t1 x1) t10 t11 t12 t13 t14 t15 t16 t17 w0 _ ?side1 ?side2 A3.1).mono ?_);(case side1=>exact q13_);(case side2=>exact q24_);rintro e w3 ⟨rfl,hi,hb,hk⟩;refine⟨_,rfl,?_⟩;replace HO2:=aK (Kd.R_mono (R_keepG (IsS61.apart (show IsS61 w0 _ g x2 x3 x4 x5 x6 x7 x8 from q13_) q21_ (by decide)) hk (fun _ h=>h.2) (by decide)) (fun _ h=>h.1));replace HK:=aK (KeptG.then_ q15_ hk);replace HB:=aK (hb);replace HI0:=aK (hi);clear hb hk hi))
     (try simp only[Act.put,sI,sZ,sS]);have H:=HC2.1;clear HC2;replace H:=iQ H;rcases H with⟨-,c7b0,c7b1,H⟩|⟨c7,c7b0,c7b1,H⟩
     ·(first|rw[c7b0]|rw[c7i0]|(simp only[i64_w,i32_w];rw[c7b0])|skip);have H':=aK H;clear H;go_wp2
      go_roundg k1
      case measure=>have:=HK1.1;omega
      case rel=>exact⟨(wrap64 (x1+1)),(t11),(t12),(t13),(t14),(t15),(t16),(t17),q3_,H',⟨q81_⟩,⟨q71_⟩,⟨q13_⟩,⟨q15_⟩,⟨q24_⟩⟩
     ·(first|rw[c7b0]|rw[c7i0]|(simp only[i64_w,i32_w];rw[c7b0])|skip);simp only[Option.some.injEq,Prod.mk.injEq]at H;obtain⟨rfl,rfl,rfl,rfl,rfl,rfl,rfl,rfl⟩:=H;go_wp2
      go_ret
      exact⟨q11_,q13_,q24_,q15_⟩
    ·(first|rw[c5b0]|rw[c5i0]|(simp only[i64_w,i32_w];rw[c5b0])|skip);replace H:=iB H;rcases H with⟨c8,H⟩|⟨c8,H⟩
     ·have c8b0:decide (1<x7)=true:=decide_eq_true c8;clear c8;simp only[Option.some.injEq,Prod.mk.injEq]at H;obtain⟨rfl,rfl,rfl,rfl,rfl,rfl,rfl,rfl⟩:=H;obtain⟨ASz1_2,cSz1_2,ASz1_6,cSz1_6,HGz1,hgz1,HSz1_2,HSz1_6⟩:=HI0.1;have hcz1:=cel7 HGz1;clear HGz1 hgz1;go_wp2
      go_ret
      exact⟨q11_,q13_,q24_,q15_⟩
     ·have c8b0:decide (1<x7)=false:=decide_eq_false c8;clear c8;replace H:=iB H;rcases H with⟨c9,H⟩|⟨c9,H⟩
      ·have c9b0:decide (200<x6)=true:=decide_eq_true c9;clear c9;replace H:=iL H;obtain⟨LMc10,H⟩:=H;(first|(with_reducible replace H:=oS H;obtain⟨y1,Ny1,H⟩:=H)|(generalize hy_:(x8++[413]:List Int)=y1 at H;have Ny1:=aK hy_.symm;clear hy_));(try dsimp only at H);(first|(with_reducible replace H:=oS H;obtain⟨y2,Ny2,H⟩:=H)|(generalize hy_:(([431,501,413]:List Int):List Int)=y2 at H;have Ny2:=aK hy_.symm;clear hy_));(try dsimp only at H);replace H:=oB H;obtain⟨t18,A4,H⟩:=H;(try dsimp only at H);simp only[Option.some.injEq,Prod.mk.injEq]at H;obtain⟨rfl,rfl,rfl,rfl,rfl,rfl,rfl,rfl⟩:=H;obtain⟨ASz2_2,cSz2_2,ASz2_6,cSz2_6,HGz2,hgz2,HSz2_2,HSz2_6⟩:=HI0.1;have hcz2:=cel7 HGz2;clear HGz2 hgz2;go_wp2_with (first|((with_reducible refine gate_builtin (b:= .append) (xs:= #[.tmp 45,.tmp 46]) rfl ?_);at_builtin;refine Kd.R_append (Kd.int .i64) (w0:=w0) w0.heap.size rfl (.tmp 45) (.tmp 46) 47 3 (.int .i64 0) 8 rfl Tryz.underlying47 info3 rfl (by decide) (by omega) (.slice ASz2_6 x8.length cSz2_6) x8 413 [.int .i64 413] (fun _=>True) (fun _=>False) rfl rfl ?aP (fun _ hk=>hk.elim) ?aF ?aO ?aB ?aS ?aL ?_;(case aP=>exact rfl);(case aF=>exact q84_);(case aO=>exact q182_);(case aB=>exact q24_);(case aS=>exact(below_size q24_));(case aL=>have:=LMc10.1;omega);intro v3 w4 ho hb hg hat;rw[←Ny1.1]at ho;replace HO2:=aK (Kd.R_over' q21_ (Kd.R_typed (d:=(Kd.int .i64)) (e:=3) (base:=w0.heap.size) (ok:=fun _=>True) (xs:=x8) q182_) (by decide) hg);replace HI0:=aK (IsS61.limb_6 q13_ hg (Kd.R_typed (d:=(Kd.int .i64)) (e:=3) (base:=w0.heap.size) (ok:=fun _=>True) (xs:=x8) q182_));replace HK:=aK (KeptG.grown q15_ hg (Kd.R_typed (d:=(Kd.int .i64)) (e:=3) (base:=w0.heap.size) (ok:=fun _=>True) (xs:=x8) q182_) (by decide));replace HB:=aK (hb);have HO3:=aK (ho);clear ho hb hg hat;obtain⟨Ao2,co2,eo2⟩:=Kd.R_slice HO3.1;subst eo2;obtain⟨ASz3_2,cSz3_2,ASz3_6,cSz3_6,HGz3,hgz3,HSz3_2,HSz3_6⟩:=HI0.1;have hcz3:=cel7 HGz3;clear HGz3 hgz3)|((with_reducible refine gate_dst (N:=54) rfl ?_);refine Kd.R_lit (Kd.int .i64) _ 3 ?hg (N:=54) ?hd (xs:=([431,501,413]:List Int)) (inner:=[.int .i64 431,.int .i64 501,.int .i64 413]) (ok:=fun _=>True) (okp:=fun _=>True) ?hr ?hp (fun _ hk=>hk) trivial (Below.refl _ _) (Nat.le_refl _) (by simp) ?_;(case hd=>rfl);(case hg=>rfl);(case hr=>exact q22_);(case hp=>exact q76_);intro v4 w5 ho2 hb hg_ hnew_;clear hg_ hnew_;(first|rw[←Ny2.1]at ho2|(simp only[Int.reduceToNat]at ho2;rw[←Ny2.1]at ho2));have HOp_:=HO3;obtain⟨cb_,hcb_⟩:=LimS61_6.blk HI0.1;replace HO2:=aK (Kd.R_below (by(with_reducible repeat(first|apply rA_|apply rN_|apply rD_));exact Kd.R_set HO2.1 hcb_ (by decide) _ _) hb);replace HO3:=aK (Kd.R_below (by(with_reducible repeat(first|apply rA_|apply rN_|apply rD_));exact Kd.R_set HO3.1 hcb_ (by decide) _ _) hb);have HO4:=aK (Kd.R_lower ho2 (KeptG.size (w:=w) (g:=g) (TS:=[83,3]) q15_));replace HK:=aK (KeptG.below q15_ hb);replace HB:=aK (below_step q218_ hb);replace HI0:=aK (IsS61.below (show IsS61 w0 (w4.setCell ⟨g,6,none⟩ (.slice Ao2 y1.length co2)) g x2 x3 x4 x5 x6 x7 y1 from by repeat(first|(with_reducible first|apply IsS61.alloc|apply IsS61.drewN|apply IsS61.drew)|exact IsS61.put_6 HI0.1 HOp_.1 (Nat.le_refl _))) hb);clear hb ho2;obtain⟨Ao3,co3,eo3⟩:=Kd.R_slice HO4.1;subst eo3;obtain⟨ASz4_2,cSz4_2,ASz4_6,cSz4_6,HGz4,hgz4,HSz4_2,HSz4_6⟩:=HI0.1;have hcz4:=cel7 HGz4;clear HGz4 hgz4)|((with_reducible refine gate_callee (f:=42) rfl ?_);refine goesL_ (some 55) rfl rfl Tryz.func42 (by kernel_rfl) rfl #[.slice Ao2 y1.length co2,.slice Ao3 y2.length co3] rfl q1_ ?_;(with_reducible refine(spec_l3Least.calls k1 _ _ y1 _ _ y2 t18 _ ?side1 ?side2 ?side3 ?side4 A4.1).mono ?_);(case side1=>exact(Kd.R_reads' q52_).2.2);(case side2=>exact(Kd.R_reads' HO3.1).2.1);(case side3=>exact q106_);(case side4=>exact(Kd.R_reads' HO4.1).2.1);rintro e w' ⟨rfl,⟨nd,rfl⟩⟩;refine⟨_,rfl,?_⟩))
       go_ret
       exact⟨q11_,q13_,q24_,q15_⟩
      ·have c9b0:decide (200<x6)=false:=decide_eq_false c9;clear c9;(first|(with_reducible replace H:=oS H;obtain⟨y3,Ny3,H⟩:=H)|(generalize hy_:(([431,501,413]:List Int):List Int)=y3 at H;have Ny3:=aK hy_.symm;clear hy_));(try dsimp only at H);replace H:=oB H;obtain⟨t19,A5,H⟩:=H;(try dsimp only at H);simp only[Option.some.injEq,Prod.mk.injEq]at H;obtain⟨rfl,rfl,rfl,rfl,rfl,rfl,rfl,rfl⟩:=H;obtain⟨ASz5_2,cSz5_2,ASz5_6,cSz5_6,HGz5,hgz5,HSz5_2,HSz5_6⟩:=HI0.1;have hcz5:=cel7 HGz5;clear HGz5 hgz5;go_wp2_with (first|((with_reducible refine gate_dst (N:=54) rfl ?_);refine Kd.R_lit (Kd.int .i64) _ 3 ?hg (N:=54) ?hd (xs:=([431,501,413]:List Int)) (inner:=[.int .i64 431,.int .i64 501,.int .i64 413]) (ok:=fun _=>True) (okp:=fun _=>True) ?hr ?hp (fun _ hk=>hk) trivial (Below.refl _ _) (Nat.le_refl _) (by simp) ?_;(case hd=>rfl);(case hg=>rfl);(case hr=>exact q22_);(case hp=>exact q76_);intro v5 w6 ho3 hb hg_ hnew_;clear hg_ hnew_;(first|rw[←Ny3.1]at ho3|(simp only[Int.reduceToNat]at ho3;rw[←Ny3.1]at ho3));replace HO2:=aK (Kd.R_below q21_ hb);replace HSz5_6:=Kd.R_below (by(with_reducible repeat(first|apply rA_|apply rN_|apply rD_));exact HSz5_6) hb;have HO5:=aK (Kd.R_lower ho3 (KeptG.size (w:=w) (g:=g) (TS:=[83,3]) q15_));replace HK:=aK (KeptG.below q15_ hb);replace HB:=aK (below_step q24_ hb);replace HI0:=aK (IsS61.below q13_ hb);clear hb ho3;obtain⟨Ao4,co4,eo4⟩:=Kd.R_slice HO5.1;subst eo4;obtain⟨ASz6_2,cSz6_2,ASz6_6,cSz6_6,HGz6,hgz6,HSz6_2,HSz6_6⟩:=HI0.1;have hcz6:=cel7 HGz6;clear HGz6 hgz6)|((with_reducible refine gate_callee (f:=42) rfl ?_);refine goesL_ (some 55) rfl rfl Tryz.func42 (by kernel_rfl) rfl #[.slice ASz5_6 x8.length cSz5_6,.slice Ao4 y3.length co4] rfl q1_ ?_;(with_reducible refine(spec_l3Least.calls k1 _ _ x8 _ _ y3 t19 _ ?side1 ?side2 ?side3 ?side4 A5.1).mono ?_);(case side1=>exact(Kd.R_reads' (by(with_reducible repeat(first|apply rA_|apply rN_|apply rD_));exact HSz5_6)).2.2);(case side2=>exact(Kd.R_reads' HSz5_6).2.1);(case side3=>exact q207_);(case side4=>exact(Kd.R_reads' HO5.1).2.1);rintro e w' ⟨rfl,⟨nd,rfl⟩⟩;refine⟨_,rfl,?_⟩))
       go_ret
       exact⟨q11_,q13_,q24_,q15_⟩
 ·simp only[Option.some.injEq,Prod.mk.injEq]at H;obtain⟨rfl,rfl,rfl,rfl,rfl,rfl,rfl,rfl⟩:=H;go_wp2
  go_ret
  exact⟨q11_,q13_,q24_,q15_⟩
def spec_l1HexOf.f(a:Int):Option (Int):=(spec_l1Digit.f a).bind fun b=>(if b=true then(some (wrap64 ((wrap64 (a))-48)))else((spec_l1In.f (wrap64 (a)) 97 102).bind fun c=>(if c=true then(some (wrap64 ((wrap64 ((wrap64 (a))-97))+10)))else((spec_l1In.f (wrap64 (a)) 65 70).bind fun d=>(if d=true then(some (wrap64 ((wrap64 ((wrap64 (a))-65))+10)))else(some (-1)))))))
theorem spec_l1HexOf.calls(a0:Int)(r:Int)(w:World)(h:spec_l1HexOf.f a0=some r):
  Calls Tryz.prog 87 #[.int .u8 a0] w fun e w'=>e= .returned (.int .i64 r)∧Drawn0 w w':=by
 have H:=h;clear h;unfold spec_l1HexOf.f at H
 replace H:=oB H;obtain⟨t1,A1,H⟩:=H;(try dsimp only at H);have HC1:=aK H;clear H;go_enter Tryz.func87,Tryz.ntmps87
 go_upto_if 3 with(first|((with_reducible refine gate_callee (f:=85) rfl ?_);refine goesL_ (some 5) rfl rfl Tryz.func85 (by kernel_rfl) rfl #[.int .u8 a0] rfl q1_ ?_;(with_reducible refine(spec_l1Digit.calls a0 t1 _ A1.1).mono ?_);rintro e w' ⟨rfl,⟨nd,rfl⟩⟩;refine⟨_,rfl,?_⟩))
 (try simp only[Act.put,sI,sZ,sS]);have H:=HC1.1;clear HC1;replace H:=iT H;rcases H with⟨rfl,H⟩|⟨rfl,H⟩
 ·obtain rfl:=Option.some.inj H;go_wp2
  go_ret
  exact⟨q3_,q12_⟩
 ·replace H:=oB H;obtain⟨t2,A2,H⟩:=H;(try dsimp only at H);have HC2:=aK H;clear H;go_upto_if 9 with(first|((with_reducible refine gate_callee (f:=43) rfl ?_);refine goesL_ (some 12) rfl rfl Tryz.func43 (by kernel_rfl) rfl #[.int .i64 (wrap64 (a0)),.int .i64 97,.int .i64 102] rfl q1_ ?_;(with_reducible refine(spec_l1In.calls (wrap64 (a0)) 97 102 t2 _ A2.1).mono ?_);rintro e w' ⟨rfl,⟨nd,rfl⟩⟩;refine⟨_,rfl,?_⟩))
  (try simp only[Act.put,sI,sZ,sS]);have H:=HC2.1;clear HC2;replace H:=iT H;rcases H with⟨rfl,H⟩|⟨rfl,H⟩
  ·obtain rfl:=Option.some.inj H;go_wp2
   go_ret
   exact⟨q3_,q12_⟩
  ·replace H:=oB H;obtain⟨t3,A3,H⟩:=H;(try dsimp only at H);have HC3:=aK H;clear H;go_upto_if 17 with(first|((with_reducible refine gate_callee (f:=43) rfl ?_);refine goesL_ (some 20) rfl rfl Tryz.func43 (by kernel_rfl) rfl #[.int .i64 (wrap64 (a0)),.int .i64 65,.int .i64 70] rfl q1_ ?_;(with_reducible refine(spec_l1In.calls (wrap64 (a0)) 65 70 t3 _ A3.1).mono ?_);rintro e w' ⟨rfl,⟨nd,rfl⟩⟩;refine⟨_,rfl,?_⟩))
   (try simp only[Act.put,sI,sZ,sS]);have H:=HC3.1;clear HC3;replace H:=iT H;rcases H with⟨rfl,H⟩|⟨rfl,H⟩
   ·obtain rfl:=Option.some.inj H;go_wp2
    go_ret
    exact⟨q3_,q12_⟩
   ·obtain rfl:=Option.some.inj H;go_wp2
    go_ret
    exact⟨q3_,q12_⟩
mutual
def spec_ParseHex.l0:Nat→ByteArray→Int→Int→Option (Int×Bool)
 |0,_,_,_=>none
 |k+1,a,b,c=>if c<(a.size:Int)then(spec_ParseHex.j1 k a b c (decide (c<5)))else(spec_ParseHex.j1 k a b c false)
def spec_ParseHex.j1:Nat→ByteArray→Int→Int→Bool→Option (Int×Bool)
 |0,_,_,_,_=>none
 |k+1,a,b,c,d=>if d=true then(if 0≤c then(if c<(a.size:Int)then((spec_l1HexOf.f (bt a c)).bind fun e=>(if e<0 then(some (0,false))else(spec_ParseHex.l0 k a (wrap64 ((wrap64 (b*16))+e)) (wrap64 (c+1)))))else(none))else(none))else((spec_l1In.f (a.size:Int) 1 4).bind fun g=>(if g=true then(some (b,true))else(some (0,false))))
end
def spec_ParseHex.f(k:Nat)(a:ByteArray):Option (Int×Bool):=spec_ParseHex.l0 k a 0 0
theorem spec_ParseHex.calls(k:Nat)(a0:ByteArray)(r1:Int)(r2:Bool)(w:World)(h:spec_ParseHex.f k a0=some (r1,r2)):
  Calls Tryz.prog 67 #[.string a0] w fun e w'=>e= .returned (.tuple #[.int .i64 r1,.bool r2])∧Drawn0 w w':=by
 have H:(spec_ParseHex.l0 k a0 0 0)=some (r1,r2):=h;clear h;have H':=aK H;clear H;go_enter Tryz.func67,Tryz.ntmps67
 go_wp2
 go_loopg [4,5] k (fun kq v1 v2 w'=>∃(x1:Int)(x2:Int),v1= .int .i64 x1∧v2= .int .i64 x2∧Aside0 (spec_ParseHex.l0 kq a0 x1 x2=some (r1,r2))∧Aside0 (kq≤k)∧Drawn0 w w')
 case atStart=>exact⟨(0),(0),q3_,q3_,H',⟨Nat.le_refl _⟩,q12_⟩
 case round=>
  clear H';obtain⟨x1,x2,rfl,rfl,HA,HK1,⟨m1,rfl⟩⟩:=hrel;cases gk with
  |zero=>exact absurd HA.1 (by simp[spec_ParseHex.l0])
  |succ k1=>
   have H:=HA.1;clear HA;simp only[spec_ParseHex.l0]at H;have HC1:=aK H;clear H;go_upto_region 3 with(fail)
   go_cut [14] (fun v3 wc=>∃(kq:Nat)(x3:Bool),v3= .bool x3∧Aside0 (spec_ParseHex.j1 kq a0 x1 x2 x3=some (r1,r2))∧Aside0 (kq≤k1)∧Drawn0 w wc)
   case first=>
    have H:=HC1.1;clear HC1;replace H:=iD H;rcases H with⟨c1b0,H⟩|⟨c1b0,H⟩
    ·(first|rw[c1b0]|rw[c1i0]|(simp only[i64_w,i32_w];rw[c1b0])|skip);have H':=aK H;clear H;go_wp2
     go_meet
     case rel=>exact⟨_,(decide (x2<5)),q3_,H',⟨q65_⟩,q12_⟩
    ·(first|rw[c1b0]|rw[c1i0]|(simp only[i64_w,i32_w];rw[c1b0])|skip);have H':=aK H;clear H;go_wp2
     go_meet
     case rel=>exact⟨_,(false),q3_,H',⟨q65_⟩,q12_⟩
   case rest=>
    clear HC1;(try clear p2);(try clear c1);(try clear c1b0);obtain⟨kq,x3,rfl,HA,HJ1,⟨mc1,rfl⟩⟩:=hcut;cases kq with
    |zero=>exact absurd HA.1 (by simp[spec_ParseHex.j1])
    |succ kj1=>
     have H:=HA.1;clear HA;simp only[spec_ParseHex.j1]at H;replace H:=iT H;rcases H with⟨rfl,H⟩|⟨rfl,H⟩
     ·replace H:=iG H;obtain⟨c3b0,H⟩:=H;replace H:=iG H;obtain⟨c4b0,H⟩:=H;replace H:=oB H;obtain⟨t1,A1,H⟩:=H;(try dsimp only at H);have HC2:=aK H;clear H;have p7:0≤(x2:Int):=of_decide_eq_true q6_;have q7:x2<(a0.size:Int):=of_decide_eq_true q6_;have hx7:=bt_at a0 x2;replace p7:=eq_true p7;replace q7:=eq_true q7;go_upto_if 22 with(first|((with_reducible refine gate_callee (f:=87) rfl ?_);refine goesL_ (some 20) rfl rfl Tryz.func87 (by kernel_rfl) rfl #[.int .u8 (bt a0 x2)] rfl q1_ ?_;(with_reducible refine(spec_l1HexOf.calls (bt a0 x2) t1 _ A1.1).mono ?_);rintro e w' ⟨rfl,⟨nd,rfl⟩⟩;refine⟨_,rfl,?_⟩))
      (try simp only[Act.put,sI,sZ,sS]);have H:=HC2.1;clear HC2;replace H:=iD H;rcases H with⟨c5b0,H⟩|⟨c5b0,H⟩
      ·(first|rw[c5b0]|rw[c5i0]|(simp only[i64_w,i32_w];rw[c5b0])|skip);simp only[Option.some.injEq,Prod.mk.injEq]at H;obtain⟨rfl,rfl⟩:=H;go_wp2
       go_ret2
       exact⟨q3_,q12_⟩
      ·(first|rw[c5b0]|rw[c5i0]|(simp only[i64_w,i32_w];rw[c5b0])|skip);have H':=aK H;clear H;go_wp2
       go_roundg kj1
       case measure=>have:=HK1.1;have:=HJ1.1;omega
       case rel=>exact⟨(wrap64 ((wrap64 (x1*16))+t1)),(wrap64 (x2+1)),q3_,q3_,H',⟨q130_⟩,q12_⟩
     ·replace H:=oB H;obtain⟨t2,A2,H⟩:=H;(try dsimp only at H);have HC3:=aK H;clear H;go_upto_if 30 with(first|((with_reducible refine gate_callee (f:=43) rfl ?_);refine goesL_ (some 29) rfl rfl Tryz.func43 (by kernel_rfl) rfl #[.int .i64 (a0.size:Int),.int .i64 1,.int .i64 4] rfl q1_ ?_;(with_reducible refine(spec_l1In.calls (a0.size:Int) 1 4 t2 _ A2.1).mono ?_);rintro e w' ⟨rfl,⟨nd,rfl⟩⟩;refine⟨_,rfl,?_⟩))
      (try simp only[Act.put,sI,sZ,sS]);have H:=HC3.1;clear HC3;replace H:=iT H;rcases H with⟨rfl,H⟩|⟨rfl,H⟩
      ·simp only[Option.some.injEq,Prod.mk.injEq]at H;obtain⟨rfl,rfl⟩:=H;go_wp2
       go_ret2
       exact⟨q3_,q12_⟩
      ·simp only[Option.some.injEq,Prod.mk.injEq]at H;obtain⟨rfl,rfl⟩:=H;go_wp2
       go_ret2
       exact⟨q3_,q12_⟩
end Go.Proofs.YtmojemogpelpnaaGreatDoor.GFnWires
