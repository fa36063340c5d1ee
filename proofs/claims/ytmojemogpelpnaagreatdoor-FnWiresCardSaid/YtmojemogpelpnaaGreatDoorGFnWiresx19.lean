import Derived.Test.YtmojemogpelpnaaGreatDoorGFnWiresx0
import Derived.Test.YtmojemogpelpnaaGreatDoorGFnWiresx3
import Derived.Test.YtmojemogpelpnaaGreatDoorGFnWiresx18
namespace Go.Proofs.YtmojemogpelpnaaGreatDoor.GFnWires
open Go.RowKit Go.Proofs.YtmojemogpelpnaaGreatDoorW.PrintWords Go.Proofs.YtmojemogpelpnaaGreatDoorW.PrintLast Go.Proofs.YtmojemogpelpnaaGreatDoorW.PrintMore
attribute [local go_sem] max2_int min2_int max_two min_two max_three min_three max_four min_four
set_option linter.unusedVariables false
set_option linter.unusedSimpArgs false
set_option maxRecDepth 100000
set_option maxHeartbeats 8000000
mutual
def spec_l4Size.j1:Nat→List Int→Int→Int→Option (Int×Int×Int)
 |0,_,_,_=>none
 |k+1,a,b,c=>if c=(wrap64 (b+5))then(some (0,0,400))else(if c<(a.length:Int)then(spec_l4Size.j2 k a b c true)else(spec_l4Size.j2 k a b c (decide (c>b))))
def spec_l4Size.j2:Nat→List Int→Int→Int→Bool→Option (Int×Int×Int)
 |0,_,_,_,_=>none
 |k+1,a,b,c,d=>if d=true then(if 0≤b then(if b≤c then(if c≤(a.length:Int)then((spec_ParseHex.f k (strOfNums ((a.take (c:Int).toNat).drop (b:Int).toNat))).bind fun e=>(if e.2=true then(spec_l4Size.j3 k a b c)else(some (0,0,400))))else(none))else(none))else(none))else(spec_l4Size.j3 k a b c)
def spec_l4Size.j3:Nat→List Int→Int→Int→Option (Int×Int×Int)
 |0,_,_,_=>none
 |k+1,a,b,c=>if(wrap64 (c+1))≥(a.length:Int)then(some (0,0,1))else(if 0≤(wrap64 (c+1))then(if(wrap64 (c+1))<(a.length:Int)then(if(rd a (wrap64 (c+1)))=10 then(if 0≤b then(if b≤c then(if c≤(a.length:Int)then((spec_ParseHex.f k (strOfNums ((a.take (c:Int).toNat).drop (b:Int).toNat))).bind fun d=>(some (d.1,wrap64 (c+2),0)))else(none))else(none))else(none))else(some (0,0,400)))else(none))else(none))
def spec_l4Size.l0:Nat→List Int→Int→Int→Option (Int×Int×Int)
 |0,_,_,_=>none
 |k+1,a,b,c=>if c<(a.length:Int)then(if c<(wrap64 (b+5))then(if 0≤c then(if(rd a c)=13 then(spec_l4Size.j1 k a b c)else(spec_l4Size.l0 k a b (wrap64 (c+1))))else(none))else(spec_l4Size.j1 k a b c))else(spec_l4Size.j1 k a b c)
end
def spec_l4Size.f(k:Nat)(l0:List Int)(a:Int):Option (Int×Int×Int):=spec_l4Size.l0 k l0 a a
theorem spec_l4Size.calls(k:Nat)(A0:Option Addr)(c0:Nat)(l0:List Int)(a1:Int)(r1:Int)(r2:Int)(r3:Int)(w:World)(hr0:Kd.C (Kd.int .u8) w A0 l0.length l0)(hc0:l0.length≤c0)(h:spec_l4Size.f k l0 a1=some (r1,r2,r3)):
  Calls Tryz.prog 44 #[.slice A0 l0.length c0,.int .i64 a1] w fun e w'=>e= .returned (.tuple #[.int .i64 r1,.int .i64 r2,.int .i64 r3])∧Drawn0 w w':=by
 have HR1:=aK hr0;have HC1:=aK hc0;clear hr0 hc0;have H:(spec_l4Size.l0 k l0 a1 a1)=some (r1,r2,r3):=h;clear h;have HC2:=aK H;clear H;go_enter Tryz.func44,Tryz.ntmps44
 go_upto_block 0 with(fail)
 go_cut [7] (fun v1 wc=>∃(kq:Nat)(x1:Int),v1= .int .i64 x1∧Aside0 (spec_l4Size.j1 kq l0 a1 x1=some (r1,r2,r3))∧Aside0 (kq≤k)∧Drawn0 w wc)
 case first=>
  have H:=HC2.1;clear HC2;have H':=aK H;clear H;go_wp2
  go_loopg [7] k (fun kq v1 w'=>∃(x2:Int),v1= .int .i64 x2∧Aside0 (spec_l4Size.l0 kq l0 a1 x2=some (r1,r2,r3))∧Aside0 (kq≤k)∧Drawn0 w w')
  case atStart=>exact⟨(a1),q3_,H',⟨Nat.le_refl _⟩,q12_⟩
  case round=>
   clear H';(try clear p2);obtain⟨x2,rfl,HA,HK1,⟨m1,rfl⟩⟩:=hrel;cases gk with
   |zero=>exact absurd HA.1 (by simp[spec_l4Size.l0])
   |succ k1=>
    have H:=HA.1;clear HA;simp only[spec_l4Size.l0]at H;replace H:=iD H;rcases H with⟨c1b0,H⟩|⟨c1b0,H⟩
    ·(first|rw[c1b0]|rw[c1i0]|(simp only[i64_w,i32_w];rw[c1b0])|skip);replace H:=iD H;rcases H with⟨c2b0,H⟩|⟨c2b0,H⟩
     ·replace H:=iG H;obtain⟨c3b0,H⟩:=H;replace H:=iQ H;rcases H with⟨-,c4b0,c4b1,H⟩|⟨c4,c4b0,c4b1,H⟩
      ·have H':=aK H;clear H;have p775:0≤(x2:Int):=of_decide_eq_true q6_;have q775:x2<(l0.length:Int):=of_decide_eq_true q6_;obtain⟨ad1,e775,hx775_0⟩:=Kd.at_int HR1.1 x2 p775 q775;cases e775
       replace p775:=eq_true p775;replace q775:=eq_true q775;go_wp2
       go_meet
       case rel=>exact⟨_,(x2),q3_,H',⟨q65_⟩,q12_⟩
      ·have H':=aK H;clear H;have p775:0≤(x2:Int):=of_decide_eq_true q6_;have q775:x2<(l0.length:Int):=of_decide_eq_true q6_;obtain⟨ad1,e775,hx775_0⟩:=Kd.at_int HR1.1 x2 p775 q775;cases e775
       replace p775:=eq_true p775;replace q775:=eq_true q775;go_wp2
       go_roundg k1
       case measure=>have:=HK1.1;omega
       case rel=>exact⟨(wrap64 (x2+1)),q3_,H',⟨q81_⟩,q12_⟩
     ·have H':=aK H;clear H;go_wp2
      go_meet
      case rel=>exact⟨_,(x2),q3_,H',⟨q65_⟩,q12_⟩
    ·(first|rw[c1b0]|rw[c1i0]|(simp only[i64_w,i32_w];rw[c1b0])|skip);have H':=aK H;clear H;go_wp2
     go_meet
     case rel=>exact⟨_,(x2),q3_,H',⟨q65_⟩,q12_⟩
 case rest=>
  clear HC2;(try clear p2);(try clear c1);(try clear c1b0);(try clear c2);(try clear c2b0);(try clear c3);(try clear c3b0);(try clear p6);(try clear c4);(try clear c4b0);(try clear c4b1);(try clear p7);(try clear q7);(try clear hx7);(try clear hx775_0);(try clear p2);(try clear p775);(try clear q775);obtain⟨kq,x1,rfl,HA,HJ1,⟨mc2,rfl⟩⟩:=hcut;cases kq with
  |zero=>exact absurd HA.1 (by simp[spec_l4Size.j1])
  |succ kj1=>
   have H:=HA.1;clear HA;simp only[spec_l4Size.j1]at H;replace H:=iQ H;rcases H with⟨-,c5b0,c5b1,H⟩|⟨c5,c5b0,c5b1,H⟩
   ·simp only[Option.some.injEq,Prod.mk.injEq]at H;obtain⟨rfl,rfl,rfl⟩:=H;go_wp2
    go_ret3
    exact⟨q3_,q12_⟩
   ·have HC3:=aK H;clear H;go_upto_region 6 with(fail)
    go_cut [44] (fun v2 wc=>∃(kq:Nat)(x3:Bool),v2= .bool x3∧Aside0 (spec_l4Size.j2 kq l0 a1 x1 x3=some (r1,r2,r3))∧Aside0 (kq≤kj1)∧Drawn0 w wc)
    case first=>
     have H:=HC3.1;clear HC3;replace H:=iD H;rcases H with⟨c6b0,H⟩|⟨c6b0,H⟩
     ·(first|rw[c6b0]|rw[c6i0]|(simp only[i64_w,i32_w];rw[c6b0])|skip);have H':=aK H;clear H;go_wp2
      go_meet
      case rel=>exact⟨_,(true),q3_,H',⟨q215_⟩,q12_⟩
     ·(first|rw[c6b0]|rw[c6i0]|(simp only[i64_w,i32_w];rw[c6b0])|skip);have H':=aK H;clear H;go_wp2
      go_meet
      case rel=>exact⟨_,(decide (x1>a1)),q3_,H',⟨q215_⟩,q12_⟩
    case rest=>
     clear HC3;(try clear c7);(try clear c8);(try clear p2);(try clear c1);(try clear c1b0);(try clear c2);(try clear c2b0);(try clear c3);(try clear c3b0);(try clear p6);(try clear c4);(try clear c4b0);(try clear c4b1);(try clear p7);(try clear q7);(try clear hx7);(try clear c5);(try clear c5b0);(try clear c5b1);(try clear c6);(try clear c6b0);(try clear hx775_0);(try clear p2);(try clear p6);(try clear p7);(try clear p775);(try clear q7);(try clear q775);obtain⟨kq,x3,rfl,HA,HJ2,⟨mc8,rfl⟩⟩:=hcut;cases kq with
     |zero=>exact absurd HA.1 (by simp[spec_l4Size.j2])
     |succ kj2=>
      have H:=HA.1;clear HA;simp only[spec_l4Size.j2]at H;have HC4:=aK H;clear H;go_upto_if 44 with(fail)
      go_cut [] (fun wc=>∃(kq:Nat),Aside0 (spec_l4Size.j3 kq l0 a1 x1=some (r1,r2,r3))∧Aside0 (kq≤kj2)∧Drawn0 w wc)
      case first=>
       have H:=HC4.1;clear HC4;replace H:=iT H;rcases H with⟨rfl,H⟩|⟨rfl,H⟩
       ·replace H:=iU H;obtain⟨-,c10b0,c10b1,H⟩:=H;replace H:=iU H;obtain⟨-,c11b0,c11b1,H⟩:=H;replace H:=iU H;obtain⟨-,c12b0,c12b1,H⟩:=H;replace H:=oB H;obtain⟨⟨t1,t2⟩,A1,H⟩:=H;(try dsimp only at H);have HC5:=aK H;clear H;obtain⟨i018,hi018,_,hsz18,_⟩:=info_parts info5;obtain⟨A2,hcut18,hA18,hC18⟩:=print_mid_of (P:=Tryz.prog) (Value.int .u8) 0 22 5 .i64 .i64 Tryz.underlying22 hi018 hsz18 A0 c0 l0 a1 x1 (of_decide_eq_true q6_) (by first|omega|exact of_decide_eq_true q6_) (of_decide_eq_true q6_) HC1.1;have HR2:=aK (Kd.C_of_reads (h1:=fun _=>rfl) (hA18 _ (Kd.reads_of_C HR1.1)));have HC6:=aK hC18;clear hA18 hC18 hi018 hsz18;have hq_:=HR2.1;rw[show((l0.take (x1:Int).toNat).drop (a1:Int).toNat).length=(x1.toNat-a1.toNat)from q237_]at hq_;have hcv19:=Kd.C_string (P:=Tryz.prog) (A:=A2) (c:=(c0-a1.toNat)) Tryz.underlying22 Tryz.underlying5 Tryz.underlying9 hq_;have hcv20:=fun nq_:Nat=>Kd.C_string (P:=Tryz.prog) (A:=A2) (c:=(c0-a1.toNat)) Tryz.underlying22 Tryz.underlying5 Tryz.underlying9 (Kd.C_drewN hq_ nq_)
        clear hq_;go_upto_if 55 with(first|((with_reducible refine gate_callee (f:=67) rfl ?_);refine goesL_ (some 51) rfl rfl Tryz.func67 (by kernel_rfl) rfl #[.string (strOfNums ((l0.take (x1:Int).toNat).drop (a1:Int).toNat))] rfl q1_ ?_;(with_reducible refine(spec_ParseHex.calls kj2 (strOfNums ((l0.take (x1:Int).toNat).drop (a1:Int).toNat)) t1 t2 _ A1.1).mono ?_);rintro e w' ⟨rfl,⟨nd,rfl⟩⟩;refine⟨_,rfl,?_⟩))
        (try simp only[Act.put,sI,sZ,sS]);have H:=HC5.1;clear HC5;replace H:=iT H;rcases H with⟨rfl,H⟩|⟨rfl,H⟩
        ·have H':=aK H;clear H;go_wp2
         go_meet
         case rel=>exact⟨_,H',⟨by have:=HJ1.1;have:=HJ2.1;first|omega|exact Nat.le_refl _⟩,q12_⟩
        ·simp only[Option.some.injEq,Prod.mk.injEq]at H;obtain⟨rfl,rfl,rfl⟩:=H;go_wp2
         go_ret3
         exact⟨q3_,q12_⟩
       ·have H':=aK H;clear H;go_wp2
        go_meet
        case rel=>exact⟨_,H',⟨by have:=HJ1.1;have:=HJ2.1;first|omega|exact Nat.le_refl _⟩,q12_⟩
      case rest=>
       clear HC4;(try clear c7);(try clear hcv1);(try clear c8);(try clear p2);(try clear hcv2);(try clear c1);(try clear c1b0);(try clear c2);(try clear c2b0);(try clear c3);(try clear c3b0);(try clear p6);(try clear c4);(try clear c4b0);(try clear c4b1);(try clear p7);(try clear q7);(try clear hx7);(try clear c5);(try clear c5b0);(try clear c5b1);(try clear c6);(try clear c6b0);(try clear c9);(try clear c10);(try clear c10b0);(try clear c10b1);(try clear c11);(try clear c11b0);(try clear c11b1);(try clear c12);(try clear c12b0);(try clear c12b1);(try clear hcv19);(try clear hcv20);(try clear c13);(try clear hx775_0);(try clear p2);(try clear p6);(try clear p7);(try clear p775);(try clear q7);(try clear q775);obtain⟨kq,HA,HJ3,⟨mc10,rfl⟩⟩:=hcut;cases kq with
       |zero=>exact absurd HA.1 (by simp[spec_l4Size.j3])
       |succ kj3=>
        have H:=HA.1;clear HA;simp only[spec_l4Size.j3]at H;replace H:=iB H;rcases H with⟨c14,H⟩|⟨c14,H⟩
        ·have c14b0:decide ((l0.length:Int)≤(wrap64 (x1+1)))=true:=decide_eq_true c14;clear c14;simp only[Option.some.injEq,Prod.mk.injEq]at H;obtain⟨rfl,rfl,rfl⟩:=H;go_wp2
         go_ret3
         exact⟨q3_,q12_⟩
        ·have c14b0:decide ((l0.length:Int)≤(wrap64 (x1+1)))=false:=decide_eq_false c14;clear c14;obtain⟨ji23,hji23⟩:∃j_:Int,(wrap64 (x1+1))=j_:=⟨_,rfl⟩;replace H:(if 0≤(ji23)then(if(ji23)<(l0.length:Int)then(if(rd l0 (ji23))=10 then(if 0≤a1 then(if a1≤x1 then(if x1≤(l0.length:Int)then((spec_ParseHex.f kj3 (strOfNums ((l0.take (x1:Int).toNat).drop (a1:Int).toNat))).bind fun bt781=>(some (bt781.1,wrap64 (x1+2),0)))else(none))else(none))else(none))else(some (0,0,400)))else(none))else(none))=some (r1,r2,r3):=by first|(rw[hji23]at H;exact H)|(simp only[hji23]at H⊢;exact H)
         (try rw[hji23]at c14b0);have hji23w:(IntKind.i64.wrap (x1+1))=ji23:=(i64_w _).trans hji23;replace H:=iG H;obtain⟨c15b0,H⟩:=H;replace H:=iG H;obtain⟨c16b0,H⟩:=H;replace H:=iQ H;rcases H with⟨-,c17b0,c17b1,H⟩|⟨c17,c17b0,c17b1,H⟩
         ·replace H:=iU H;obtain⟨-,c18b0,c18b1,H⟩:=H;replace H:=iU H;obtain⟨-,c19b0,c19b1,H⟩:=H;replace H:=iU H;obtain⟨-,c20b0,c20b1,H⟩:=H;replace H:=oB H;obtain⟨⟨t3,t4⟩,A3,H⟩:=H;(try dsimp only at H);simp only[Option.some.injEq,Prod.mk.injEq]at H;obtain⟨rfl,rfl,rfl⟩:=H;have p779:0≤((ji23):Int):=of_decide_eq_true q6_;have q779:(ji23)<(l0.length:Int):=of_decide_eq_true q6_;obtain⟨ad2,e779,hx779_0⟩:=Kd.at_int HR1.1 (ji23) p779 q779;cases e779
          replace p779:=eq_true p779;replace q779:=eq_true q779;obtain⟨i031,hi031,_,hsz31,_⟩:=info_parts info5;obtain⟨A4,hcut31,hA31,hC31⟩:=print_mid_of (P:=Tryz.prog) (Value.int .u8) 0 22 5 .i64 .i64 Tryz.underlying22 hi031 hsz31 (some ad2) c0 l0 a1 x1 (of_decide_eq_true q6_) (by first|omega|exact of_decide_eq_true q6_) (of_decide_eq_true q6_) HC1.1;have HR3:=aK (Kd.C_of_reads (h1:=fun _=>rfl) (hA31 _ (Kd.reads_of_C HR1.1)));have HC7:=aK hC31;clear hA31 hC31 hi031 hsz31;have hq_:=HR3.1;rw[show((l0.take (x1:Int).toNat).drop (a1:Int).toNat).length=(x1.toNat-a1.toNat)from q237_]at hq_;have hcv32:=Kd.C_string (P:=Tryz.prog) (A:=A4) (c:=(c0-a1.toNat)) Tryz.underlying22 Tryz.underlying5 Tryz.underlying9 hq_;have hcv33:=fun nq_:Nat=>Kd.C_string (P:=Tryz.prog) (A:=A4) (c:=(c0-a1.toNat)) Tryz.underlying22 Tryz.underlying5 Tryz.underlying9 (Kd.C_drewN hq_ nq_)
          clear hq_;go_wp2_with (first|((with_reducible refine gate_callee (f:=67) rfl ?_);refine goesL_ (some 73) rfl rfl Tryz.func67 (by kernel_rfl) rfl #[.string (strOfNums ((l0.take (x1:Int).toNat).drop (a1:Int).toNat))] rfl q1_ ?_;(with_reducible refine(spec_ParseHex.calls kj3 (strOfNums ((l0.take (x1:Int).toNat).drop (a1:Int).toNat)) t3 t4 _ A3.1).mono ?_);rintro e w' ⟨rfl,⟨nd,rfl⟩⟩;refine⟨_,rfl,?_⟩))
          go_ret3
          exact⟨q228_,q12_⟩
         ·simp only[Option.some.injEq,Prod.mk.injEq]at H;obtain⟨rfl,rfl,rfl⟩:=H;have p779:0≤((ji23):Int):=of_decide_eq_true q6_;have q779:(ji23)<(l0.length:Int):=of_decide_eq_true q6_;obtain⟨ad2,e779,hx779_0⟩:=Kd.at_int HR1.1 (ji23) p779 q779;cases e779
          replace p779:=eq_true p779;replace q779:=eq_true q779;go_wp2
          go_ret3
          exact⟨q228_,q12_⟩
def spec_l4End.f(l0:List Int)(a:Int):Option (Int):=if a≥(l0.length:Int)then(some 1)else(if 0≤a then(if a<(l0.length:Int)then(if(rd l0 a)=13 then(if(wrap64 (a+1))≥(l0.length:Int)then(some 1)else(if 0≤(wrap64 (a+1))then(if(wrap64 (a+1))<(l0.length:Int)then(if(rd l0 (wrap64 (a+1)))=10 then(some 0)else(some 400))else(none))else(none)))else(some 400))else(none))else(none))
theorem spec_l4End.calls(A0:Option Addr)(c0:Nat)(l0:List Int)(a1:Int)(r:Int)(w:World)(hr0:Kd.C (Kd.int .u8) w A0 l0.length l0)(hc0:l0.length≤c0)(h:spec_l4End.f l0 a1=some r):
  Calls Tryz.prog 45 #[.slice A0 l0.length c0,.int .i64 a1] w fun e w'=>e= .returned (.int .i64 r)∧Drawn0 w w':=by
 have HR1:=aK hr0;have HC1:=aK hc0;clear hr0 hc0;have H:=h;clear h;unfold spec_l4End.f at H
 replace H:=iB H;rcases H with⟨c1,H⟩|⟨c1,H⟩
 ·have c1b0:decide ((l0.length:Int)≤a1)=true:=decide_eq_true c1;clear c1;obtain rfl:=Option.some.inj H;go_enter Tryz.func45,Tryz.ntmps45
  go_wp2
  go_ret
  exact⟨q3_,q12_⟩
 ·have c1b0:decide ((l0.length:Int)≤a1)=false:=decide_eq_false c1;clear c1;replace H:=iG H;obtain⟨c2b0,H⟩:=H;replace H:=iG H;obtain⟨c3b0,H⟩:=H;replace H:=iQ H;rcases H with⟨-,c4b0,c4b1,H⟩|⟨c4,c4b0,c4b1,H⟩
  ·replace H:=iB H;rcases H with⟨c5,H⟩|⟨c5,H⟩
   ·have c5b0:decide ((l0.length:Int)≤(wrap64 (a1+1)))=true:=decide_eq_true c5;clear c5;obtain rfl:=Option.some.inj H;have p783:0≤(a1:Int):=of_decide_eq_true q6_;have q783:a1<(l0.length:Int):=of_decide_eq_true q6_;obtain⟨ad1,e783,hx783_0⟩:=Kd.at_int HR1.1 a1 p783 q783;cases e783
    replace p783:=eq_true p783;replace q783:=eq_true q783;go_enter Tryz.func45,Tryz.ntmps45
    go_wp2
    go_ret
    exact⟨q3_,q12_⟩
   ·have c5b0:decide ((l0.length:Int)≤(wrap64 (a1+1)))=false:=decide_eq_false c5;clear c5;obtain⟨ji8,hji8⟩:∃j_:Int,(wrap64 (a1+1))=j_:=⟨_,rfl⟩;replace H:(if 0≤(ji8)then(if(ji8)<(l0.length:Int)then(if(rd l0 (ji8))=10 then(some 0)else(some 400))else(none))else(none))=some r:=by first|(rw[hji8]at H;exact H)|(simp only[hji8]at H⊢;exact H)
    (try rw[hji8]at c5b0);have hji8w:(IntKind.i64.wrap (a1+1))=ji8:=(i64_w _).trans hji8;replace H:=iG H;obtain⟨c6b0,H⟩:=H;replace H:=iG H;obtain⟨c7b0,H⟩:=H;replace H:=iQ H;rcases H with⟨-,c8b0,c8b1,H⟩|⟨c8,c8b0,c8b1,H⟩
    ·obtain rfl:=Option.some.inj H;have p783:0≤(a1:Int):=of_decide_eq_true q6_;have q783:a1<(l0.length:Int):=of_decide_eq_true q6_;obtain⟨ad1,e783,hx783_0⟩:=Kd.at_int HR1.1 a1 p783 q783;cases e783
     replace p783:=eq_true p783;replace q783:=eq_true q783;have p784:0≤((ji8):Int):=of_decide_eq_true q6_;have q784:(ji8)<(l0.length:Int):=of_decide_eq_true q6_;obtain⟨ad2,e784,hx784_0⟩:=Kd.at_int HR1.1 (ji8) p784 q784;obtain rfl:ad1=ad2:=(by injection e784);replace p784:=eq_true p784;replace q784:=eq_true q784;go_enter Tryz.func45,Tryz.ntmps45
     go_wp2
     go_ret
     exact⟨q231_,q12_⟩
    ·obtain rfl:=Option.some.inj H;have p783:0≤(a1:Int):=of_decide_eq_true q6_;have q783:a1<(l0.length:Int):=of_decide_eq_true q6_;obtain⟨ad1,e783,hx783_0⟩:=Kd.at_int HR1.1 a1 p783 q783;cases e783
     replace p783:=eq_true p783;replace q783:=eq_true q783;have p784:0≤((ji8):Int):=of_decide_eq_true q6_;have q784:(ji8)<(l0.length:Int):=of_decide_eq_true q6_;obtain⟨ad2,e784,hx784_0⟩:=Kd.at_int HR1.1 (ji8) p784 q784;obtain rfl:ad1=ad2:=(by injection e784);replace p784:=eq_true p784;replace q784:=eq_true q784;go_enter Tryz.func45,Tryz.ntmps45
     go_wp2
     go_ret
     exact⟨q231_,q12_⟩
  ·obtain rfl:=Option.some.inj H;have p783:0≤(a1:Int):=of_decide_eq_true q6_;have q783:a1<(l0.length:Int):=of_decide_eq_true q6_;obtain⟨ad1,e783,hx783_0⟩:=Kd.at_int HR1.1 a1 p783 q783;cases e783
   replace p783:=eq_true p783;replace q783:=eq_true q783;go_enter Tryz.func45,Tryz.ntmps45
   go_wp2
   go_ret
   exact⟨q3_,q12_⟩
def spec_GetChunks.l0:Nat→List Int→Int→ByteArray→Option (ByteArray×Int×Int)
 |0,_,_,_=>none
 |k+1,a,b,c=>if(c.size:Int)≤200 then((spec_l4Size.f k a b).bind fun d=>(if d.2.2=0 then(if(wrap64 ((c.size:Int)+d.1))>200 then(some ((⟨#[]⟩:BA),0,413))else(if d.1>(wrap64 ((a.length:Int)-d.2.1))then(some ((⟨#[]⟩:BA),0,1))else(if 0≤d.2.1 then(if d.2.1≤(wrap64 (d.2.1+d.1))then(if(wrap64 (d.2.1+d.1))≤(a.length:Int)then(if c.size+(strOfNums ((a.take ((wrap64 (d.2.1+d.1)):Int).toNat).drop (d.2.1:Int).toNat)).size≤9223372036854775807 then((spec_l4End.f a (wrap64 (d.2.1+d.1))).bind fun e=>(if e=0 then(if d.1=0 then(some (c++(strOfNums ((a.take ((wrap64 (d.2.1+d.1)):Int).toNat).drop (d.2.1:Int).toNat)),wrap64 ((wrap64 (d.2.1+d.1))+2),0))else(spec_GetChunks.l0 k a (wrap64 ((wrap64 (d.2.1+d.1))+2)) (c++(strOfNums ((a.take ((wrap64 (d.2.1+d.1)):Int).toNat).drop (d.2.1:Int).toNat)))))else(some ((⟨#[]⟩:BA),0,e))))else(none))else(none))else(none))else(none))))else(some ((⟨#[]⟩:BA),0,d.2.2))))else(some ((⟨#[]⟩:BA),0,413))
def spec_GetChunks.f(k:Nat)(l0:List Int)(a:Int):Option (ByteArray×Int×Int):=(spec_l1In.f a 0 (l0.length:Int)).bind fun b=>(if b=true then(spec_GetChunks.l0 k l0 a (⟨#[]⟩:BA))else(some ((⟨#[]⟩:BA),0,400)))
theorem spec_GetChunks.calls(k:Nat)(A0:Option Addr)(c0:Nat)(l0:List Int)(a1:Int)(r1:ByteArray)(r2:Int)(r3:Int)(w:World)(hr0:Kd.C (Kd.int .u8) w A0 l0.length l0)(hc0:l0.length≤c0)(h:spec_GetChunks.f k l0 a1=some (r1,r2,r3)):
  Calls Tryz.prog 30 #[.slice A0 l0.length c0,.int .i64 a1] w fun e w'=>e= .returned (.tuple #[.string r1,.int .i64 r2,.int .i64 r3])∧Drawn0 w w':=by
 have HR1:=aK hr0;have HC1:=aK hc0;clear hr0 hc0;have H:=h;clear h;unfold spec_GetChunks.f at H
 replace H:=oB H;obtain⟨t1,A1,H⟩:=H;(try dsimp only at H);have HC2:=aK H;clear H;go_enter Tryz.func30,Tryz.ntmps30
 go_upto_if 15 with(first|((with_reducible refine gate_callee (f:=43) rfl ?_);refine goesL_ (some 14) rfl rfl Tryz.func43 (by kernel_rfl) rfl #[.int .i64 a1,.int .i64 0,.int .i64 (l0.length:Int)] rfl q1_ ?_;(with_reducible refine(spec_l1In.calls a1 0 (l0.length:Int) t1 _ A1.1).mono ?_);rintro e w' ⟨rfl,⟨nd,rfl⟩⟩;refine⟨_,rfl,?_⟩))
 (try simp only[Act.put,sI,sZ,sS]);have H:=HC2.1;clear HC2;replace H:=iT H;rcases H with⟨rfl,H⟩|⟨rfl,H⟩
 ·have H':=aK H;clear H;go_wp2
  go_loopg [1,7] k (fun kq v1 v2 w'=>∃(x1:Int)(x2:ByteArray),v1= .int .i64 x1∧v2= .string x2∧Aside0 (spec_GetChunks.l0 kq l0 x1 x2=some (r1,r2,r3))∧Aside0 (kq≤k)∧Drawn0 w w')
  case atStart=>exact⟨(a1),((⟨#[]⟩:BA)),q3_,q3_,H',⟨Nat.le_refl _⟩,q12_⟩
  case round=>
   clear H';(try clear p2);(try clear c2);(try clear c3);(try clear c1);obtain⟨x1,x2,rfl,rfl,HA,HK1,⟨m1,rfl⟩⟩:=hrel;cases gk with
   |zero=>exact absurd HA.1 (by simp[spec_GetChunks.l0])
   |succ k1=>
    have H:=HA.1;clear HA;simp only[spec_GetChunks.l0]at H;replace H:=iB H;rcases H with⟨c4,H⟩|⟨c4,H⟩
    ·have c4b0:=decide_eq_true c4;have c4b1:decide (x2.size≤200)=true:=decide_eq_true (by omega);clear c4;(first|rw[c4b0]|rw[c4i0]|rw[c4b1]|(simp only[i64_w,i32_w];rw[c4b0])|skip);replace H:=oB H;obtain⟨⟨t2,t3,t4⟩,A2,H⟩:=H;(try dsimp only at H);have HC3:=aK H;clear H;go_upto_if 27 with(first|((with_reducible refine gate_callee (f:=44) rfl ?_);refine goesL_ (some 22) rfl rfl Tryz.func44 (by kernel_rfl) rfl #[.slice A0 l0.length c0,.int .i64 x1] rfl q1_ ?_;(with_reducible refine(spec_l4Size.calls k1 _ _ l0 x1 t2 t3 t4 _ ?side1 ?side2 A2.1).mono ?_);(case side1=>exact q83_);(case side2=>exact q174_);rintro e w' ⟨rfl,⟨nd,rfl⟩⟩;refine⟨_,rfl,?_⟩))
     (try simp only[Act.put,sI,sZ,sS]);have H:=HC3.1;clear HC3;replace H:=iQ H;rcases H with⟨-,c5b0,c5b1,H⟩|⟨c5,c5b0,c5b1,H⟩
     ·(first|rw[c5b0]|rw[c5i0]|(simp only[i64_w,i32_w];rw[c5b0])|skip);replace H:=iB H;rcases H with⟨c6,H⟩|⟨c6,H⟩
      ·have c6b0:decide (200<(wrap64 ((x2.size:Int)+t2)))=true:=decide_eq_true c6;clear c6;simp only[Option.some.injEq,Prod.mk.injEq]at H;obtain⟨rfl,rfl,rfl⟩:=H;go_wp2
       go_ret3
       exact⟨q3_,q12_⟩
      ·have c6b0:decide (200<(wrap64 ((x2.size:Int)+t2)))=false:=decide_eq_false c6;clear c6;replace H:=iB H;rcases H with⟨c7,H⟩|⟨c7,H⟩
       ·have c7b0:decide ((wrap64 ((l0.length:Int)-t3))<t2)=true:=decide_eq_true c7;clear c7;simp only[Option.some.injEq,Prod.mk.injEq]at H;obtain⟨rfl,rfl,rfl⟩:=H;go_wp2
        go_ret3
        exact⟨q3_,q12_⟩
       ·have c7b0:decide ((wrap64 ((l0.length:Int)-t3))<t2)=false:=decide_eq_false c7;clear c7;replace H:=iU H;obtain⟨-,c8b0,c8b1,H⟩:=H;replace H:=iU H;obtain⟨c9,c9b0,c9b1,H⟩:=H;replace H:=iU H;obtain⟨c10,c10b0,c10b1,H⟩:=H;replace H:=iU H;obtain⟨c11,c11b0,c11b1,H⟩:=H;try have c11b2:(9223372036854775807<x2.size+(strOfNums ((l0.take ((wrap64 (t3+t2)):Int).toNat).drop (t3:Int).toNat)).size)=False:=eq_false (Nat.not_lt.2 c11)
        replace H:=oB H;obtain⟨t5,A3,H⟩:=H;(try dsimp only at H);have HC4:=aK H;clear H;obtain⟨i018,hi018,_,hsz18,_⟩:=info_parts info5;obtain⟨A4,hcut18,hA18,hC18⟩:=print_mid_of (P:=Tryz.prog) (Value.int .u8) 0 22 5 .i64 .i64 Tryz.underlying22 hi018 hsz18 A0 c0 l0 t3 (wrap64 (t3+t2)) (of_decide_eq_true q6_) (by first|omega|exact of_decide_eq_true q6_) (of_decide_eq_true q6_) HC1.1;have HR2:=aK (Kd.C_of_reads (h1:=fun _=>rfl) (hA18 _ (Kd.reads_of_C HR1.1)));have HC5:=aK hC18;clear hA18 hC18 hi018 hsz18;have hq_:=HR2.1;rw[show((l0.take ((wrap64 (t3+t2)):Int).toNat).drop (t3:Int).toNat).length=((wrap64 (t3+t2)).toNat-t3.toNat)from(by rw[List.length_drop,List.length_take];have h_:((wrap64 (t3+t2)):Int)≤(l0.length:Int):=of_decide_eq_true q6_;omega)]at hq_;have hcv19:=Kd.C_string (P:=Tryz.prog) (A:=A4) (c:=(c0-t3.toNat)) Tryz.underlying22 Tryz.underlying5 Tryz.underlying9 hq_;have hcv20:=fun nq_:Nat=>Kd.C_string (P:=Tryz.prog) (A:=A4) (c:=(c0-t3.toNat)) Tryz.underlying22 Tryz.underlying5 Tryz.underlying9 (Kd.C_drewN hq_ nq_)
        clear hq_;go_upto_if 55 with(first|((with_reducible refine gate_callee (f:=45) rfl ?_);refine goesL_ (some 53) rfl rfl Tryz.func45 (by kernel_rfl) rfl #[.slice A0 l0.length c0,.int .i64 (wrap64 (t3+t2))] rfl q1_ ?_;(with_reducible refine(spec_l4End.calls _ _ l0 (wrap64 (t3+t2)) t5 _ ?side1 ?side2 A3.1).mono ?_);(case side1=>exact q83_);(case side2=>exact q174_);rintro e w' ⟨rfl,⟨nd,rfl⟩⟩;refine⟨_,rfl,?_⟩))
        (try simp only[Act.put,sI,sZ,sS]);have H:=HC4.1;clear HC4;replace H:=iQ H;rcases H with⟨-,c12b0,c12b1,H⟩|⟨c12,c12b0,c12b1,H⟩
        ·(first|rw[c12b0]|rw[c12i0]|(simp only[i64_w,i32_w];rw[c12b0])|skip);replace H:=iQ H;rcases H with⟨-,c13b0,c13b1,H⟩|⟨c13,c13b0,c13b1,H⟩
         ·simp only[Option.some.injEq,Prod.mk.injEq]at H;obtain⟨rfl,rfl,rfl⟩:=H;go_wp2
          go_ret3
          exact⟨q3_,q12_⟩
         ·have H':=aK H;clear H;go_wp2
          go_roundg k1
          case measure=>have:=HK1.1;omega
          case rel=>exact⟨(wrap64 ((wrap64 (t3+t2))+2)),(x2++(strOfNums ((l0.take ((wrap64 (t3+t2)):Int).toNat).drop (t3:Int).toNat))),q3_,q3_,H',⟨q81_⟩,q12_⟩
        ·(first|rw[c12b0]|rw[c12i0]|(simp only[i64_w,i32_w];rw[c12b0])|skip);simp only[Option.some.injEq,Prod.mk.injEq]at H;obtain⟨rfl,rfl,rfl⟩:=H;go_wp2
         go_ret3
         exact⟨q3_,q12_⟩
     ·(first|rw[c5b0]|rw[c5i0]|(simp only[i64_w,i32_w];rw[c5b0])|skip);simp only[Option.some.injEq,Prod.mk.injEq]at H;obtain⟨rfl,rfl,rfl⟩:=H;go_wp2
      go_ret3
      exact⟨q3_,q12_⟩
    ·have c4b0:=decide_eq_false c4;have c4b1:decide (x2.size≤200)=false:=decide_eq_false (by omega);clear c4;(first|rw[c4b0]|rw[c4i0]|rw[c4b1]|(simp only[i64_w,i32_w];rw[c4b0])|skip);simp only[Option.some.injEq,Prod.mk.injEq]at H;obtain⟨rfl,rfl,rfl⟩:=H;go_wp2
     go_ret3
     exact⟨q3_,q12_⟩
 ·simp only[Option.some.injEq,Prod.mk.injEq]at H;obtain⟨rfl,rfl,rfl⟩:=H;go_wp2
  go_ret3
  exact⟨q3_,q12_⟩
end Go.Proofs.YtmojemogpelpnaaGreatDoor.GFnWires
