import Derived.Test.YtmojemogpelpnaaGreatDoorGFnWiresx0
import Derived.Test.YtmojemogpelpnaaGreatDoorGFnWiresx7
namespace Go.Proofs.YtmojemogpelpnaaGreatDoor.GFnWires
open Go.RowKit Go.Proofs.YtmojemogpelpnaaGreatDoorW.PrintWords Go.Proofs.YtmojemogpelpnaaGreatDoorW.PrintLast Go.Proofs.YtmojemogpelpnaaGreatDoorW.PrintMore
attribute [local go_sem] max2_int min2_int max_two min_two max_three min_three max_four min_four
set_option linter.unusedVariables false
set_option linter.unusedSimpArgs false
set_option maxRecDepth 100000
set_option maxHeartbeats 8000000
def IsS96(w0 W:World)(g:Nat)(f0:ByteArray)(f1:Int):Prop:=W.heap[g]? =some (.cells #[.string f0,.int .i64 f1] 96 (0,0))∧w0.heap.size≤g
theorem IsS96.grown{w0 W:World}{g:Nat}{f0:ByteArray}{f1:Int}{W1:World}{row:Option Nat}(h:IsS96 w0 W g f0 f1)(hw:W.grownBy W1 row)(hne:some g≠row):IsS96 w0 W1 g f0 f1:=by
 obtain⟨hb,hg⟩:=h;exact⟨blk_grown hb hw hne,hg⟩
theorem IsS96.below{w0 W:World}{g:Nat}{f0:ByteArray}{f1:Int}{W1:World}(h:IsS96 w0 W g f0 f1)(hw:Below W.heap.size W W1):IsS96 w0 W1 g f0 f1:=h.grown (grown_of_below hw none) (by simp)
theorem IsS96.alloc{w0 W:World}{g:Nat}{f0:ByteArray}{f1:Int}(h:IsS96 w0 W g f0 f1)(o:Obj):IsS96 w0 (W.alloc o) g f0 f1:=h.below (aB_ (Below.refl _ _) o)
theorem IsS96.drewN{w0 W:World}{g:Nat}{f0:ByteArray}{f1:Int}(h:IsS96 w0 W g f0 f1)(m:Nat):IsS96 w0 (W.drewN m) g f0 f1:=h
theorem IsS96.drew{w0 W:World}{g:Nat}{f0:ByteArray}{f1:Int}(h:IsS96 w0 W g f0 f1):IsS96 w0 W.drew g f0 f1:=h
theorem IsS96.ge{w0 W:World}{g:Nat}{f0:ByteArray}{f1:Int}(h:IsS96 w0 W g f0 f1):w0.heap.size≤g:=by
 obtain⟨hb,hg⟩:=h;exact hg
theorem IsS96.set_0{w0 W:World}{g:Nat}{f0:ByteArray}{f1:Int}(h:IsS96 w0 W g f0 f1)(x:ByteArray):IsS96 w0 (W.setCell ⟨g,0,none⟩ (.string x)) g x f1:=by
 obtain⟨hb,hg⟩:=h;exact⟨by simpa using blk_set hb 0 (.string x),hg⟩
theorem IsS96.set_1{w0 W:World}{g:Nat}{f0:ByteArray}{f1:Int}(h:IsS96 w0 W g f0 f1)(x:Int):IsS96 w0 (W.setCell ⟨g,1,none⟩ (.int .i64 x)) g f0 x:=by
 obtain⟨hb,hg⟩:=h;exact⟨by simpa using blk_set hb 1 (.int .i64 x),hg⟩
mutual
def impl_chunks_end.l0:Nat→Int→ByteArray→Int→Option (ByteArray×Int)
 |0,_,_,_=>none
 |k+1,a,b,c=>if a<2 then(impl_chunks_end.j1 k a (c==0) b c)else(impl_chunks_end.j1 k a false b c)
def impl_chunks_end.j1:Nat→Int→Bool→ByteArray→Int→Option (ByteArray×Int)
 |0,_,_,_,_=>none
 |k+1,a,b,c,d=>if b=true then(if c.toList=([]:List UInt8)then(impl_chunks_end.l0 k (wrap64 (a+1)) c 1)else(if 0<(c.size:Int)then(if 0≤a then(if a<2 then(if(bt c 0)=(bt (⟨#[13,10]⟩:BA) a)then(if 1≤(c.size:Int)then(impl_chunks_end.l0 k (wrap64 (a+1)) (c.extract 1 c.size) d)else(none))else(impl_chunks_end.l0 k (wrap64 (a+1)) c 400))else(none))else(none))else(none)))else(some (c,d))
end
def impl_chunks_end.f(k:Nat)(a:ByteArray)(b:Int):Option (ByteArray×Int):=impl_chunks_end.l0 k 0 a b
theorem impl_chunks_end.calls(k:Nat)(g:Nat)(s0_0:ByteArray)(s0_1:Int)(r1:ByteArray)(r2:Int)(w0 w:World)(hI:IsS96 w0 w g s0_0 s0_1)(hB:Below w0.heap.size w0 w)(h:impl_chunks_end.f k s0_0 s0_1=some (r1,r2)):
  Calls Tryz.prog 58 #[.pointer (some ⟨g,0,none⟩)] w fun e w'=>e= .returned (.tuple #[])∧IsS96 w0 w' g r1 r2∧Below w0.heap.size w0 w'∧KeepBut w w' g none:=by
 have HI0:=aK hI;have HK:=aK (KeepBut.refl w g none);have HL:=aK hB.size;clear hI;have HW0:=aK hB.size;have HB:=aK hB;clear hB;have H:(impl_chunks_end.l0 k 0 s0_0 s0_1)=some (r1,r2):=h;clear h;have H':=aK H;clear H;go_enter Tryz.func58,Tryz.ntmps58
 go_wp2
 repeat(go_quiet (fail);try go_wp2)
 go_loopg [2] k (fun kq v1 w'=>∃(x1:Int)(x2:ByteArray)(x3:Int),v1= .int .i64 x1∧Aside0 (impl_chunks_end.l0 kq x1 x2 x3=some (r1,r2))∧Aside0 (kq≤k)∧Aside0 (IsS96 w0 w' g x2 x3)∧Aside0 (KeepBut w w' g none)∧Aside0 (Below w0.heap.size w0 w'))
 case atStart=>exact⟨(0),(s0_0),(s0_1),q3_,H',⟨Nat.le_refl _⟩,⟨q36_⟩,⟨q4_⟩,⟨q44_⟩⟩
 case round=>
  clear H';obtain⟨x1,x2,x3,rfl,HA,HK1,HI0,HK,HB⟩:=hrel;cases gk with
  |zero=>exact absurd HA.1 (by simp[impl_chunks_end.l0])
  |succ k1=>
   have H:=HA.1;clear HA;simp only[impl_chunks_end.l0]at H;have HC1:=aK H;clear H;go_upto_region 1 with(fail)
   repeat(go_quiet (fail);go_upto_region 1 with(fail))
   go_cut [11] (fun v2 wc=>∃(kq:Nat)(x4:Bool),v2= .bool x4∧Aside0 (impl_chunks_end.j1 kq x1 x4 x2 x3=some (r1,r2))∧Aside0 (kq≤k1)∧Aside0 (IsS96 w0 wc g x2 x3)∧Aside0 (KeepBut w wc g none)∧Aside0 (Below w0.heap.size w0 wc))
   case first=>
    have H:=HC1.1;clear HC1;replace H:=iD H;rcases H with⟨c1b0,H⟩|⟨c1b0,H⟩
    ·(first|rw[c1b0]|rw[c1i0]|(simp only[i64_w,i32_w];rw[c1b0])|skip);have H':=aK H;clear H;obtain⟨HGz1,hgz1⟩:=HI0.1;have hcz1:=cel2 HGz1;clear HGz1 hgz1;go_wp2
     repeat(go_quiet (fail);try go_wp2)
     go_meet
     case rel=>exact⟨_,((x3==0)),q3_,H',⟨q65_⟩,⟨q36_⟩,⟨q4_⟩,⟨q44_⟩⟩
    ·(first|rw[c1b0]|rw[c1i0]|(simp only[i64_w,i32_w];rw[c1b0])|skip);have H':=aK H;clear H;go_wp2
     repeat(go_quiet (fail);try go_wp2)
     go_meet
     case rel=>exact⟨_,(false),q3_,H',⟨q65_⟩,⟨q36_⟩,⟨q4_⟩,⟨q44_⟩⟩
   case rest=>
    clear HC1;(try clear p2);(try clear c1);(try clear c1b0);(try clear hcz1);obtain⟨kq,x4,rfl,HA,HJ1,HI0,HK,HB⟩:=hcut;cases kq with
    |zero=>exact absurd HA.1 (by simp[impl_chunks_end.j1])
    |succ kj1=>
     have H:=HA.1;clear HA;simp only[impl_chunks_end.j1]at H;replace H:=iT H;rcases H with⟨rfl,H⟩|⟨rfl,H⟩
     ·replace H:=iQ H;rcases H with⟨-,c3b0,c3b1,H⟩|⟨c3,c3b0,c3b1,H⟩
      ·have H':=aK H;clear H;obtain⟨HGz2,hgz2⟩:=HI0.1;have hcz2:=cel2 HGz2;clear HGz2 hgz2;go_wp2
       repeat(go_quiet (fail);try go_wp2)
       go_roundg kj1
       case measure=>have:=HK1.1;have:=HJ1.1;omega
       case rel=>exact⟨(wrap64 (x1+1)),(x2),(1),q3_,H',⟨q130_⟩,⟨q36_⟩,⟨q4_⟩,⟨q44_⟩⟩
      ·replace H:=iE H;obtain⟨c4,H⟩:=H;have c4b0:=decide_eq_true c4;have c4b1:decide (0<x2.size)=true:=decide_eq_true (by omega);clear c4;replace H:=iG H;obtain⟨c5b0,H⟩:=H;replace H:=iG H;obtain⟨c6b0,H⟩:=H;replace H:=iQ H;rcases H with⟨-,c7b0,c7b1,H⟩|⟨c7,c7b0,c7b1,H⟩
       ·replace H:=iU H;obtain⟨-,c8b0,c8b1,H⟩:=H;have H':=aK H;clear H;obtain⟨HGz3,hgz3⟩:=HI0.1;have hcz3:=cel2 HGz3;clear HGz3 hgz3;have p9:0≤(0:Int):=(by omega);have q9:0<x2.size:=(by have:(0:Int)<(x2.size:Int):=of_decide_eq_true q6_;omega);have hx9:∀h:0<x2.size,((x2[0]'h).toNat:Int)=bt x2 0:=bt_at x2 0;clear p9;have qi9:(0<(x2.size:Int))=True:=eq_true (of_decide_eq_true q6_);replace q9:=eq_true q9;have p12:0≤(x1:Int):=of_decide_eq_true q6_;have q12:x1<(2:Int):=of_decide_eq_true q6_;have hx12:=bt_at (⟨#[13,10]⟩:BA) x1;replace p12:=eq_true p12;replace q12:=eq_true q12;go_wp2
        repeat(go_quiet (fail);try go_wp2)
        go_roundg kj1
        case measure=>have:=HK1.1;have:=HJ1.1;omega
        case rel=>exact⟨(wrap64 (x1+1)),(x2.extract 1 x2.size),(x3),q3_,H',⟨q130_⟩,⟨q36_⟩,⟨q4_⟩,⟨q44_⟩⟩
       ·have H':=aK H;clear H;obtain⟨HGz4,hgz4⟩:=HI0.1;have hcz4:=cel2 HGz4;clear HGz4 hgz4;have p9:0≤(0:Int):=(by omega);have q9:0<x2.size:=(by have:(0:Int)<(x2.size:Int):=of_decide_eq_true q6_;omega);have hx9:∀h:0<x2.size,((x2[0]'h).toNat:Int)=bt x2 0:=bt_at x2 0;clear p9;have qi9:(0<(x2.size:Int))=True:=eq_true (of_decide_eq_true q6_);replace q9:=eq_true q9;have p12:0≤(x1:Int):=of_decide_eq_true q6_;have q12:x1<(2:Int):=of_decide_eq_true q6_;have hx12:=bt_at (⟨#[13,10]⟩:BA) x1;replace p12:=eq_true p12;replace q12:=eq_true q12;go_wp2
        repeat(go_quiet (fail);try go_wp2)
        go_roundg kj1
        case measure=>have:=HK1.1;have:=HJ1.1;omega
        case rel=>exact⟨(wrap64 (x1+1)),(x2),(400),q3_,H',⟨q130_⟩,⟨q36_⟩,⟨q4_⟩,⟨q44_⟩⟩
     ·simp only[Option.some.injEq,Prod.mk.injEq]at H;obtain⟨rfl,rfl⟩:=H;go_wp2
      repeat(go_quiet (fail);try go_wp2)
      first|go_end0|((try simp only[Exit.inBlock,Exit.then]);refine bodyPost_ret (results_none rfl _ _ _) rfl ?_)
      exact⟨q11_,q36_,q44_,q4_⟩
def impl_digitOf.j0:Nat→Int→Bool→Option (Int)
 |0,_,_=>none
 |k+1,a,b=>if b=true then(some (((a-97)%256)+10))else(if a≥65 then(if a≤70 then(some (((a-65)%256)+10))else(some (-1)))else(some (-1)))
def impl_digitOf.f(k:Nat)(a:Int):Option (Int):=(impl_isDigit.f a).bind fun b=>(if b=true then(some ((a-48)%256))else(if a≥97 then(impl_digitOf.j0 k a (decide (a≤102)))else(impl_digitOf.j0 k a false)))
theorem impl_digitOf.calls(k:Nat)(a0:Int)(r:Int)(w:World)(h:impl_digitOf.f k a0=some r):
  Calls Tryz.prog 102 #[.int .u8 a0] w fun e w'=>e= .returned (.int .i64 r)∧Drawn0 w w':=by
 have H:=h;clear h;unfold impl_digitOf.f at H
 replace H:=oB H;obtain⟨t1,A1,H⟩:=H;(try dsimp only at H);have HC1:=aK H;clear H;go_enter Tryz.func102,Tryz.ntmps102
 go_upto_if 3 with(first|((with_reducible refine gate_callee (f:=100) rfl ?_);refine goesL_ (some 5) rfl rfl Tryz.func100 (by kernel_rfl) rfl #[.int .u8 a0] rfl q1_ ?_;(with_reducible refine(impl_isDigit.calls a0 t1 _ A1.1).mono ?_);rintro e w' ⟨rfl,⟨nd,rfl⟩⟩;refine⟨_,rfl,?_⟩))
 (try simp only[Act.put,sI,sZ,sS]);have H:=HC1.1;clear HC1;replace H:=iT H;rcases H with⟨rfl,H⟩|⟨rfl,H⟩
 ·obtain rfl:=Option.some.inj H;go_wp2
  go_ret
  exact⟨q3_,q12_⟩
 ·have HC2:=aK H;clear H;go_upto_region 3 with(fail)
  go_cut [9] (fun v1 wc=>∃(kq:Nat)(x1:Bool),v1= .bool x1∧Aside0 (impl_digitOf.j0 kq a0 x1=some r)∧Aside0 (kq≤k)∧Drawn0 w wc)
  case first=>
   have H:=HC2.1;clear HC2;replace H:=iB H;rcases H with⟨c2,H⟩|⟨c2,H⟩
   ·have c2b0:decide (97≤a0)=true:=decide_eq_true c2;clear c2;(first|rw[c2b0]|rw[c2i0]|(simp only[i64_w,i32_w];rw[c2b0])|skip);have H':=aK H;clear H;go_wp2
    go_meet
    case rel=>exact⟨_,(decide (a0≤102)),q3_,H',⟨q92_⟩,q12_⟩
   ·have c2b0:decide (97≤a0)=false:=decide_eq_false c2;clear c2;(first|rw[c2b0]|rw[c2i0]|(simp only[i64_w,i32_w];rw[c2b0])|skip);have H':=aK H;clear H;go_wp2
    go_meet
    case rel=>exact⟨_,(false),q3_,H',⟨q92_⟩,q12_⟩
  case rest=>
   clear HC2;(try clear c3);(try clear p2);(try clear c1);(try clear c2);(try clear c2b0);obtain⟨kq,x1,rfl,HA,HJ1,⟨mc4,rfl⟩⟩:=hcut;cases kq with
   |zero=>exact absurd HA.1 (by simp[impl_digitOf.j0])
   |succ kj1=>
    have H:=HA.1;clear HA;simp only[impl_digitOf.j0]at H;replace H:=iT H;rcases H with⟨rfl,H⟩|⟨rfl,H⟩
    ·obtain rfl:=Option.some.inj H;go_wp2
     go_ret
     exact⟨q3_,q12_⟩
    ·replace H:=iB H;rcases H with⟨c5,H⟩|⟨c5,H⟩
     ·have c5b0:decide (65≤a0)=true:=decide_eq_true c5;clear c5;replace H:=iD H;rcases H with⟨c6b0,H⟩|⟨c6b0,H⟩
      ·obtain rfl:=Option.some.inj H;go_wp2
       go_ret
       exact⟨q3_,q12_⟩
      ·obtain rfl:=Option.some.inj H;go_wp2
       go_ret
       exact⟨q3_,q12_⟩
     ·have c5b0:decide (65≤a0)=false:=decide_eq_false c5;clear c5;obtain rfl:=Option.some.inj H;go_wp2
      go_ret
      exact⟨q3_,q12_⟩
def impl_ParseHex.l0:Nat→ByteArray→Int→Int→Option (Int×Bool)
 |0,_,_,_=>none
 |k+1,a,b,c=>if c<(a.size:Int)then(if 0≤c then((impl_digitOf.f k (bt a c)).bind fun d=>(if d<0 then(some (0,false))else(if c≥4 then(some (0,false))else(impl_ParseHex.l0 k a (wrap64 ((wrap64 (16*b))+d)) (wrap64 (c+1))))))else(none))else(some (b,(a.toList !=([]:List UInt8))))
def impl_ParseHex.f(k:Nat)(a:ByteArray):Option (Int×Bool):=impl_ParseHex.l0 k a 0 0
theorem impl_ParseHex.calls(k:Nat)(a0:ByteArray)(r1:Int)(r2:Bool)(w:World)(h:impl_ParseHex.f k a0=some (r1,r2)):
  Calls Tryz.prog 81 #[.string a0] w fun e w'=>e= .returned (.tuple #[.int .i64 r1,.bool r2])∧Drawn0 w w':=by
 have H:(impl_ParseHex.l0 k a0 0 0)=some (r1,r2):=h;clear h;have H':=aK H;clear H;go_enter Tryz.func81,Tryz.ntmps81
 go_wp2
 go_loopg [4,5] k (fun kq v1 v2 w'=>∃(x1:Int)(x2:Int),v1= .int .i64 x1∧v2= .int .i64 x2∧Aside0 (impl_ParseHex.l0 kq a0 x1 x2=some (r1,r2))∧Aside0 (kq≤k)∧Drawn0 w w')
 case atStart=>exact⟨(0),(0),q3_,q3_,H',⟨Nat.le_refl _⟩,q12_⟩
 case round=>
  clear H';obtain⟨x1,x2,rfl,rfl,HA,HK1,⟨m1,rfl⟩⟩:=hrel;cases gk with
  |zero=>exact absurd HA.1 (by simp[impl_ParseHex.l0])
  |succ k1=>
   have H:=HA.1;clear HA;simp only[impl_ParseHex.l0]at H;replace H:=iD H;rcases H with⟨c1b0,H⟩|⟨c1b0,H⟩
   ·replace H:=iG H;obtain⟨c2b0,H⟩:=H;replace H:=oB H;obtain⟨t1,A1,H⟩:=H;(try dsimp only at H);replace H:=iD H;rcases H with⟨c3b0,H⟩|⟨c3b0,H⟩
    ·simp only[Option.some.injEq,Prod.mk.injEq]at H;obtain⟨rfl,rfl⟩:=H;have p4:0≤(x2:Int):=of_decide_eq_true q6_;have q4:x2<(a0.size:Int):=of_decide_eq_true q6_;have hx4:=bt_at a0 x2;replace p4:=eq_true p4;replace q4:=eq_true q4;go_wp2_with (first|((with_reducible refine gate_callee (f:=102) rfl ?_);refine goesL_ (some 16) rfl rfl Tryz.func102 (by kernel_rfl) rfl #[.int .u8 (bt a0 x2)] rfl q1_ ?_;(with_reducible refine(impl_digitOf.calls k1 (bt a0 x2) t1 _ A1.1).mono ?_);rintro e w' ⟨rfl,⟨nd,rfl⟩⟩;refine⟨_,rfl,?_⟩))
     go_ret2
     exact⟨q3_,q12_⟩
    ·have HC1:=aK H;clear H;have p4:0≤(x2:Int):=of_decide_eq_true q6_;have q4:x2<(a0.size:Int):=of_decide_eq_true q6_;have hx4:=bt_at a0 x2;replace p4:=eq_true p4;replace q4:=eq_true q4;go_upto_if 22 with(first|((with_reducible refine gate_callee (f:=102) rfl ?_);refine goesL_ (some 16) rfl rfl Tryz.func102 (by kernel_rfl) rfl #[.int .u8 (bt a0 x2)] rfl q1_ ?_;(with_reducible refine(impl_digitOf.calls k1 (bt a0 x2) t1 _ A1.1).mono ?_);rintro e w' ⟨rfl,⟨nd,rfl⟩⟩;refine⟨_,rfl,?_⟩))
     (try simp only[Act.put,sI,sZ,sS]);have H:=HC1.1;clear HC1;replace H:=iB H;rcases H with⟨c4,H⟩|⟨c4,H⟩
     ·have c4b0:decide (4≤x2)=true:=decide_eq_true c4;clear c4;(first|rw[c4b0]|rw[c4i0]|(simp only[i64_w,i32_w];rw[c4b0])|skip);simp only[Option.some.injEq,Prod.mk.injEq]at H;obtain⟨rfl,rfl⟩:=H;go_wp2
      go_ret2
      exact⟨q3_,q12_⟩
     ·have c4b0:decide (4≤x2)=false:=decide_eq_false c4;clear c4;(first|rw[c4b0]|rw[c4i0]|(simp only[i64_w,i32_w];rw[c4b0])|skip);have H':=aK H;clear H;go_wp2
      go_roundg k1
      case measure=>have:=HK1.1;omega
      case rel=>exact⟨(wrap64 ((wrap64 (16*x1))+t1)),(wrap64 (x2+1)),q3_,q3_,H',⟨q81_⟩,q12_⟩
   ·simp only[Option.some.injEq,Prod.mk.injEq]at H;obtain⟨rfl,rfl⟩:=H;go_wp2
    go_ret2
    exact⟨q3_,q12_⟩
def impl_chunks_size.j0:Nat→ByteArray→Bool→Int→Bool→Bool→ByteArray→Int→Option (Int×ByteArray×Int)
 |0,_,_,_,_,_,_,_=>none
 |k+1,a,b,c,d,e,g,h=>if e=true then(some (c,g,1))else(if d=true then(if b=true then(if 0≤(a.size:Int)then(if(a.size:Int)≤(g.size:Int)then((impl_chunks_end.f k (g.extract a.size g.size) h).bind fun i=>(some (c,i.1,i.2)))else(none))else(none))else(some (c,g,1)))else(some (c,g,400)))
def impl_chunks_size.f(k:Nat)(a:ByteArray)(b:Int):Option (Int×ByteArray×Int):=(strings_Cut.f a (⟨#[13]⟩:BA)).bind fun c=>((impl_ParseHex.f k c.1).bind fun d=>(if c.2.2=true then(impl_chunks_size.j0 k c.1 c.2.2 d.1 d.2 false a b)else(impl_chunks_size.j0 k c.1 c.2.2 d.1 d.2 (c.1.toList==([]:List UInt8)) a b)))
theorem impl_chunks_size.calls(k:Nat)(g:Nat)(s0_0:ByteArray)(s0_1:Int)(r1:Int)(r2:ByteArray)(r3:Int)(w0 w:World)(hI:IsS96 w0 w g s0_0 s0_1)(hB:Below w0.heap.size w0 w)(h:impl_chunks_size.f k s0_0 s0_1=some (r1,r2,r3))(hG:GOK w0):
  Calls Tryz.prog 57 #[.pointer (some ⟨g,0,none⟩)] w fun e w'=>e= .returned (.int .i64 r1)∧IsS96 w0 w' g r2 r3∧Below w0.heap.size w0 w'∧KeepBut w w' g none:=by
 have HI0:=aK hI;have HK:=aK (KeepBut.refl w g none);have HL:=aK hB.size;clear hI;have HW0:=aK hB.size;have HB:=aK hB;clear hB;have H:=h;clear h;unfold impl_chunks_size.f at H
 replace H:=oB H;obtain⟨⟨t1,t2,t3⟩,A1,H⟩:=H;(try dsimp only at H);replace H:=oB H;obtain⟨⟨t4,t5⟩,A2,H⟩:=H;(try dsimp only at H);have HC1:=aK H;clear H;obtain⟨HGz1,hgz1⟩:=HI0.1;have hcz1:=cel2 HGz1;clear HGz1 hgz1;go_enter Tryz.func57,Tryz.ntmps57
 go_upto_region 5 with(first|((with_reducible refine gate_callee (f:=76) rfl ?_);refine goesL_ (some 13) rfl rfl Tryz.func76 (by kernel_rfl) rfl #[.string s0_0,.string (⟨#[13]⟩:BA)] rfl q1_ ?_;(with_reducible refine(strings_Cut.calls s0_0 (⟨#[13]⟩:BA) t1 t2 t3 _ A1.1 ?side99).mono ?_);(case side99=>exact q29_);rintro e w' ⟨rfl,⟨nd,rfl⟩⟩;refine⟨_,rfl,?_⟩)|((with_reducible refine gate_callee (f:=81) rfl ?_);refine goesL_ (some 19) rfl rfl Tryz.func81 (by kernel_rfl) rfl #[.string t1] rfl q1_ ?_;(with_reducible refine(impl_ParseHex.calls k t1 t4 t5 _ A2.1).mono ?_);rintro e w' ⟨rfl,⟨nd,rfl⟩⟩;refine⟨_,rfl,?_⟩))
 (try simp only[Act.put,sI,sZ,sS]);go_cut [34] (fun v1 wc=>∃(kq:Nat)(x1:Bool),v1= .bool x1∧Aside0 (impl_chunks_size.j0 kq t1 t3 t4 t5 x1 s0_0 s0_1=some (r1,r2,r3))∧Aside0 (kq≤k)∧Aside0 (IsS96 w0 wc g s0_0 s0_1)∧Aside0 (KeepBut w wc g none)∧Aside0 (Below w0.heap.size w0 wc))
 case first=>
  have H:=HC1.1;clear HC1;replace H:=iT H;rcases H with⟨rfl,H⟩|⟨rfl,H⟩
  ·have H':=aK H;clear H;go_wp2
   go_meet
   case rel=>exact⟨_,(false),q3_,H',⟨q92_⟩,⟨q36_⟩,⟨q4_⟩,⟨q44_⟩⟩
  ·have H':=aK H;clear H;go_wp2
   go_meet
   case rel=>exact⟨_,((t1.toList==([]:List UInt8))),q3_,H',⟨q92_⟩,⟨q36_⟩,⟨q4_⟩,⟨q44_⟩⟩
 case rest=>
  clear HC1;(try clear p2);(try clear c2);(try clear c1);(try clear hcz1);obtain⟨kq,x1,rfl,HA,HJ1,HI0,HK,HB⟩:=hcut;cases kq with
  |zero=>exact absurd HA.1 (by simp[impl_chunks_size.j0])
  |succ kj1=>
   have H:=HA.1;clear HA;simp only[impl_chunks_size.j0]at H;replace H:=iT H;rcases H with⟨rfl,H⟩|⟨rfl,H⟩
   ·simp only[Option.some.injEq,Prod.mk.injEq]at H;obtain⟨rfl,rfl,rfl⟩:=H;obtain⟨HGz2,hgz2⟩:=HI0.1;have hcz2:=cel2 HGz2;clear HGz2 hgz2;go_wp2
    go_ret
    exact⟨q11_,q36_,q44_,q4_⟩
   ·replace H:=iT H;rcases H with⟨rfl,H⟩|⟨rfl,H⟩
    ·replace H:=iT H;rcases H with⟨rfl,H⟩|⟨rfl,H⟩
     ·replace H:=iU H;obtain⟨-,c6b0,c6b1,H⟩:=H;replace H:=iU H;obtain⟨-,c7b0,c7b1,H⟩:=H;replace H:=oB H;obtain⟨⟨t6,t7⟩,A3,H⟩:=H;(try dsimp only at H);simp only[Option.some.injEq,Prod.mk.injEq]at H;obtain⟨rfl,rfl,rfl⟩:=H;obtain⟨HGz3,hgz3⟩:=HI0.1;have hcz3:=cel2 HGz3;clear HGz3 hgz3;go_wp2_with (first|((with_reducible refine gate_callee (f:=58) rfl ?_);refine goesL_ (some 33) rfl rfl Tryz.func58 (by kernel_rfl) rfl #[.pointer (some ⟨g,0,none⟩)] rfl q1_ ?_;(with_reducible refine(impl_chunks_end.calls kj1 g (s0_0.extract t1.size s0_0.size) s0_1 t6 t7 w0 _ ?side1 ?side2 A3.1).mono ?_);(case side1=>exact q36_);(case side2=>exact q44_);rintro e w1 ⟨rfl,hi,hb,hk⟩;refine⟨_,rfl,?_⟩;replace HK:=aK (KeepBut.trans q4_ hk (.inl rfl));replace HB:=aK (hb);replace HI0:=aK (hi);clear hb hk hi))
      go_ret
      exact⟨q11_,q36_,q44_,q4_⟩
     ·simp only[Option.some.injEq,Prod.mk.injEq]at H;obtain⟨rfl,rfl,rfl⟩:=H;obtain⟨HGz4,hgz4⟩:=HI0.1;have hcz4:=cel2 HGz4;clear HGz4 hgz4;go_wp2
      go_ret
      exact⟨q11_,q36_,q44_,q4_⟩
    ·simp only[Option.some.injEq,Prod.mk.injEq]at H;obtain⟨rfl,rfl,rfl⟩:=H;obtain⟨HGz5,hgz5⟩:=HI0.1;have hcz5:=cel2 HGz5;clear HGz5 hgz5;go_wp2
     go_ret
     exact⟨q11_,q36_,q44_,q4_⟩
end Go.Proofs.YtmojemogpelpnaaGreatDoor.GFnWires
