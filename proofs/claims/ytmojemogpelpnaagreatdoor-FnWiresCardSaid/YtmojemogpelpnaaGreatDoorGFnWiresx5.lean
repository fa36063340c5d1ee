import Derived.Test.YtmojemogpelpnaaGreatDoorGFnWiresx0
import Derived.Test.YtmojemogpelpnaaGreatDoorGFnWiresx4
namespace Go.Proofs.YtmojemogpelpnaaGreatDoor.GFnWires
open Go.RowKit Go.Proofs.YtmojemogpelpnaaGreatDoorW.PrintWords Go.Proofs.YtmojemogpelpnaaGreatDoorW.PrintLast Go.Proofs.YtmojemogpelpnaaGreatDoorW.PrintMore
attribute [local go_sem] max2_int min2_int max_two min_two max_three min_three max_four min_four
set_option linter.unusedVariables false
set_option linter.unusedSimpArgs false
set_option maxRecDepth 100000
set_option maxHeartbeats 8000000
mutual
def spec_Hex.j0:Nat→Int→Option (ByteArray)
 |0,_=>none
 |k+1,a=>(spec_l1HexDigit.f (Int.tmod a 16)).bind fun b=>(spec_Hex.l0 k a (strOfNums (([b]:List Int))))
def spec_Hex.l0:Nat→Int→ByteArray→Option (ByteArray)
 |0,_,_=>none
 |k+1,a,b=>if a>15 then((spec_l1HexDigit.f (Int.tmod (wrap64 (Int.tdiv a 16)) 16)).bind fun c=>((some (([c]:List Int):List Int)).bind fun d=>(if(strOfNums d).size+b.size≤9223372036854775807 then(spec_Hex.l0 k (wrap64 (Int.tdiv a 16)) ((strOfNums d)++b))else(none))))else(some b)
end
def spec_Hex.f(k:Nat)(a:Int):Option (ByteArray):=if a<0 then(spec_Hex.j0 k 0)else(spec_Hex.j0 k a)
theorem spec_Hex.calls(k:Nat)(a0:Int)(r:ByteArray)(w:World)(h:spec_Hex.f k a0=some r):
  Calls Tryz.prog 89 #[.int .i64 a0] w fun e w'=>e= .returned (.string r)∧Below w.heap.size w w':=by
 have HB:=aK (Below.refl w.heap.size w);have H:(if a0<0 then(spec_Hex.j0 k 0)else(spec_Hex.j0 k a0))=some r:=h;clear h;have HC1:=aK H;clear H;go_enter Tryz.func89,Tryz.ntmps89
 go_upto_if 5 with(fail)
 go_cut [0] (fun v1 wc=>∃(kq:Nat)(x1:Int),v1= .int .i64 x1∧Aside0 (spec_Hex.j0 kq x1=some r)∧Aside0 (kq≤k)∧Aside0 (Below w.heap.size w wc))
 case first=>
  have H:=HC1.1;clear HC1;replace H:=iD H;rcases H with⟨c1b0,H⟩|⟨c1b0,H⟩
  ·(first|rw[c1b0]|rw[c1i0]|(simp only[i64_w,i32_w];rw[c1b0])|skip);have H':=aK H;clear H;go_wp2
   go_meet
   case rel=>exact⟨_,(0),q3_,H',⟨q92_⟩,⟨q2_⟩⟩
  ·(first|rw[c1b0]|rw[c1i0]|(simp only[i64_w,i32_w];rw[c1b0])|skip);have H':=aK H;clear H;go_wp2
   go_meet
   case rel=>exact⟨_,(a0),q3_,H',⟨q92_⟩,⟨q2_⟩⟩
 case rest=>
  clear HC1;(try clear p2);(try clear c1);(try clear c1b0);obtain⟨kq,x1,rfl,HA,HJ1,HB⟩:=hcut;cases kq with
  |zero=>exact absurd HA.1 (by simp[spec_Hex.j0])
  |succ kj1=>
   have H:=HA.1;clear HA;simp only[spec_Hex.j0]at H;replace H:=oB H;obtain⟨t1,A1,H⟩:=H;(try dsimp only at H);(first|(with_reducible replace H:=oS H;obtain⟨y1,Ny1,H⟩:=H)|(generalize hy_:(([t1]:List Int):List Int)=y1 at H;have Ny1:=aK hy_.symm;clear hy_));(try dsimp only at H);have H':=aK H;clear H;go_wp2_with (first|((with_reducible refine gate_callee (f:=103) rfl ?_);refine goesL_ (some 8) rfl rfl Tryz.func103 (by kernel_rfl) rfl #[.int .i64 (Int.tmod x1 16)] rfl q1_ ?_;(with_reducible refine(spec_l1HexDigit.calls (Int.tmod x1 16) t1 _ A1.1).mono ?_);rintro e w' ⟨rfl,⟨nd,rfl⟩⟩;refine⟨_,rfl,?_⟩)|((with_reducible refine gate_dst (N:=9) rfl ?_);refine Kd.R_lit (Kd.int .u8) _ 5 ?hg (N:=9) ?hd (xs:=([t1]:List Int)) (inner:=[.int .u8 t1]) (ok:=fun _=>True) (okp:=fun _=>True) ?hr ?hp (fun _ hk=>hk) trivial (Below.refl _ _) (Nat.le_refl _) (by simp) ?_;(case hd=>rfl);(case hg=>rfl);(case hr=>exact q22_);(case hp=>exact(Reps.one (show Kd.M (Kd.int .u8) _ _ _ t1 [.int .u8 t1]from rfl) (Reps.none _ _)));intro v2 w1 ho1 hb hg_ hnew_;clear hg_ hnew_;(first|rw[←Ny1.1]at ho1|(simp only[Int.reduceToNat]at ho1;rw[←Ny1.1]at ho1));have HO1:=aK (Kd.R_lower ho1 (below_size q2_));replace HB:=aK (below_step q2_ hb);clear hb ho1;have hcv7:=own_string (P:=Tryz.prog) Tryz.underlying22 Tryz.underlying5 Tryz.underlying9 (Kd.own_of_R HO1.1)))
   go_loopg [0,3] kj1 (fun kq v1 v3 w'=>∃(x2:Int)(x3:ByteArray),v1= .int .i64 x2∧v3= .string x3∧Aside0 (spec_Hex.l0 kq x2 x3=some r)∧Aside0 (kq≤kj1)∧Aside0 (Below w.heap.size w w'))
   case atStart=>exact⟨(x1),(strOfNums y1),q3_,q3_,H',⟨Nat.le_refl _⟩,⟨q2_⟩⟩
   case round=>
    clear H';(try clear c2);(try clear p2);(try clear c1);(try clear c1b0);(try clear hcv7);(try clear p2);obtain⟨x2,x3,rfl,rfl,HA,HK2,HB⟩:=hrel;cases gk with
    |zero=>exact absurd HA.1 (by simp[spec_Hex.l0])
    |succ k2=>
     have H:=HA.1;clear HA;simp only[spec_Hex.l0]at H;replace H:=iB H;rcases H with⟨c3,H⟩|⟨c3,H⟩
     ·have c3b0:decide (15<x2)=true:=decide_eq_true c3;clear c3;replace H:=oB H;obtain⟨t2,A2,H⟩:=H;(try dsimp only at H);(first|(with_reducible replace H:=oS H;obtain⟨y2,Ny2,H⟩:=H)|(generalize hy_:(([t2]:List Int):List Int)=y2 at H;have Ny2:=aK hy_.symm;clear hy_));(try dsimp only at H);replace H:=iU H;obtain⟨c4,c4b0,c4b1,H⟩:=H;try have c4b2:(9223372036854775807<(strOfNums y2).size+x3.size)=False:=eq_false (Nat.not_lt.2 c4)
      have H':=aK H;clear H;go_wp2_with (first|((with_reducible refine gate_callee (f:=103) rfl ?_);refine goesL_ (some 17) rfl rfl Tryz.func103 (by kernel_rfl) rfl #[.int .i64 (Int.tmod (wrap64 (Int.tdiv x2 16)) 16)] rfl q1_ ?_;(with_reducible refine(spec_l1HexDigit.calls (Int.tmod (wrap64 (Int.tdiv x2 16)) 16) t2 _ A2.1).mono ?_);rintro e w' ⟨rfl,⟨nd,rfl⟩⟩;refine⟨_,rfl,?_⟩)|((with_reducible refine gate_dst (N:=18) rfl ?_);refine Kd.R_lit (Kd.int .u8) _ 5 ?hg (N:=18) ?hd (xs:=([t2]:List Int)) (inner:=[.int .u8 t2]) (ok:=fun _=>True) (okp:=fun _=>True) ?hr ?hp (fun _ hk=>hk) trivial (Below.refl _ _) (Nat.le_refl _) (by simp) ?_;(case hd=>rfl);(case hg=>rfl);(case hr=>exact q22_);(case hp=>exact(Reps.one (show Kd.M (Kd.int .u8) _ _ _ t2 [.int .u8 t2]from rfl) (Reps.none _ _)));intro v4 w2 ho2 hb hg_ hnew_;clear hg_ hnew_;(first|rw[←Ny2.1]at ho2|(simp only[Int.reduceToNat]at ho2;rw[←Ny2.1]at ho2));have HO2:=aK (Kd.R_lower ho2 (below_size q2_));replace HB:=aK (below_step q2_ hb);clear hb ho2;have hcv13:=own_string (P:=Tryz.prog) Tryz.underlying22 Tryz.underlying5 Tryz.underlying9 (Kd.own_of_R HO2.1)))
      go_roundg k2
      case measure=>have:=HJ1.1;have:=HK2.1;omega
      case rel=>exact⟨(wrap64 (Int.tdiv x2 16)),((strOfNums y2)++x3),q3_,q3_,H',⟨by have:=HJ1.1;have:=HK2.1;omega⟩,⟨q2_⟩⟩
     ·have c3b0:decide (15<x2)=false:=decide_eq_false c3;clear c3;obtain rfl:=Option.some.inj H;go_wp2
      go_ret
      exact⟨q11_,q2_⟩
def spec_l4Piece.f(k:Nat)(a:ByteArray):Option (ByteArray):=if a.toList=([]:List UInt8)then(some (⟨#[]⟩:BA))else((spec_Hex.f k (a.size:Int)).bind fun b=>(if b.size+2≤9223372036854775807 then(if(b++(⟨#[13,10]⟩:BA)).size+a.size≤9223372036854775807 then(if((b++(⟨#[13,10]⟩:BA))++a).size+2≤9223372036854775807 then(some (((b++(⟨#[13,10]⟩:BA))++a)++(⟨#[13,10]⟩:BA)))else(none))else(none))else(none)))
theorem spec_l4Piece.calls(k:Nat)(a0:ByteArray)(r:ByteArray)(w:World)(h:spec_l4Piece.f k a0=some r):
  Calls Tryz.prog 70 #[.string a0] w fun e w'=>e= .returned (.string r)∧Below w.heap.size w w':=by
 have HB:=aK (Below.refl w.heap.size w);have H:=h;clear h;unfold spec_l4Piece.f at H
 replace H:=iQ H;rcases H with⟨-,c1b0,c1b1,H⟩|⟨c1,c1b0,c1b1,H⟩
 ·obtain rfl:=Option.some.inj H;go_enter Tryz.func70,Tryz.ntmps70
  go_wp2
  go_ret
  exact⟨q11_,q2_⟩
 ·replace H:=oB H;obtain⟨t1,A1,H⟩:=H;(try dsimp only at H);replace H:=iU H;obtain⟨c2,c2b0,c2b1,H⟩:=H;try have c2b2:(9223372036854775807<t1.size+2)=False:=eq_false (Nat.not_lt.2 c2)
  replace H:=iU H;obtain⟨c3,c3b0,c3b1,H⟩:=H;try have c3b2:(9223372036854775807<(t1++(⟨#[13,10]⟩:BA)).size+a0.size)=False:=eq_false (Nat.not_lt.2 c3)
  have c3s:t1.size+2+a0.size≤9223372036854775807:=q222_;have c3s0:=eq_true c3s;have c3s1:decide (t1.size+2+a0.size≤9223372036854775807)=true:=decide_eq_true c3s;have c3s2:(9223372036854775807<t1.size+2+a0.size)=False:=eq_false (Nat.not_lt.2 c3s);replace H:=iU H;obtain⟨c4,c4b0,c4b1,H⟩:=H;try have c4b2:(9223372036854775807<((t1++(⟨#[13,10]⟩:BA))++a0).size+2)=False:=eq_false (Nat.not_lt.2 c4)
  have c4s:t1.size+2+a0.size+2≤9223372036854775807:=q221_;have c4s0:=eq_true c4s;have c4s1:decide (t1.size+2+a0.size+2≤9223372036854775807)=true:=decide_eq_true c4s;have c4s2:(9223372036854775807<t1.size+2+a0.size+2)=False:=eq_false (Nat.not_lt.2 c4s);obtain rfl:=Option.some.inj H;go_enter Tryz.func70,Tryz.ntmps70
  go_wp2_with (first|((with_reducible refine gate_callee (f:=89) rfl ?_);refine goesL_ (some 7) rfl rfl Tryz.func89 (by kernel_rfl) rfl #[.int .i64 (a0.size:Int)] rfl q1_ ?_;(with_reducible refine(spec_Hex.calls k (a0.size:Int) t1 _ A1.1).mono ?_);rintro e w1 ⟨rfl,hb⟩;refine⟨_,rfl,?_⟩;replace HB:=aK (below_step q2_ hb);clear hb))
  go_ret
  exact⟨q11_,q2_⟩
def spec_l4Text.l0:Nat→ByteArray→List Int→ByteArray→Int→Option (ByteArray)
 |0,_,_,_,_=>none
 |k+1,a,b,c,d=>if d<(b.length:Int)then(if 0≤d then(if(rd b d)<1 then(spec_l4Text.l0 k a b c (wrap64 (d+1)))else(if(rd b d)>(a.size:Int)then(if 0≤(a.size:Int)then(if(a.size:Int)≤(a.size:Int)then((spec_l4Piece.f k (a.extract 0 a.size)).bind fun e=>(if c.size+e.size≤9223372036854775807 then(spec_l4Text.l0 k (a.extract a.size a.size) b (c++e) (wrap64 (d+1)))else(none)))else(none))else(none))else(if 0≤(rd b d)then(if(rd b d)≤(a.size:Int)then((spec_l4Piece.f k (a.extract 0 ((rd b d):Int).toNat)).bind fun g=>(if c.size+g.size≤9223372036854775807 then(spec_l4Text.l0 k (a.extract ((rd b d):Int).toNat a.size) b (c++g) (wrap64 (d+1)))else(none)))else(none))else(none))))else(none))else((spec_l4Piece.f k a).bind fun h=>(if c.size+h.size≤9223372036854775807 then(if(c++h).size+1≤9223372036854775807 then(if((c++h)++(⟨#[48]⟩:BA)).size+2≤9223372036854775807 then(if(((c++h)++(⟨#[48]⟩:BA))++(⟨#[13,10]⟩:BA)).size+2≤9223372036854775807 then(some ((((c++h)++(⟨#[48]⟩:BA))++(⟨#[13,10]⟩:BA))++(⟨#[13,10]⟩:BA)))else(none))else(none))else(none))else(none)))
def spec_l4Text.f(k:Nat)(a:ByteArray)(l1:List Int):Option (ByteArray):=spec_l4Text.l0 k a l1 (⟨#[]⟩:BA) 0
theorem spec_l4Text.calls(k:Nat)(a0:ByteArray)(A1:Option Addr)(c1:Nat)(l1:List Int)(r:ByteArray)(w:World)(hr1:Kd.C (Kd.int .i64) w A1 l1.length l1)(hc1:l1.length≤c1)(h:spec_l4Text.f k a0 l1=some r):
  Calls Tryz.prog 50 #[.string a0,.slice A1 l1.length c1] w fun e w'=>e= .returned (.string r)∧Below w.heap.size w w':=by
 have HR1:=aK hr1;have HC1:=aK hc1;clear hr1 hc1;have HB:=aK (Below.refl w.heap.size w);have H:(spec_l4Text.l0 k a0 l1 (⟨#[]⟩:BA) 0)=some r:=h;clear h;have H':=aK H;clear H;go_enter Tryz.func50,Tryz.ntmps50
 go_wp2
 go_loopg [0,5,6] k (fun kq v1 v2 v3 w'=>∃(x1:ByteArray)(x2:ByteArray)(x3:Int),v1= .string x1∧v2= .string x2∧v3= .int .i64 x3∧Aside0 (spec_l4Text.l0 kq x1 l1 x2 x3=some r)∧Aside0 (kq≤k)∧Aside0 (Below w.heap.size w w'))
 case atStart=>exact⟨(a0),((⟨#[]⟩:BA)),(0),q3_,q3_,q3_,H',⟨Nat.le_refl _⟩,⟨q2_⟩⟩
 case round=>
  clear H';(try clear c1);(try clear p2);obtain⟨x1,x2,x3,rfl,rfl,rfl,HA,HK1,HB⟩:=hrel;cases gk with
  |zero=>exact absurd HA.1 (by simp[spec_l4Text.l0])
  |succ k1=>
   have H:=HA.1;clear HA;simp only[spec_l4Text.l0]at H;replace H:=iD H;rcases H with⟨c2b0,H⟩|⟨c2b0,H⟩
   ·replace H:=iG H;obtain⟨c3b0,H⟩:=H;replace H:=iD H;rcases H with⟨c4b0,H⟩|⟨c4b0,H⟩
    ·have H':=aK H;clear H;have p298:0≤(x3:Int):=of_decide_eq_true q6_;have q298:x3<(l1.length:Int):=of_decide_eq_true q6_;obtain⟨ad1,e298,hx298_0⟩:=Kd.at_int HR1.1 x3 p298 q298;cases e298
     replace hx298_0:=(HB.1.cell (World.block_lt_of_cell? w _ hx298_0)).trans hx298_0;replace p298:=eq_true p298;replace q298:=eq_true q298;go_wp2
     go_roundg k1
     case measure=>have:=HK1.1;omega
     case rel=>exact⟨(x1),(x2),(wrap64 (x3+1)),q3_,q3_,q3_,H',⟨q81_⟩,⟨q2_⟩⟩
    ·replace H:=iB H;rcases H with⟨c5,H⟩|⟨c5,H⟩
     ·have c5b0:decide ((x1.size:Int)<(rd l1 x3))=true:=decide_eq_true c5;clear c5;replace H:=iU H;obtain⟨-,c6b0,c6b1,H⟩:=H;replace H:=iU H;obtain⟨-,c7b0,c7b1,H⟩:=H;replace H:=oB H;obtain⟨t1,A2,H⟩:=H;(try dsimp only at H);replace H:=iU H;obtain⟨c8,c8b0,c8b1,H⟩:=H;try have c8b2:(9223372036854775807<x2.size+t1.size)=False:=eq_false (Nat.not_lt.2 c8)
      have c9b0:=eq_true (of_decide_eq_true q6_:0≤(x1.size:Int));have c10b0:=eq_true (of_decide_eq_true q6_:(x1.size:Int)≤(x1.size:Int));have H':=aK H;clear H;have p298:0≤(x3:Int):=of_decide_eq_true q6_;have q298:x3<(l1.length:Int):=of_decide_eq_true q6_;obtain⟨ad1,e298,hx298_0⟩:=Kd.at_int HR1.1 x3 p298 q298;cases e298
      replace hx298_0:=(HB.1.cell (World.block_lt_of_cell? w _ hx298_0)).trans hx298_0;replace p298:=eq_true p298;replace q298:=eq_true q298;go_wp2_with (first|((with_reducible refine gate_callee (f:=70) rfl ?_);refine goesL_ (some 30) rfl rfl Tryz.func70 (by kernel_rfl) rfl #[.string (x1.extract 0 x1.size)] rfl (by(try simp only[List.map_toArray,List.map_cons,List.map_nil]);first|done|rfl|(simp only[List.length_drop,List.length_take];rfl)|(simp only[ByteArray.extract_zero_size];rfl)) ?_;(with_reducible refine(spec_l4Piece.calls k1 (x1.extract 0 x1.size) t1 _ A2.1).mono ?_);rintro e w1 ⟨rfl,hb⟩;refine⟨_,rfl,?_⟩;replace HB:=aK (below_step q2_ hb);clear hb))
      go_roundg k1
      case measure=>have:=HK1.1;omega
      case rel=>exact⟨(x1.extract x1.size x1.size),(x2++t1),(wrap64 (x3+1)),q3_,q3_,q3_,H',⟨q81_⟩,⟨q2_⟩⟩
     ·have c5b0:decide ((x1.size:Int)<(rd l1 x3))=false:=decide_eq_false c5;clear c5;replace H:=iU H;obtain⟨-,c11b0,c11b1,H⟩:=H;replace H:=iU H;obtain⟨-,c12b0,c12b1,H⟩:=H;replace H:=oB H;obtain⟨t2,A3,H⟩:=H;(try dsimp only at H);replace H:=iU H;obtain⟨c13,c13b0,c13b1,H⟩:=H;try have c13b2:(9223372036854775807<x2.size+t2.size)=False:=eq_false (Nat.not_lt.2 c13)
      have c14b0:=eq_true (of_decide_eq_true q6_:0≤(rd l1 x3));have c15b0:=eq_true (of_decide_eq_true q6_:(rd l1 x3)≤(x1.size:Int));have H':=aK H;clear H;have p298:0≤(x3:Int):=of_decide_eq_true q6_;have q298:x3<(l1.length:Int):=of_decide_eq_true q6_;obtain⟨ad1,e298,hx298_0⟩:=Kd.at_int HR1.1 x3 p298 q298;cases e298
      replace hx298_0:=(HB.1.cell (World.block_lt_of_cell? w _ hx298_0)).trans hx298_0;replace p298:=eq_true p298;replace q298:=eq_true q298;go_wp2_with (first|((with_reducible refine gate_callee (f:=70) rfl ?_);refine goesL_ (some 30) rfl rfl Tryz.func70 (by kernel_rfl) rfl #[.string (x1.extract 0 ((rd l1 x3):Int).toNat)] rfl q1_ ?_;(with_reducible refine(spec_l4Piece.calls k1 (x1.extract 0 ((rd l1 x3):Int).toNat) t2 _ A3.1).mono ?_);rintro e w2 ⟨rfl,hb⟩;refine⟨_,rfl,?_⟩;replace HB:=aK (below_step q2_ hb);clear hb))
      go_roundg k1
      case measure=>have:=HK1.1;omega
      case rel=>exact⟨(x1.extract ((rd l1 x3):Int).toNat x1.size),(x2++t2),(wrap64 (x3+1)),q3_,q3_,q3_,H',⟨q81_⟩,⟨q2_⟩⟩
   ·replace H:=oB H;obtain⟨t3,A4,H⟩:=H;(try dsimp only at H);replace H:=iU H;obtain⟨c16,c16b0,c16b1,H⟩:=H;try have c16b2:(9223372036854775807<x2.size+t3.size)=False:=eq_false (Nat.not_lt.2 c16)
    replace H:=iU H;obtain⟨c17,c17b0,c17b1,H⟩:=H;try have c17b2:(9223372036854775807<(x2++t3).size+1)=False:=eq_false (Nat.not_lt.2 c17)
    have c17s:x2.size+t3.size+1≤9223372036854775807:=by have h_:=c17;simp only[ByteArray.size_append]at h_;exact h_
    have c17s0:=eq_true c17s;have c17s1:decide (x2.size+t3.size+1≤9223372036854775807)=true:=decide_eq_true c17s;have c17s2:(9223372036854775807<x2.size+t3.size+1)=False:=eq_false (Nat.not_lt.2 c17s);replace H:=iU H;obtain⟨c18,c18b0,c18b1,H⟩:=H;try have c18b2:(9223372036854775807<((x2++t3)++(⟨#[48]⟩:BA)).size+2)=False:=eq_false (Nat.not_lt.2 c18)
    have c18s:x2.size+t3.size+1+2≤9223372036854775807:=by have h_:=c18;simp only[ByteArray.size_append]at h_;exact h_
    have c18s0:=eq_true c18s;have c18s1:decide (x2.size+t3.size+1+2≤9223372036854775807)=true:=decide_eq_true c18s;have c18s2:(9223372036854775807<x2.size+t3.size+1+2)=False:=eq_false (Nat.not_lt.2 c18s);replace H:=iU H;obtain⟨c19,c19b0,c19b1,H⟩:=H;try have c19b2:(9223372036854775807<(((x2++t3)++(⟨#[48]⟩:BA))++(⟨#[13,10]⟩:BA)).size+2)=False:=eq_false (Nat.not_lt.2 c19)
    have c19s:x2.size+t3.size+1+2+2≤9223372036854775807:=by have h_:=c19;simp only[ByteArray.size_append]at h_;exact h_
    have c19s0:=eq_true c19s;have c19s1:decide (x2.size+t3.size+1+2+2≤9223372036854775807)=true:=decide_eq_true c19s;have c19s2:(9223372036854775807<x2.size+t3.size+1+2+2)=False:=eq_false (Nat.not_lt.2 c19s);obtain rfl:=Option.some.inj H;go_wp2_with (first|((with_reducible refine gate_callee (f:=70) rfl ?_);refine goesL_ (some 37) rfl rfl Tryz.func70 (by kernel_rfl) rfl #[.string x1] rfl q1_ ?_;(with_reducible refine(spec_l4Piece.calls k1 x1 t3 _ A4.1).mono ?_);rintro e w3 ⟨rfl,hb⟩;refine⟨_,rfl,?_⟩;replace HB:=aK (below_step q2_ hb);clear hb))
    go_ret
    exact⟨q11_,q2_⟩
def spec_PutChunked.f(k:Nat)(a:ByteArray)(b:ByteArray)(c:List (S83))(d:ByteArray)(l1:List Int):Option (List Int):=(spec_l4Text.f k d l1).bind fun e=>((spec_l3Put.f k a b c d (⟨#[116,114,97,110,115,102,101,114,45,101,110,99,111,100,105,110,103,58,32,99,104,117,110,107,101,100,13,10]⟩:BA) e).bind fun g=>(some g))
theorem spec_PutChunked.calls(k:Nat)(a0_0:ByteArray)(a0_1:ByteArray)(A0_2:Option Addr)(c0_2:Nat)(l0_2:List (S83))(a0_3:ByteArray)(A1:Option Addr)(c1:Nat)(l1:List Int)(r:List Int)(w:World)(hr0_2:Kd.C k83 w A0_2 l0_2.length l0_2)(hc0_2:l0_2.length≤c0_2)(hr1:Kd.C (Kd.int .i64) w A1 l1.length l1)(hc1:l1.length≤c1)(h:spec_PutChunked.f k a0_0 a0_1 l0_2 a0_3 l1=some r):
  Calls Tryz.prog 34 #[.agg #[.string a0_0,.string a0_1,.slice A0_2 l0_2.length c0_2,.string a0_3],.slice A1 l1.length c1] w fun e w'=>∃v0_:Value,e= .returned (v0_)∧Kd.R (Kd.int .u8) 5 w' w.heap.size (fun _=>True) v0_ r∧Below w.heap.size w w':=by
 have hu50:=Tryz.underlying50;have HR0_2:=aK hr0_2;have HC0_2:=aK hc0_2;clear hr0_2 hc0_2;have HR1:=aK hr1;have HC1:=aK hc1;clear hr1 hc1;have HB:=aK (Below.refl w.heap.size w);have H:=h;clear h;unfold spec_PutChunked.f at H
 replace H:=oB H;obtain⟨t1,A2,H⟩:=H;(try dsimp only at H);replace H:=oB H;obtain⟨t2,A3,H⟩:=H;(try dsimp only at H);obtain rfl:=Option.some.inj H;go_enter Tryz.func34,Tryz.ntmps34
 try go_wp2_with (first|((with_reducible refine gate_dst (N:=2) rfl ?_);refine box_event ?hg (N:=2) ?hd (cs:= #[.string a0_0,.string a0_1,.slice A0_2 l0_2.length c0_2,.string a0_3]) (t:=50) ?hr ?_;(case hd=>rfl);(case hg=>rfl);(case hr=>exact q22_);intro gb1 hg w1 hbox hb;have BK1:=aK (hbox);have GW1:=aK ((q48_:w.heap.size≤gb1));have GE1:=aK ((q48_:w.heap.size≤gb1));replace HB:=aK (below_step q2_ hb);clear hb hbox hg))
 replace BK1:=aK (bD_ BK1.1);replace HB:=aK (dB_ HB.1);refine start_ (n:=7) (S:=fun w'=>w'.cell? ⟨gb1,0,none⟩=some (.string a0_0)∧w'.cell? ⟨gb1,1,none⟩=some (.string a0_1)∧w'.cell? ⟨gb1,2,none⟩=some (.slice A0_2 l0_2.length c0_2)∧w'.cell? ⟨gb1,3,none⟩=some (.string a0_3)) (ds:=[]) #[Z,Z,Z,Z,Z,Z,Z] (by kernel_rfl) rfl rfl ⟨(bc_ BK1.1 0).trans rfl,(bc_ BK1.1 1).trans rfl,(bc_ BK1.1 2).trans rfl,(bc_ BK1.1 3).trans rfl⟩ (fun hHeld=> ?_);generalize w1.drew=w2 at BK1 HB hHeld⊢;refine pk_ 1 (some 6) ?_;refine pk_ 3 (some 8) ?_;refine tk_ 0 (some 5) hHeld ?_;refine tk_ 2 (some 7) hHeld ?_;refine ok_ 4 (some 9) (fun K hK=> ?_);refine goes_ Tryz.func50 (by kernel_rfl) rfl #[.string a0_3,.slice A1 l1.length c1] (by rfl) rfl rfl q1_ ?_;with_reducible refine(spec_l4Text.calls k a0_3 _ _ l1 t1 _ ?side1 ?side2 A2.1).mono ?_
 (case side1=>exact q37_);(case side2=>exact HC1.1);rintro e w3 ⟨rfl,hb⟩;refine⟨_,rfl,?_⟩;replace BK1:=aK (bbk_ BK1.1 hb);replace HB:=aK (below_step q7_ hb);clear hb;refine hK.out _ _ ⟨(bc_ BK1.1 0).trans rfl,(bc_ BK1.1 1).trans rfl,(bc_ BK1.1 2).trans rfl,(bc_ BK1.1 3).trans rfl⟩ (fun hHeld=> ?_);clear hK K;refine nz_ (some 9) ?_;refine ok_ 5 (some 10) (fun K hK=> ?_);refine goes_ Tryz.func48 (by kernel_rfl) rfl #[.agg #[.string a0_0,.string a0_1,.slice A0_2 l0_2.length c0_2,.string a0_3],.string (⟨#[116,114,97,110,115,102,101,114,45,101,110,99,111,100,105,110,103,58,32,99,104,117,110,107,101,100,13,10]⟩:BA),.string t1] (by rfl) rfl rfl q1_ ?_;with_reducible refine(spec_l3Put.calls k a0_0 a0_1 _ _ l0_2 a0_3 (⟨#[116,114,97,110,115,102,101,114,45,101,110,99,111,100,105,110,103,58,32,99,104,117,110,107,101,100,13,10]⟩:BA) t1 t2 _ ?side1 ?side2 A3.1).mono ?_
 (case side1=>exact q43_);(case side2=>exact q134_);rintro e w4 ⟨v1,rfl,ho1,hb⟩;refine⟨_,rfl,?_⟩;have HO1:=aK (Kd.R_lower ho1 (below_size q7_));replace BK1:=aK (bbk_ BK1.1 hb);replace HB:=aK (below_step q7_ hb);clear hb ho1;refine hK.out _ _ ⟨(bc_ BK1.1 0).trans rfl,(bc_ BK1.1 1).trans rfl,(bc_ BK1.1 2).trans rfl,(bc_ BK1.1 3).trans rfl⟩ (fun hHeld=> ?_);clear hK K;refine nz_ (some 10) ?_;refine pk_ 6 (some 4) ?_;refine done_ (by kernel_rfl) ?_;try go_wp2
 go_ret
 exact⟨_,q11_,q26_,q7_⟩
end Go.Proofs.YtmojemogpelpnaaGreatDoor.GFnWires
