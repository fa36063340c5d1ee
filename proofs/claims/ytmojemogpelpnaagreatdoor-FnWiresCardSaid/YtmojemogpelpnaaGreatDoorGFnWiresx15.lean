import Derived.Test.YtmojemogpelpnaaGreatDoorGFnWiresx0
import Derived.Test.YtmojemogpelpnaaGreatDoorGFnWiresx3
namespace Go.Proofs.YtmojemogpelpnaaGreatDoor.GFnWires
open Go.RowKit Go.Proofs.YtmojemogpelpnaaGreatDoorW.PrintWords Go.Proofs.YtmojemogpelpnaaGreatDoorW.PrintLast Go.Proofs.YtmojemogpelpnaaGreatDoorW.PrintMore
attribute [local go_sem] max2_int min2_int max_two min_two max_three min_three max_four min_four
set_option linter.unusedVariables false
set_option linter.unusedSimpArgs false
set_option maxRecDepth 100000
set_option maxHeartbeats 8000000
def spec_l3Lines.l0:Nat→ByteArray→List ByteArray→Int→Int→Option (List ByteArray)
 |0,_,_,_,_=>none
 |k+1,a,b,c,d=>if d≤(a.size:Int)then(if d=(a.size:Int)then(if 0≤c then(if c≤(a.size:Int)then(if b.length<8796093022208 then(spec_l3Lines.l0 k a (b++[a.extract (c:Int).toNat a.size]) c (wrap64 (d+1)))else(none))else(none))else(none))else(if(wrap64 (d+1))<(a.size:Int)then(if 0≤d then(if d<(a.size:Int)then(if(bt a d)=13 then(if 0≤(wrap64 (d+1))then(if(bt a (wrap64 (d+1)))=10 then(if 0≤c then(if c≤d then(if b.length<8796093022208 then(spec_l3Lines.l0 k a (b++[a.extract (c:Int).toNat (d:Int).toNat]) (wrap64 (d+2)) (wrap64 ((wrap64 (d+1))+1)))else(none))else(none))else(none))else(spec_l3Lines.l0 k a b c (wrap64 (d+1))))else(none))else(spec_l3Lines.l0 k a b c (wrap64 (d+1))))else(none))else(none))else(spec_l3Lines.l0 k a b c (wrap64 (d+1)))))else(some b)
def spec_l3Lines.f(k:Nat)(a:ByteArray):Option (List ByteArray):=spec_l3Lines.l0 k a (([]:List ByteArray)) 0 0
theorem spec_l3Lines.calls(k:Nat)(a0:ByteArray)(r:List ByteArray)(w:World)(h:spec_l3Lines.f k a0=some r):
  Calls Tryz.prog 39 #[.string a0] w fun e w'=>∃v0_:Value,e= .returned (v0_)∧Kd.R Kd.string 9 w' w.heap.size (fun _=>True) v0_ r∧Below w.heap.size w w':=by
 have HB:=aK (Below.refl w.heap.size w);have H:(spec_l3Lines.l0 k a0 (([]:List ByteArray)) 0 0)=some r:=h;clear h;(first|(with_reducible replace H:=oS H;obtain⟨y1,Ny1,H⟩:=H)|(generalize hy_:(([]:List ByteArray):List ByteArray)=y1 at H;have Ny1:=aK hy_.symm;clear hy_));(try dsimp only at H);have H':=aK H;clear H;go_enter Tryz.func39,Tryz.ntmps39
 go_wp2_with (first|((with_reducible refine gate_dst (N:=6) rfl ?_);refine Kd.R_lit Kd.string _ 9 ?hg (N:=6) ?hd (xs:=([]:List ByteArray)) (inner:=[]) (ok:=fun _=>True) (okp:=fun _=>True) ?hr ?hp (fun _ hk=>hk) trivial (Below.refl _ _) (Nat.le_refl _) (by simp) ?_;(case hd=>rfl);(case hg=>rfl);(case hr=>exact q22_);(case hp=>exact q95_);intro v1 w1 ho1 hb hg_ hnew_;clear hg_ hnew_;(first|rw[←Ny1.1]at ho1|(simp only[Int.reduceToNat]at ho1;rw[←Ny1.1]at ho1));have HO1:=aK (Kd.R_lower ho1 (below_size q2_));replace HB:=aK (below_step q2_ hb);clear hb ho1))
 go_loopg [3,4,5] k (fun kq v2 v3 v4 w'=>∃(x1:List ByteArray)(x2:Int)(x3:Int),v3= .int .i64 x2∧v4= .int .i64 x3∧Aside0 (spec_l3Lines.l0 kq a0 x1 x2 x3=some r)∧Aside0 (kq≤k)∧Aside0 (Kd.R Kd.string 9 w' w.heap.size (fun _=>True) v2 x1)∧Aside0 (Below w.heap.size w w'))
 case atStart=>exact⟨(y1),(0),(0),q3_,q3_,H',⟨Nat.le_refl _⟩,⟨q41_⟩,⟨q2_⟩⟩
 case round=>
  clear H';(try clear p2);(try clear c1);obtain⟨x1,x2,x3,rfl,rfl,HA,HK1,HO2,HB⟩:=hrel;cases gk with
  |zero=>exact absurd HA.1 (by simp[spec_l3Lines.l0])
  |succ k1=>
   have H:=HA.1;clear HA;simp only[spec_l3Lines.l0]at H;replace H:=iD H;rcases H with⟨c2b0,H⟩|⟨c2b0,H⟩
   ·replace H:=iQ H;rcases H with⟨-,c3b0,c3b1,H⟩|⟨c3,c3b0,c3b1,H⟩
    ·replace H:=iU H;obtain⟨-,c4b0,c4b1,H⟩:=H;replace H:=iU H;obtain⟨-,c5b0,c5b1,H⟩:=H;replace H:=iL H;obtain⟨LMc6,H⟩:=H;(first|(with_reducible replace H:=oS H;obtain⟨y2,Ny2,H⟩:=H)|(generalize hy_:(x1++[a0.extract (x2:Int).toNat a0.size]:List ByteArray)=y2 at H;have Ny2:=aK hy_.symm;clear hy_));(try dsimp only at H);have H':=aK H;clear H;go_wp2_with (first|((with_reducible refine gate_builtin (b:= .append) (xs:= #[.tmp 17,.tmp 21]) rfl ?_);at_builtin;refine Kd.R_append Kd.string (w0:=w) w.heap.size rfl (.tmp 17) (.tmp 21) 70 9 (.string ⟨#[]⟩) 16 rfl Tryz.underlying70 info9 rfl (by decide) (by omega) u3 x1 (a0.extract (x2:Int).toNat a0.size) [.string (a0.extract (x2:Int).toNat a0.size)] (fun _=>True) (fun _=>False) rfl rfl ?aP (fun _ hk=>hk.elim) ?aF ?aO ?aB ?aS ?aL ?_;(case aP=>exact rfl);(case aB=>exact q2_);(case aF=>exact q84_);(case aO=>exact q21_);(case aS=>exact q149_);(case aL=>have:=LMc6.1;omega);intro v5 w2 ho hb hg hat;rw[←Ny2.1]at ho;replace HB:=aK (hb);have HO3:=aK (ho);clear HO2;clear ho hb hg hat))
     go_roundg k1
     case measure=>have:=HK1.1;omega
     case rel=>exact⟨(y2),(x2),(wrap64 (x3+1)),q3_,q3_,H',⟨q81_⟩,⟨q96_⟩,⟨q2_⟩⟩
    ·replace H:=iD H;rcases H with⟨c7b0,H⟩|⟨c7b0,H⟩
     ·replace H:=iG H;obtain⟨c8b0,H⟩:=H;replace H:=iG H;obtain⟨c9b0,H⟩:=H;replace H:=iQ H;rcases H with⟨-,c10b0,c10b1,H⟩|⟨c10,c10b0,c10b1,H⟩
      ·obtain⟨ji15,hji15⟩:∃j_:Int,(wrap64 (x3+1))=j_:=⟨_,rfl⟩;replace H:(if 0≤(ji15)then(if(bt a0 (ji15))=10 then(if 0≤x2 then(if x2≤x3 then(if x1.length<8796093022208 then(spec_l3Lines.l0 k1 a0 (x1++[a0.extract (x2:Int).toNat (x3:Int).toNat]) (wrap64 (x3+2)) (wrap64 ((ji15)+1)))else(none))else(none))else(none))else(spec_l3Lines.l0 k1 a0 x1 x2 ji15))else(none))=some r:=by first|(rw[hji15]at H;exact H)|(simp only[hji15]at H⊢;exact H)
       (try rw[hji15]at c7b0);have hji15w:(IntKind.i64.wrap (x3+1))=ji15:=(i64_w _).trans hji15;replace H:=iG H;obtain⟨c11b0,H⟩:=H;replace H:=iQ H;rcases H with⟨-,c12b0,c12b1,H⟩|⟨c12,c12b0,c12b1,H⟩
       ·replace H:=iU H;obtain⟨-,c13b0,c13b1,H⟩:=H;replace H:=iU H;obtain⟨-,c14b0,c14b1,H⟩:=H;have c15b0:=eq_true (of_decide_eq_true q6_:x3≤(a0.size:Int));replace H:=iL H;obtain⟨LMc16,H⟩:=H;(first|(with_reducible replace H:=oS H;obtain⟨y3,Ny3,H⟩:=H)|(generalize hy_:(x1++[a0.extract (x2:Int).toNat (x3:Int).toNat]:List ByteArray)=y3 at H;have Ny3:=aK hy_.symm;clear hy_));(try dsimp only at H);have H':=aK H;clear H;have p13:0≤(x3:Int):=of_decide_eq_true q6_;have q13:x3<(a0.size:Int):=of_decide_eq_true q6_;have hx13:=bt_at a0 x3;replace p13:=eq_true p13;replace q13:=eq_true q13;have p17:0≤((ji15):Int):=of_decide_eq_true q6_;have q17:(ji15)<(a0.size:Int):=of_decide_eq_true q6_;have hx17:=bt_at a0 (ji15);replace p17:=eq_true p17;replace q17:=eq_true q17;go_wp2_with (first|((with_reducible refine gate_builtin (b:= .append) (xs:= #[.tmp 41,.tmp 46]) rfl ?_);at_builtin;refine Kd.R_append Kd.string (w0:=w) w.heap.size rfl (.tmp 41) (.tmp 46) 70 9 (.string ⟨#[]⟩) 16 rfl Tryz.underlying70 info9 rfl (by decide) (by omega) u3 x1 (a0.extract (x2:Int).toNat (x3:Int).toNat) [.string (a0.extract (x2:Int).toNat (x3:Int).toNat)] (fun _=>True) (fun _=>False) rfl rfl ?aP (fun _ hk=>hk.elim) ?aF ?aO ?aB ?aS ?aL ?_;(case aP=>exact rfl);(case aB=>exact q2_);(case aF=>exact q84_);(case aO=>exact q21_);(case aS=>exact q149_);(case aL=>have:=LMc16.1;omega);intro v6 w3 ho hb hg hat;rw[←Ny3.1]at ho;replace HB:=aK (hb);have HO4:=aK (ho);clear HO2;clear ho hb hg hat))
        go_roundg k1
        case measure=>have:=HK1.1;omega
        case rel=>exact⟨(y3),(wrap64 (x3+2)),(wrap64 ((ji15)+1)),q3_,q229_,H',⟨q81_⟩,⟨q154_⟩,⟨q2_⟩⟩
       ·have H':=aK H;clear H;have p13:0≤(x3:Int):=of_decide_eq_true q6_;have q13:x3<(a0.size:Int):=of_decide_eq_true q6_;have hx13:=bt_at a0 x3;replace p13:=eq_true p13;replace q13:=eq_true q13;have p17:0≤((ji15):Int):=of_decide_eq_true q6_;have q17:(ji15)<(a0.size:Int):=of_decide_eq_true q6_;have hx17:=bt_at a0 (ji15);replace p17:=eq_true p17;replace q17:=eq_true q17;go_wp2
        go_roundg k1
        case measure=>have:=HK1.1;omega
        case rel=>exact⟨(x1),(x2),(ji15),q3_,q229_,H',⟨q81_⟩,⟨q71_⟩,⟨q2_⟩⟩
      ·have H':=aK H;clear H;have p13:0≤(x3:Int):=of_decide_eq_true q6_;have q13:x3<(a0.size:Int):=of_decide_eq_true q6_;have hx13:=bt_at a0 x3;replace p13:=eq_true p13;replace q13:=eq_true q13;go_wp2
       go_roundg k1
       case measure=>have:=HK1.1;omega
       case rel=>exact⟨(x1),(x2),(wrap64 (x3+1)),q3_,q3_,H',⟨q81_⟩,⟨q71_⟩,⟨q2_⟩⟩
     ·have H':=aK H;clear H;go_wp2
      go_roundg k1
      case measure=>have:=HK1.1;omega
      case rel=>exact⟨(x1),(x2),(wrap64 (x3+1)),q3_,q3_,H',⟨q81_⟩,⟨q71_⟩,⟨q2_⟩⟩
   ·obtain rfl:=Option.some.inj H;go_wp2
    go_ret
    exact⟨_,q11_,q21_,q2_⟩
def spec_l2Split.l0:Nat→ByteArray→Int→List ByteArray→Int→Int→Option (List ByteArray)
 |0,_,_,_,_,_=>none
 |k+1,a,b,c,d,e=>if e≤(a.size:Int)then(if e=(a.size:Int)then(if 0≤d then(if d≤e then(if c.length<8796093022208 then(spec_l2Split.l0 k a b (c++[a.extract (d:Int).toNat (e:Int).toNat]) (wrap64 (e+1)) (wrap64 (e+1)))else(none))else(none))else(none))else(if 0≤e then(if e<(a.size:Int)then(if(bt a e)=b then(if 0≤d then(if d≤e then(if c.length<8796093022208 then(spec_l2Split.l0 k a b (c++[a.extract (d:Int).toNat (e:Int).toNat]) (wrap64 (e+1)) (wrap64 (e+1)))else(none))else(none))else(none))else(spec_l2Split.l0 k a b c d (wrap64 (e+1))))else(none))else(none)))else(some c)
def spec_l2Split.f(k:Nat)(a:ByteArray)(b:Int):Option (List ByteArray):=spec_l2Split.l0 k a b (([]:List ByteArray)) 0 0
theorem spec_l2Split.calls(k:Nat)(a0:ByteArray)(a1:Int)(r:List ByteArray)(w:World)(h:spec_l2Split.f k a0 a1=some r):
  Calls Tryz.prog 59 #[.string a0,.int .u8 a1] w fun e w'=>∃v0_:Value,e= .returned (v0_)∧Kd.R Kd.string 9 w' w.heap.size (fun _=>True) v0_ r∧Below w.heap.size w w':=by
 have HB:=aK (Below.refl w.heap.size w);have H:(spec_l2Split.l0 k a0 a1 (([]:List ByteArray)) 0 0)=some r:=h;clear h;(first|(with_reducible replace H:=oS H;obtain⟨y1,Ny1,H⟩:=H)|(generalize hy_:(([]:List ByteArray):List ByteArray)=y1 at H;have Ny1:=aK hy_.symm;clear hy_));(try dsimp only at H);have H':=aK H;clear H;go_enter Tryz.func59,Tryz.ntmps59
 go_wp2_with (first|((with_reducible refine gate_dst (N:=8) rfl ?_);refine Kd.R_lit Kd.string _ 9 ?hg (N:=8) ?hd (xs:=([]:List ByteArray)) (inner:=[]) (ok:=fun _=>True) (okp:=fun _=>True) ?hr ?hp (fun _ hk=>hk) trivial (Below.refl _ _) (Nat.le_refl _) (by simp) ?_;(case hd=>rfl);(case hg=>rfl);(case hr=>exact q22_);(case hp=>exact q95_);intro v1 w1 ho1 hb hg_ hnew_;clear hg_ hnew_;(first|rw[←Ny1.1]at ho1|(simp only[Int.reduceToNat]at ho1;rw[←Ny1.1]at ho1));have HO1:=aK (Kd.R_lower ho1 (below_size q2_));replace HB:=aK (below_step q2_ hb);clear hb ho1))
 go_loopg [5,6,7] k (fun kq v2 v3 v4 w'=>∃(x1:List ByteArray)(x2:Int)(x3:Int),v3= .int .i64 x2∧v4= .int .i64 x3∧Aside0 (spec_l2Split.l0 kq a0 a1 x1 x2 x3=some r)∧Aside0 (kq≤k)∧Aside0 (Kd.R Kd.string 9 w' w.heap.size (fun _=>True) v2 x1)∧Aside0 (Below w.heap.size w w'))
 case atStart=>exact⟨(y1),(0),(0),q3_,q3_,H',⟨Nat.le_refl _⟩,⟨q41_⟩,⟨q2_⟩⟩
 case round=>
  clear H';(try clear p2);obtain⟨x1,x2,x3,rfl,rfl,HA,HK1,HO2,HB⟩:=hrel;cases gk with
  |zero=>exact absurd HA.1 (by simp[spec_l2Split.l0])
  |succ k1=>
   have H:=HA.1;clear HA;simp only[spec_l2Split.l0]at H;replace H:=iD H;rcases H with⟨c1b0,H⟩|⟨c1b0,H⟩
   ·replace H:=iQ H;rcases H with⟨-,c2b0,c2b1,H⟩|⟨c2,c2b0,c2b1,H⟩
    ·replace H:=iU H;obtain⟨-,c3b0,c3b1,H⟩:=H;replace H:=iU H;obtain⟨-,c4b0,c4b1,H⟩:=H;have c5b0:=eq_true (of_decide_eq_true q6_:x3≤(a0.size:Int));replace H:=iL H;obtain⟨LMc6,H⟩:=H;(first|(with_reducible replace H:=oS H;obtain⟨y2,Ny2,H⟩:=H)|(generalize hy_:(x1++[a0.extract (x2:Int).toNat (x3:Int).toNat]:List ByteArray)=y2 at H;have Ny2:=aK hy_.symm;clear hy_));(try dsimp only at H);have H':=aK H;clear H;go_wp2_with (first|((with_reducible refine gate_builtin (b:= .append) (xs:= #[.tmp 26,.tmp 31]) rfl ?_);at_builtin;refine Kd.R_append Kd.string (w0:=w) w.heap.size rfl (.tmp 26) (.tmp 31) 70 9 (.string ⟨#[]⟩) 16 rfl Tryz.underlying70 info9 rfl (by decide) (by omega) u5 x1 (a0.extract (x2:Int).toNat (x3:Int).toNat) [.string (a0.extract (x2:Int).toNat (x3:Int).toNat)] (fun _=>True) (fun _=>False) rfl rfl ?aP (fun _ hk=>hk.elim) ?aF ?aO ?aB ?aS ?aL ?_;(case aP=>exact rfl);(case aB=>exact q2_);(case aF=>exact q84_);(case aO=>exact q21_);(case aS=>exact q149_);(case aL=>have:=LMc6.1;omega);intro v5 w2 ho hb hg hat;rw[←Ny2.1]at ho;replace HB:=aK (hb);have HO3:=aK (ho);clear HO2;clear ho hb hg hat))
     go_roundg k1
     case measure=>have:=HK1.1;omega
     case rel=>exact⟨(y2),(wrap64 (x3+1)),(wrap64 (x3+1)),q3_,q3_,H',⟨q81_⟩,⟨q96_⟩,⟨q2_⟩⟩
    ·replace H:=iG H;obtain⟨c7b0,H⟩:=H;replace H:=iG H;obtain⟨c8b0,H⟩:=H;replace H:=iQ H;rcases H with⟨-,c9b0,c9b1,H⟩|⟨c9,c9b0,c9b1,H⟩
     ·replace H:=iU H;obtain⟨-,c10b0,c10b1,H⟩:=H;replace H:=iU H;obtain⟨-,c11b0,c11b1,H⟩:=H;have c12b0:=eq_true (of_decide_eq_true q6_:x3≤(a0.size:Int));replace H:=iL H;obtain⟨LMc13,H⟩:=H;(first|(with_reducible replace H:=oS H;obtain⟨y3,Ny3,H⟩:=H)|(generalize hy_:(x1++[a0.extract (x2:Int).toNat (x3:Int).toNat]:List ByteArray)=y3 at H;have Ny3:=aK hy_.symm;clear hy_));(try dsimp only at H);have H':=aK H;clear H;have p14:0≤(x3:Int):=of_decide_eq_true q6_;have q14:x3<(a0.size:Int):=of_decide_eq_true q6_;have hx14:=bt_at a0 x3;replace p14:=eq_true p14;replace q14:=eq_true q14;go_wp2_with (first|((with_reducible refine gate_builtin (b:= .append) (xs:= #[.tmp 26,.tmp 31]) rfl ?_);at_builtin;refine Kd.R_append Kd.string (w0:=w) w.heap.size rfl (.tmp 26) (.tmp 31) 70 9 (.string ⟨#[]⟩) 16 rfl Tryz.underlying70 info9 rfl (by decide) (by omega) u5 x1 (a0.extract (x2:Int).toNat (x3:Int).toNat) [.string (a0.extract (x2:Int).toNat (x3:Int).toNat)] (fun _=>True) (fun _=>False) rfl rfl ?aP (fun _ hk=>hk.elim) ?aF ?aO ?aB ?aS ?aL ?_;(case aP=>exact rfl);(case aB=>exact q2_);(case aF=>exact q84_);(case aO=>exact q21_);(case aS=>exact q149_);(case aL=>have:=LMc13.1;omega);intro v6 w3 ho hb hg hat;rw[←Ny3.1]at ho;replace HB:=aK (hb);have HO4:=aK (ho);clear HO2;clear ho hb hg hat))
      go_roundg k1
      case measure=>have:=HK1.1;omega
      case rel=>exact⟨(y3),(wrap64 (x3+1)),(wrap64 (x3+1)),q3_,q3_,H',⟨q81_⟩,⟨q154_⟩,⟨q2_⟩⟩
     ·have H':=aK H;clear H;have p14:0≤(x3:Int):=of_decide_eq_true q6_;have q14:x3<(a0.size:Int):=of_decide_eq_true q6_;have hx14:=bt_at a0 x3;replace p14:=eq_true p14;replace q14:=eq_true q14;go_wp2
      go_roundg k1
      case measure=>have:=HK1.1;omega
      case rel=>exact⟨(x1),(x2),(wrap64 (x3+1)),q3_,q3_,H',⟨q81_⟩,⟨q71_⟩,⟨q2_⟩⟩
   ·obtain rfl:=Option.some.inj H;go_wp2
    go_ret
    exact⟨_,q11_,q21_,q2_⟩
def IsS61(w0 W:World)(g:Nat)(f0:ByteArray)(f1:ByteArray)(f2:List (S83))(f3:ByteArray)(f4:Int)(f5:Int)(f6:List Int):Prop:=∃A2 c2,∃A6 c6,W.heap[g]? =some (.cells #[.string f0,.string f1,.slice A2 f2.length c2,.string f3,.int .i64 f4,.int .i64 f5,.slice A6 f6.length c6] 61 (0,0))∧w0.heap.size≤g∧Kd.R k83 83 W w0.heap.size (fun _=>True) (.slice A2 f2.length c2) f2∧Kd.R (Kd.int .i64) 3 W w0.heap.size (fun _=>True) (.slice A6 f6.length c6) f6
theorem IsS61.below{w0 W:World}{g:Nat}{f0:ByteArray}{f1:ByteArray}{f2:List (S83)}{f3:ByteArray}{f4:Int}{f5:Int}{f6:List Int}{W1:World}(h:IsS61 w0 W g f0 f1 f2 f3 f4 f5 f6)(hw:Below W.heap.size W W1):IsS61 w0 W1 g f0 f1 f2 f3 f4 f5 f6:=by
 obtain⟨A2,c2,A6,c6,hb,hg,hr2,hr6⟩:=h;exact⟨A2,c2,A6,c6,bB_ hb hw,hg,Kd.R_below hr2 hw,Kd.R_below hr6 hw⟩
theorem IsS61.alloc{w0 W:World}{g:Nat}{f0:ByteArray}{f1:ByteArray}{f2:List (S83)}{f3:ByteArray}{f4:Int}{f5:Int}{f6:List Int}(h:IsS61 w0 W g f0 f1 f2 f3 f4 f5 f6)(o:Obj):IsS61 w0 (W.alloc o) g f0 f1 f2 f3 f4 f5 f6:=h.below (aB_ (Below.refl _ _) o)
theorem IsS61.drewN{w0 W:World}{g:Nat}{f0:ByteArray}{f1:ByteArray}{f2:List (S83)}{f3:ByteArray}{f4:Int}{f5:Int}{f6:List Int}(h:IsS61 w0 W g f0 f1 f2 f3 f4 f5 f6)(m:Nat):IsS61 w0 (W.drewN m) g f0 f1 f2 f3 f4 f5 f6:=h.below (pN_ (Below.refl _ _) m)
theorem IsS61.drew{w0 W:World}{g:Nat}{f0:ByteArray}{f1:ByteArray}{f2:List (S83)}{f3:ByteArray}{f4:Int}{f5:Int}{f6:List Int}(h:IsS61 w0 W g f0 f1 f2 f3 f4 f5 f6):IsS61 w0 W.drew g f0 f1 f2 f3 f4 f5 f6:=h.below (below_drew (Below.refl _ _))
theorem IsS61.lt{w0 W:World}{g:Nat}{f0:ByteArray}{f1:ByteArray}{f2:List (S83)}{f3:ByteArray}{f4:Int}{f5:Int}{f6:List Int}(h:IsS61 w0 W g f0 f1 f2 f3 f4 f5 f6):g<W.heap.size:=by
 obtain⟨A2,c2,A6,c6,hb,hg,hr2,hr6⟩:=h;exact blk_lt hb
theorem IsS61.ge{w0 W:World}{g:Nat}{f0:ByteArray}{f1:ByteArray}{f2:List (S83)}{f3:ByteArray}{f4:Int}{f5:Int}{f6:List Int}(h:IsS61 w0 W g f0 f1 f2 f3 f4 f5 f6):w0.heap.size≤g:=by
 obtain⟨A2,c2,A6,c6,hb,hg,hr2,hr6⟩:=h;exact hg
theorem IsS61.apart{w0 W:World}{g:Nat}{f0:ByteArray}{f1:ByteArray}{f2:List (S83)}{f3:ByteArray}{f4:Int}{f5:Int}{f6:List Int}{α:Type}{d:Kd α}{e:Nat}{base:Nat}{ok:Nat→Prop}{v:Value}{xs:List α}(h:IsS61 w0 W g f0 f1 f2 f3 f4 f5 f6)(ho:d.R e W base ok v xs)(ht:∀q,q∈e::d.E→q≠61):d.R e W base (fun k=>ok k∧k≠g) v xs:=by
 obtain⟨A2,c2,A6,c6,hb,hg,hr2,hr6⟩:=h;exact Kd.R_types ho hb ht
theorem IsS61.own_ne{w0 W:World}{g:Nat}{f0:ByteArray}{f1:ByteArray}{f2:List (S83)}{f3:ByteArray}{f4:Int}{f5:Int}{f6:List Int}{α:Type}{d:Kd α}{e:Nat}{base:Nat}{ok:Nat→Prop}{v:Value}{xs:List α}(h:IsS61 w0 W g f0 f1 f2 f3 f4 f5 f6)(ho:d.R e W base ok v xs)(ht:e≠61):some g≠v.ownBlock:=by
 obtain⟨A2,c2,A6,c6,hb,hg,hr2,hr6⟩:=h;exact Kd.R_ne ho hb ht
theorem cellS61_0{W:World}{g:Nat}{A2:Option Addr}{c2:Nat}{A6:Option Addr}{c6:Nat}{f0:ByteArray}{f1:ByteArray}{f2:List (S83)}{f3:ByteArray}{f4:Int}{f5:Int}{f6:List Int}(h:W.heap[g]? =some (.cells #[.string f0,.string f1,.slice A2 f2.length c2,.string f3,.int .i64 f4,.int .i64 f5,.slice A6 f6.length c6] 61 (0,0))):W.cell? ⟨g,0,none⟩=some (.string f0):=(bc_ h 0).trans rfl
theorem IsS61.set_0{w0 W:World}{g:Nat}{f0:ByteArray}{f1:ByteArray}{f2:List (S83)}{f3:ByteArray}{f4:Int}{f5:Int}{f6:List Int}(h:IsS61 w0 W g f0 f1 f2 f3 f4 f5 f6)(x:ByteArray):IsS61 w0 (W.setCell ⟨g,0,none⟩ (.string x)) g x f1 f2 f3 f4 f5 f6:=by
 obtain⟨A2,c2,A6,c6,hb,hg,hr2,hr6⟩:=h;exact⟨A2,c2,A6,c6,by simpa using blk_set hb 0 (.string x),hg,Kd.R_set hr2 hb (by decide) _ _,Kd.R_set hr6 hb (by decide) _ _⟩
theorem cellS61_1{W:World}{g:Nat}{A2:Option Addr}{c2:Nat}{A6:Option Addr}{c6:Nat}{f0:ByteArray}{f1:ByteArray}{f2:List (S83)}{f3:ByteArray}{f4:Int}{f5:Int}{f6:List Int}(h:W.heap[g]? =some (.cells #[.string f0,.string f1,.slice A2 f2.length c2,.string f3,.int .i64 f4,.int .i64 f5,.slice A6 f6.length c6] 61 (0,0))):W.cell? ⟨g,1,none⟩=some (.string f1):=(bc_ h 1).trans rfl
theorem IsS61.set_1{w0 W:World}{g:Nat}{f0:ByteArray}{f1:ByteArray}{f2:List (S83)}{f3:ByteArray}{f4:Int}{f5:Int}{f6:List Int}(h:IsS61 w0 W g f0 f1 f2 f3 f4 f5 f6)(x:ByteArray):IsS61 w0 (W.setCell ⟨g,1,none⟩ (.string x)) g f0 x f2 f3 f4 f5 f6:=by
 obtain⟨A2,c2,A6,c6,hb,hg,hr2,hr6⟩:=h;exact⟨A2,c2,A6,c6,by simpa using blk_set hb 1 (.string x),hg,Kd.R_set hr2 hb (by decide) _ _,Kd.R_set hr6 hb (by decide) _ _⟩
theorem cellS61_2{W:World}{g:Nat}{A2:Option Addr}{c2:Nat}{A6:Option Addr}{c6:Nat}{f0:ByteArray}{f1:ByteArray}{f2:List (S83)}{f3:ByteArray}{f4:Int}{f5:Int}{f6:List Int}(h:W.heap[g]? =some (.cells #[.string f0,.string f1,.slice A2 f2.length c2,.string f3,.int .i64 f4,.int .i64 f5,.slice A6 f6.length c6] 61 (0,0))):W.cell? ⟨g,2,none⟩=some (.slice A2 f2.length c2):=(bc_ h 2).trans rfl
def LimS61_2(w0 W:World)(g:Nat)(f0:ByteArray)(f1:ByteArray)(f2:List (S83))(f3:ByteArray)(f4:Int)(f5:Int)(f6:List Int):Prop:=∃A2 c2,∃A6 c6,W.heap[g]? =some (.cells #[.string f0,.string f1,.slice A2 f2.length c2,.string f3,.int .i64 f4,.int .i64 f5,.slice A6 f6.length c6] 61 (0,0))∧w0.heap.size≤g∧True∧Kd.R (Kd.int .i64) 3 W w0.heap.size (fun _=>True) (.slice A6 f6.length c6) f6
theorem LimS61_2.ge{w0 W:World}{g:Nat}{f0:ByteArray}{f1:ByteArray}{f2:List (S83)}{f3:ByteArray}{f4:Int}{f5:Int}{f6:List Int}(h:LimS61_2 w0 W g f0 f1 f2 f3 f4 f5 f6):w0.heap.size≤g:=by
 obtain⟨A2,c2,A6,c6,hb,hg,hr2,hr6⟩:=h;exact hg
theorem LimS61_2.drewN{w0 W:World}{g:Nat}{f0:ByteArray}{f1:ByteArray}{f2:List (S83)}{f3:ByteArray}{f4:Int}{f5:Int}{f6:List Int}(h:LimS61_2 w0 W g f0 f1 f2 f3 f4 f5 f6)(m:Nat):LimS61_2 w0 (W.drewN m) g f0 f1 f2 f3 f4 f5 f6:=by
 obtain⟨A2,c2,A6,c6,hb,hg,hr2,hr6⟩:=h;exact⟨A2,c2,A6,c6,bN_ hb m,hg,trivial,rN_ hr6 m⟩
theorem IsS61.limb_2{w0 W:World}{g:Nat}{f0:ByteArray}{f1:ByteArray}{f2:List (S83)}{f3:ByteArray}{f4:Int}{f5:Int}{f6:List Int}{W1:World}{v:Value}(h:IsS61 w0 W g f0 f1 f2 f3 f4 f5 f6)(hw:W.grownBy W1 v.ownBlock)(hv:∀k,v.ownBlock=some k→∃cells,HasRow W k cells 83):LimS61_2 w0 W1 g f0 f1 f2 f3 f4 f5 f6:=by
 obtain⟨A2,c2,A6,c6,hb,hg,hr2,hr6⟩:=h;refine⟨A2,c2,A6,c6,blk_grown hb hw (fun e=> ?_),hg,trivial,Kd.R_over' hr6 hv (by decide) hw⟩;obtain⟨cells,hc⟩:=hv g e.symm;exact absurd (hc.typ0 hb) (by decide)
theorem IsS61.put_2{w0 W:World}{g:Nat}{f0:ByteArray}{f1:ByteArray}{f2:List (S83)}{f3:ByteArray}{f4:Int}{f5:Int}{f6:List Int}{v:Value}{x:List (S83)}{base:Nat}{ok:Nat→Prop}(h:LimS61_2 w0 W g f0 f1 f2 f3 f4 f5 f6)(hv:Kd.R k83 83 W base ok v x)(hle:w0.heap.size≤base):IsS61 w0 (W.setCell ⟨g,2,none⟩ v) g f0 f1 x f3 f4 f5 f6:=by
 obtain⟨A2,c2,A6,c6,hb,hg,hr2,hr6⟩:=h;obtain⟨A,c,rfl⟩:=Kd.R_slice hv;have hv2:=Kd.R_lower (Kd.R_mono (ok':=fun _=>True) hv (fun _ _=>trivial)) hle;exact⟨A,c,A6,c6,by simpa using blk_set hb 2 (.slice A x.length c),hg,Kd.R_set hv2 hb (by decide) _ _,Kd.R_set hr6 hb (by decide) _ _⟩
theorem cellS61_3{W:World}{g:Nat}{A2:Option Addr}{c2:Nat}{A6:Option Addr}{c6:Nat}{f0:ByteArray}{f1:ByteArray}{f2:List (S83)}{f3:ByteArray}{f4:Int}{f5:Int}{f6:List Int}(h:W.heap[g]? =some (.cells #[.string f0,.string f1,.slice A2 f2.length c2,.string f3,.int .i64 f4,.int .i64 f5,.slice A6 f6.length c6] 61 (0,0))):W.cell? ⟨g,3,none⟩=some (.string f3):=(bc_ h 3).trans rfl
theorem IsS61.set_3{w0 W:World}{g:Nat}{f0:ByteArray}{f1:ByteArray}{f2:List (S83)}{f3:ByteArray}{f4:Int}{f5:Int}{f6:List Int}(h:IsS61 w0 W g f0 f1 f2 f3 f4 f5 f6)(x:ByteArray):IsS61 w0 (W.setCell ⟨g,3,none⟩ (.string x)) g f0 f1 f2 x f4 f5 f6:=by
 obtain⟨A2,c2,A6,c6,hb,hg,hr2,hr6⟩:=h;exact⟨A2,c2,A6,c6,by simpa using blk_set hb 3 (.string x),hg,Kd.R_set hr2 hb (by decide) _ _,Kd.R_set hr6 hb (by decide) _ _⟩
theorem cellS61_4{W:World}{g:Nat}{A2:Option Addr}{c2:Nat}{A6:Option Addr}{c6:Nat}{f0:ByteArray}{f1:ByteArray}{f2:List (S83)}{f3:ByteArray}{f4:Int}{f5:Int}{f6:List Int}(h:W.heap[g]? =some (.cells #[.string f0,.string f1,.slice A2 f2.length c2,.string f3,.int .i64 f4,.int .i64 f5,.slice A6 f6.length c6] 61 (0,0))):W.cell? ⟨g,4,none⟩=some (.int .i64 f4):=(bc_ h 4).trans rfl
theorem IsS61.set_4{w0 W:World}{g:Nat}{f0:ByteArray}{f1:ByteArray}{f2:List (S83)}{f3:ByteArray}{f4:Int}{f5:Int}{f6:List Int}(h:IsS61 w0 W g f0 f1 f2 f3 f4 f5 f6)(x:Int):IsS61 w0 (W.setCell ⟨g,4,none⟩ (.int .i64 x)) g f0 f1 f2 f3 x f5 f6:=by
 obtain⟨A2,c2,A6,c6,hb,hg,hr2,hr6⟩:=h;exact⟨A2,c2,A6,c6,by simpa using blk_set hb 4 (.int .i64 x),hg,Kd.R_set hr2 hb (by decide) _ _,Kd.R_set hr6 hb (by decide) _ _⟩
theorem cellS61_5{W:World}{g:Nat}{A2:Option Addr}{c2:Nat}{A6:Option Addr}{c6:Nat}{f0:ByteArray}{f1:ByteArray}{f2:List (S83)}{f3:ByteArray}{f4:Int}{f5:Int}{f6:List Int}(h:W.heap[g]? =some (.cells #[.string f0,.string f1,.slice A2 f2.length c2,.string f3,.int .i64 f4,.int .i64 f5,.slice A6 f6.length c6] 61 (0,0))):W.cell? ⟨g,5,none⟩=some (.int .i64 f5):=(bc_ h 5).trans rfl
theorem IsS61.set_5{w0 W:World}{g:Nat}{f0:ByteArray}{f1:ByteArray}{f2:List (S83)}{f3:ByteArray}{f4:Int}{f5:Int}{f6:List Int}(h:IsS61 w0 W g f0 f1 f2 f3 f4 f5 f6)(x:Int):IsS61 w0 (W.setCell ⟨g,5,none⟩ (.int .i64 x)) g f0 f1 f2 f3 f4 x f6:=by
 obtain⟨A2,c2,A6,c6,hb,hg,hr2,hr6⟩:=h;exact⟨A2,c2,A6,c6,by simpa using blk_set hb 5 (.int .i64 x),hg,Kd.R_set hr2 hb (by decide) _ _,Kd.R_set hr6 hb (by decide) _ _⟩
theorem cellS61_6{W:World}{g:Nat}{A2:Option Addr}{c2:Nat}{A6:Option Addr}{c6:Nat}{f0:ByteArray}{f1:ByteArray}{f2:List (S83)}{f3:ByteArray}{f4:Int}{f5:Int}{f6:List Int}(h:W.heap[g]? =some (.cells #[.string f0,.string f1,.slice A2 f2.length c2,.string f3,.int .i64 f4,.int .i64 f5,.slice A6 f6.length c6] 61 (0,0))):W.cell? ⟨g,6,none⟩=some (.slice A6 f6.length c6):=(bc_ h 6).trans rfl
def LimS61_6(w0 W:World)(g:Nat)(f0:ByteArray)(f1:ByteArray)(f2:List (S83))(f3:ByteArray)(f4:Int)(f5:Int)(f6:List Int):Prop:=∃A2 c2,∃A6 c6,W.heap[g]? =some (.cells #[.string f0,.string f1,.slice A2 f2.length c2,.string f3,.int .i64 f4,.int .i64 f5,.slice A6 f6.length c6] 61 (0,0))∧w0.heap.size≤g∧Kd.R k83 83 W w0.heap.size (fun _=>True) (.slice A2 f2.length c2) f2∧True
theorem LimS61_6.ge{w0 W:World}{g:Nat}{f0:ByteArray}{f1:ByteArray}{f2:List (S83)}{f3:ByteArray}{f4:Int}{f5:Int}{f6:List Int}(h:LimS61_6 w0 W g f0 f1 f2 f3 f4 f5 f6):w0.heap.size≤g:=by
 obtain⟨A2,c2,A6,c6,hb,hg,hr2,hr6⟩:=h;exact hg
theorem LimS61_6.drewN{w0 W:World}{g:Nat}{f0:ByteArray}{f1:ByteArray}{f2:List (S83)}{f3:ByteArray}{f4:Int}{f5:Int}{f6:List Int}(h:LimS61_6 w0 W g f0 f1 f2 f3 f4 f5 f6)(m:Nat):LimS61_6 w0 (W.drewN m) g f0 f1 f2 f3 f4 f5 f6:=by
 obtain⟨A2,c2,A6,c6,hb,hg,hr2,hr6⟩:=h;exact⟨A2,c2,A6,c6,bN_ hb m,hg,rN_ hr2 m,trivial⟩
theorem IsS61.limb_6{w0 W:World}{g:Nat}{f0:ByteArray}{f1:ByteArray}{f2:List (S83)}{f3:ByteArray}{f4:Int}{f5:Int}{f6:List Int}{W1:World}{v:Value}(h:IsS61 w0 W g f0 f1 f2 f3 f4 f5 f6)(hw:W.grownBy W1 v.ownBlock)(hv:∀k,v.ownBlock=some k→∃cells,HasRow W k cells 3):LimS61_6 w0 W1 g f0 f1 f2 f3 f4 f5 f6:=by
 obtain⟨A2,c2,A6,c6,hb,hg,hr2,hr6⟩:=h;refine⟨A2,c2,A6,c6,blk_grown hb hw (fun e=> ?_),hg,Kd.R_over' hr2 hv (by decide) hw,trivial⟩;obtain⟨cells,hc⟩:=hv g e.symm;exact absurd (hc.typ0 hb) (by decide)
theorem IsS61.put_6{w0 W:World}{g:Nat}{f0:ByteArray}{f1:ByteArray}{f2:List (S83)}{f3:ByteArray}{f4:Int}{f5:Int}{f6:List Int}{v:Value}{x:List Int}{base:Nat}{ok:Nat→Prop}(h:LimS61_6 w0 W g f0 f1 f2 f3 f4 f5 f6)(hv:Kd.R (Kd.int .i64) 3 W base ok v x)(hle:w0.heap.size≤base):IsS61 w0 (W.setCell ⟨g,6,none⟩ v) g f0 f1 f2 f3 f4 f5 x:=by
 obtain⟨A2,c2,A6,c6,hb,hg,hr2,hr6⟩:=h;obtain⟨A,c,rfl⟩:=Kd.R_slice hv;have hv2:=Kd.R_lower (Kd.R_mono (ok':=fun _=>True) hv (fun _ _=>trivial)) hle;exact⟨A2,c2,A,c,by simpa using blk_set hb 6 (.slice A x.length c),hg,Kd.R_set hr2 hb (by decide) _ _,Kd.R_set hv2 hb (by decide) _ _⟩
def spec_l3First.j0:Nat→List ByteArray→Bool→ByteArray→ByteArray→List (S83)→ByteArray→Int→Int→List Int→Option (Bool×ByteArray×ByteArray×(List (S83))×ByteArray×Int×Int×List Int)
 |0,_,_,_,_,_,_,_,_,_=>none
 |k+1,a,b,c,d,e,g,h,i,j=>if b=true then(some (false,c,d,e,g,h,i,j))else(if 0<(a.length:Int)then(if 1<(a.length:Int)then((spec_l3Method.f k (rdOf ByteArray.empty a 0)).bind fun m=>(if m=true then((spec_l3Target.f k (rdOf ByteArray.empty a 1)).bind fun n=>(some (n,rdOf ByteArray.empty a 0,rdOf ByteArray.empty a 1,e,g,h,i,j)))else(some (false,rdOf ByteArray.empty a 0,rdOf ByteArray.empty a 1,e,g,h,i,j))))else(none))else(none))
def spec_l3First.f(k:Nat)(a:ByteArray)(b:ByteArray)(c:List (S83))(d:ByteArray)(e:Int)(g:Int)(h:List Int)(i:ByteArray):Option (Bool×ByteArray×ByteArray×(List (S83))×ByteArray×Int×Int×List Int):=(spec_l2Split.f k i 32).bind fun j=>(if(j.length:Int)=3 then(if 2<(j.length:Int)then(spec_l3First.j0 k j ((rdOf ByteArray.empty j 2).toList !=([72,84,84,80,47,49,46,49]:List UInt8)) a b c d e g h)else(none))else(spec_l3First.j0 k j true a b c d e g h))
theorem spec_l3First.calls(k:Nat)(g:Nat)(s0_0:ByteArray)(s0_1:ByteArray)(s0_2:List (S83))(s0_3:ByteArray)(s0_4:Int)(s0_5:Int)(s0_6:List Int)(a1:ByteArray)(r1:Bool)(r2:ByteArray)(r3:ByteArray)(r4:List (S83))(r5:ByteArray)(r6:Int)(r7:Int)(r8:List Int)(w0 w:World)(hI:IsS61 w0 w g s0_0 s0_1 s0_2 s0_3 s0_4 s0_5 s0_6)(hB:Below w0.heap.size w0 w)(h:spec_l3First.f k s0_0 s0_1 s0_2 s0_3 s0_4 s0_5 s0_6 a1=some (r1,r2,r3,r4,r5,r6,r7,r8)):
  Calls Tryz.prog 40 #[.pointer (some ⟨g,0,none⟩),.string a1] w fun e w'=>e= .returned (.bool r1)∧IsS61 w0 w' g r2 r3 r4 r5 r6 r7 r8∧Below w0.heap.size w0 w'∧KeepBut w w' g none:=by
 have HI0:=aK hI;have HK:=aK (KeepBut.refl w g none);have HL:=aK hB.size;clear hI;have HW0:=aK hB.size;have HB:=aK hB;clear hB;have H:=h;clear h;unfold spec_l3First.f at H
 replace H:=oB H;obtain⟨t1,A1,H⟩:=H;(try dsimp only at H);have HC1:=aK H;clear H;go_enter Tryz.func40,Tryz.ntmps40
 go_upto_region 2 with(first|((with_reducible refine gate_callee (f:=59) rfl ?_);refine goesL_ (some 7) rfl rfl Tryz.func59 (by kernel_rfl) rfl #[.string a1,.int .u8 32] rfl q1_ ?_;(with_reducible refine(spec_l2Split.calls k a1 32 t1 _ A1.1).mono ?_);rintro e w1 ⟨v1,rfl,ho1,hb⟩;refine⟨_,rfl,?_⟩;have HO1:=aK (Kd.R_lower ho1 (keep_size (w:=w) (g:=g) (row:=none) q4_));replace HK:=aK (KeepBut.trans q4_ (KeepBut.of_below hb g none) (.inl rfl));replace HB:=aK (below_step q24_ hb);replace HI0:=aK (IsS61.below q13_ hb);clear hb ho1))
 (try simp only[Act.put,sI,sZ,sS]);go_cut [16] (fun v2 wc=>∃(kq:Nat)(x1:Bool),v2= .bool x1∧Aside0 (spec_l3First.j0 kq t1 x1 s0_0 s0_1 s0_2 s0_3 s0_4 s0_5 s0_6=some (r1,r2,r3,r4,r5,r6,r7,r8))∧Aside0 (kq≤k)∧Aside0 (Kd.R Kd.string 9 wc w.heap.size (fun _=>True) v1 t1)∧Aside0 (IsS61 w0 wc g s0_0 s0_1 s0_2 s0_3 s0_4 s0_5 s0_6)∧Aside0 (KeepBut w wc g none)∧Aside0 (Below w0.heap.size w0 wc))
 case first=>
  have H:=HC1.1;clear HC1;replace H:=iQ H;rcases H with⟨-,c1b0,c1b1,H⟩|⟨c1,c1b0,c1b1,H⟩
  ·(first|rw[c1b0]|rw[c1i0]|(simp only[i64_w,i32_w];rw[c1b0])|skip);replace H:=iE H;obtain⟨c2,H⟩:=H;have c2b0:=decide_eq_true c2;have c2b1:decide (2<t1.length)=true:=decide_eq_true (by omega);clear c2;have H':=aK H;clear H;obtain⟨Ao1,co1,eo1⟩:=Kd.R_slice HO1.1;subst eo1;have p699:0≤(2:Int):=(by omega);have q699:2<(t1.length:Int):=of_decide_eq_true q6_;obtain⟨ad1,e699,hx699_0⟩:=Kd.at_string (Kd.R_reads' HO1.1).2.2 2 p699 q699;cases e699
   (try simp only[show(2:Int).toNat=2 from rfl,Nat.reduceMul,Nat.reduceEqDiff,Go.Addr.add,↓reduceIte]at hx699_0);have qi699:(2<t1.length)=True:=eq_true (by omega);(try rw[show((2:Int)).toNat=2 from rfl]at hx699_0);replace p699:=eq_true p699;replace q699:=eq_true q699;go_wp2
   go_meet
   case rel=>exact⟨_,(((rdOf ByteArray.empty t1 2).toList !=([72,84,84,80,47,49,46,49]:List UInt8))),q3_,H',⟨q92_⟩,⟨q41_⟩,⟨q13_⟩,⟨q4_⟩,⟨q24_⟩⟩
  ·(first|rw[c1b0]|rw[c1i0]|(simp only[i64_w,i32_w];rw[c1b0])|skip);have H':=aK H;clear H;obtain⟨Ao2,co2,eo2⟩:=Kd.R_slice HO1.1;subst eo2;go_wp2
   go_meet
   case rel=>exact⟨_,(true),q3_,H',⟨q92_⟩,⟨q41_⟩,⟨q13_⟩,⟨q4_⟩,⟨q24_⟩⟩
 case rest=>
  clear HC1;(try clear p2);(try clear c3);(try clear c4);(try clear c1);(try clear c1b0);(try clear c1b1);(try clear p6);(try clear q6);(try clear hx6);(try clear qi6);(try clear c2);(try clear c2b0);(try clear c2b1);(try clear hx699_0);(try clear p699);(try clear q699);obtain⟨kq,x1,rfl,HA,HJ1,HO2,HI0,HK,HB⟩:=hcut;cases kq with
  |zero=>exact absurd HA.1 (by simp[spec_l3First.j0])
  |succ kj1=>
   have H:=HA.1;clear HA;simp only[spec_l3First.j0]at H;replace H:=iT H;rcases H with⟨rfl,H⟩|⟨rfl,H⟩
   ·simp only[Option.some.injEq,Prod.mk.injEq]at H;obtain⟨rfl,rfl,rfl,rfl,rfl,rfl,rfl,rfl⟩:=H;go_wp2
    go_ret
    exact⟨q11_,q13_,q24_,q4_⟩
   ·replace H:=iE H;obtain⟨c6,H⟩:=H;have c6b0:=decide_eq_true c6;have c6b1:decide (0<t1.length)=true:=decide_eq_true (by omega);clear c6;replace H:=iE H;obtain⟨c7,H⟩:=H;have c7b0:=decide_eq_true c7;have c7b1:decide (1<t1.length)=true:=decide_eq_true (by omega);clear c7;replace H:=oB H;obtain⟨t2,A2,H⟩:=H;(try dsimp only at H);replace H:=iT H;rcases H with⟨rfl,H⟩|⟨rfl,H⟩
    ·replace H:=oB H;obtain⟨t3,A3,H⟩:=H;(try dsimp only at H);simp only[Option.some.injEq,Prod.mk.injEq]at H;obtain⟨rfl,rfl,rfl,rfl,rfl,rfl,rfl,rfl⟩:=H;obtain⟨Ao3,co3,eo3⟩:=Kd.R_slice HO2.1;subst eo3;have p700:0≤(0:Int):=(by omega);have q700:0<(t1.length:Int):=of_decide_eq_true q6_;obtain⟨ad2,e700,hx700_0⟩:=Kd.at_string (Kd.R_reads' HO2.1).2.2 0 p700 q700;cases e700
     have qi700:(0<t1.length)=True:=eq_true (by omega);(try rw[show((0:Int)).toNat=0 from rfl]at hx700_0);(try rw[Addr.add_zero']at hx700_0);replace p700:=eq_true p700;replace q700:=eq_true q700;obtain⟨ASz1_2,cSz1_2,ASz1_6,cSz1_6,HGz1,hgz1,HSz1_2,HSz1_6⟩:=HI0.1;have hcz1:=cel7 HGz1;clear HGz1 hgz1;have p701:0≤(1:Int):=(by omega);have q701:1<(t1.length:Int):=of_decide_eq_true q6_;obtain⟨ad3,e701,hx701_0⟩:=Kd.at_string (Kd.R_reads' HO2.1).2.2 1 p701 q701;obtain rfl:ad2=ad3:=(by injection e701);(try simp only[show(1:Int).toNat=1 from rfl,Nat.reduceMul,Nat.reduceEqDiff,Go.Addr.add,↓reduceIte]at hx701_0);have qi701:(1<t1.length)=True:=eq_true (by omega);(try rw[show((1:Int)).toNat=1 from rfl]at hx701_0);have hn701_0:ad2.block≠g:=Kd.own_blk (IsS61.own_ne HI0.1 HO2.1 (by decide));replace hx701_0:=(cell_far (p:=⟨g,0,none⟩) q236_ (.string (rdOf ByteArray.empty t1 0))).trans hx701_0;clear hn701_0;replace p701:=eq_true p701;replace q701:=eq_true q701;have p702:0≤(0:Int):=(by omega);have q702:0<(t1.length:Int):=of_decide_eq_true q6_;obtain⟨ad4,e702,hx702_0⟩:=Kd.at_string (Kd.R_reads' HO2.1).2.2 0 p702 q702;obtain rfl:ad2=ad4:=(by injection e702);have qi702:(0<t1.length)=True:=eq_true (by omega);(try rw[show((0:Int)).toNat=0 from rfl]at hx702_0);(try rw[Addr.add_zero']at hx702_0);have hn702_0:ad2.block≠g:=Kd.own_blk (IsS61.own_ne HI0.1 HO2.1 (by decide));have hn702_1:ad2.block≠g:=Kd.own_blk (IsS61.own_ne HI0.1 HO2.1 (by decide));replace hx702_0:=(cell_far (p:=⟨g,0,none⟩) q235_ (.string (rdOf ByteArray.empty t1 0))).trans hx702_0;replace hx702_0:=(cell_far (p:=⟨g,1,none⟩) q234_ (.string (rdOf ByteArray.empty t1 1))).trans hx702_0;clear hn702_0 hn702_1;replace p702:=eq_true p702;replace q702:=eq_true q702;go_wp2_with (first|((with_reducible refine gate_callee (f:=60) rfl ?_);refine goesL_ (some 34) rfl rfl Tryz.func60 (by kernel_rfl) rfl #[.string (rdOf ByteArray.empty t1 0)] rfl q1_ ?_;(with_reducible refine(spec_l3Method.calls kj1 (rdOf ByteArray.empty t1 0) true _ A2.1).mono ?_);rintro e w' ⟨rfl,⟨nd,rfl⟩⟩;refine⟨_,rfl,?_⟩;have p704:0≤(1:Int):=(by omega);have q704:1<(t1.length:Int):=of_decide_eq_true q6_;obtain⟨ad5,e704,hx704_0⟩:=Kd.at_string (Kd.R_reads' HO2.1).2.2 1 p704 q704;obtain rfl:ad2=ad5:=(by injection e704);(try simp only[show(1:Int).toNat=1 from rfl,Nat.reduceMul,Nat.reduceEqDiff,Go.Addr.add,↓reduceIte]at hx704_0);have qi704:(1<t1.length)=True:=eq_true (by omega);(try rw[show((1:Int)).toNat=1 from rfl]at hx704_0);have hn704_0:ad2.block≠g:=Kd.own_blk (IsS61.own_ne HI0.1 HO2.1 (by decide));have hn704_1:ad2.block≠g:=Kd.own_blk (IsS61.own_ne HI0.1 HO2.1 (by decide));replace hx704_0:=(cell_far (p:=⟨g,0,none⟩) (by first|(rw[add_block];exact hn704_0)|(show(Addr.add _ _).block≠_;rw[add_block];exact hn704_0)|exact hn704_0) (.string (rdOf ByteArray.empty t1 0))).trans hx704_0;replace hx704_0:=(cell_far (p:=⟨g,1,none⟩) (by first|(rw[add_block];exact hn704_1)|(show(Addr.add _ _).block≠_;rw[add_block];exact hn704_1)|exact hn704_1) (.string (rdOf ByteArray.empty t1 1))).trans hx704_0;clear hn704_0 hn704_1;replace p704:=eq_true p704;replace q704:=eq_true q704)|(go_at_call 61;(with_reducible refine(spec_l3Target.calls kj1 (rdOf ByteArray.empty t1 1) t3 _ A3.1).mono ?_);rintro e w' ⟨rfl,⟨nd,rfl⟩⟩))
     go_ret
     exact⟨q11_,q13_,q24_,q4_⟩
    ·simp only[Option.some.injEq,Prod.mk.injEq]at H;obtain⟨rfl,rfl,rfl,rfl,rfl,rfl,rfl,rfl⟩:=H;obtain⟨Ao4,co4,eo4⟩:=Kd.R_slice HO2.1;subst eo4;have p700:0≤(0:Int):=(by omega);have q700:0<(t1.length:Int):=of_decide_eq_true q6_;obtain⟨ad2,e700,hx700_0⟩:=Kd.at_string (Kd.R_reads' HO2.1).2.2 0 p700 q700;cases e700
     have qi700:(0<t1.length)=True:=eq_true (by omega);(try rw[show((0:Int)).toNat=0 from rfl]at hx700_0);(try rw[Addr.add_zero']at hx700_0);replace p700:=eq_true p700;replace q700:=eq_true q700;obtain⟨ASz2_2,cSz2_2,ASz2_6,cSz2_6,HGz2,hgz2,HSz2_2,HSz2_6⟩:=HI0.1;have hcz2:=cel7 HGz2;clear HGz2 hgz2;have p701:0≤(1:Int):=(by omega);have q701:1<(t1.length:Int):=of_decide_eq_true q6_;obtain⟨ad3,e701,hx701_0⟩:=Kd.at_string (Kd.R_reads' HO2.1).2.2 1 p701 q701;obtain rfl:ad2=ad3:=(by injection e701);(try simp only[show(1:Int).toNat=1 from rfl,Nat.reduceMul,Nat.reduceEqDiff,Go.Addr.add,↓reduceIte]at hx701_0);have qi701:(1<t1.length)=True:=eq_true (by omega);(try rw[show((1:Int)).toNat=1 from rfl]at hx701_0);have hn701_0:ad2.block≠g:=Kd.own_blk (IsS61.own_ne HI0.1 HO2.1 (by decide));replace hx701_0:=(cell_far (p:=⟨g,0,none⟩) q236_ (.string (rdOf ByteArray.empty t1 0))).trans hx701_0;clear hn701_0;replace p701:=eq_true p701;replace q701:=eq_true q701;have p702:0≤(0:Int):=(by omega);have q702:0<(t1.length:Int):=of_decide_eq_true q6_;obtain⟨ad4,e702,hx702_0⟩:=Kd.at_string (Kd.R_reads' HO2.1).2.2 0 p702 q702;obtain rfl:ad2=ad4:=(by injection e702);have qi702:(0<t1.length)=True:=eq_true (by omega);(try rw[show((0:Int)).toNat=0 from rfl]at hx702_0);(try rw[Addr.add_zero']at hx702_0);have hn702_0:ad2.block≠g:=Kd.own_blk (IsS61.own_ne HI0.1 HO2.1 (by decide));have hn702_1:ad2.block≠g:=Kd.own_blk (IsS61.own_ne HI0.1 HO2.1 (by decide));replace hx702_0:=(cell_far (p:=⟨g,0,none⟩) q235_ (.string (rdOf ByteArray.empty t1 0))).trans hx702_0;replace hx702_0:=(cell_far (p:=⟨g,1,none⟩) q234_ (.string (rdOf ByteArray.empty t1 1))).trans hx702_0;clear hn702_0 hn702_1;replace p702:=eq_true p702;replace q702:=eq_true q702;go_wp2_with (first|((with_reducible refine gate_callee (f:=60) rfl ?_);refine goesL_ (some 34) rfl rfl Tryz.func60 (by kernel_rfl) rfl #[.string (rdOf ByteArray.empty t1 0)] rfl q1_ ?_;(with_reducible refine(spec_l3Method.calls kj1 (rdOf ByteArray.empty t1 0) false _ A2.1).mono ?_);rintro e w' ⟨rfl,⟨nd,rfl⟩⟩;refine⟨_,rfl,?_⟩))
     go_ret
     exact⟨q11_,q13_,q24_,q4_⟩
def spec_Lower.l0:Nat→ByteArray→List Int→Int→Option (ByteArray)
 |0,_,_,_=>none
 |k+1,a,b,c=>if c<(a.size:Int)then(if 0≤c then((spec_l1Large.f (bt a c)).bind fun d=>(if d=true then(if b.length<140737488355328 then(spec_Lower.l0 k a (b++[((bt a c)+32)%256]) (wrap64 (c+1)))else(none))else(if b.length<140737488355328 then(spec_Lower.l0 k a (b++[bt a c]) (wrap64 (c+1)))else(none))))else(none))else(some (strOfNums b))
def spec_Lower.f(k:Nat)(a:ByteArray):Option (ByteArray):=spec_Lower.l0 k a (([]:List Int)) 0
theorem spec_Lower.calls(k:Nat)(a0:ByteArray)(r:ByteArray)(w:World)(h:spec_Lower.f k a0=some r):
  Calls Tryz.prog 62 #[.string a0] w fun e w'=>e= .returned (.string r)∧Below w.heap.size w w':=by
 have HB:=aK (Below.refl w.heap.size w);have H:(spec_Lower.l0 k a0 (([]:List Int)) 0)=some r:=h;clear h;(first|(with_reducible replace H:=oS H;obtain⟨y1,Ny1,H⟩:=H)|(generalize hy_:(([]:List Int):List Int)=y1 at H;have Ny1:=aK hy_.symm;clear hy_));(try dsimp only at H);have H':=aK H;clear H;go_enter Tryz.func62,Tryz.ntmps62
 go_wp2_with (first|((with_reducible refine gate_dst (N:=6) rfl ?_);refine Kd.R_lit (Kd.int .u8) _ 5 ?hg (N:=6) ?hd (xs:=([]:List Int)) (inner:=[]) (ok:=fun _=>True) (okp:=fun _=>True) ?hr ?hp (fun _ hk=>hk) trivial (Below.refl _ _) (Nat.le_refl _) (by simp) ?_;(case hd=>rfl);(case hg=>rfl);(case hr=>exact q22_);(case hp=>exact q95_);intro v1 w1 ho1 hb hg_ hnew_;clear hg_ hnew_;(first|rw[←Ny1.1]at ho1|(simp only[Int.reduceToNat]at ho1;rw[←Ny1.1]at ho1));have HO1:=aK (Kd.R_lower ho1 (below_size q2_));replace HB:=aK (below_step q2_ hb);clear hb ho1))
 go_loopg [3,4] k (fun kq v2 v3 w'=>∃(x1:List Int)(x2:Int),v3= .int .i64 x2∧Aside0 (spec_Lower.l0 kq a0 x1 x2=some r)∧Aside0 (kq≤k)∧Aside0 (Kd.R (Kd.int .u8) 5 w' w.heap.size (fun _=>True) v2 x1)∧Aside0 (Below w.heap.size w w'))
 case atStart=>exact⟨(y1),(0),q3_,H',⟨Nat.le_refl _⟩,⟨q41_⟩,⟨q2_⟩⟩
 case round=>
  clear H';(try clear p2);obtain⟨x1,x2,rfl,HA,HK1,HO2,HB⟩:=hrel;cases gk with
  |zero=>exact absurd HA.1 (by simp[spec_Lower.l0])
  |succ k1=>
   have H:=HA.1;clear HA;simp only[spec_Lower.l0]at H;replace H:=iD H;rcases H with⟨c1b0,H⟩|⟨c1b0,H⟩
   ·replace H:=iG H;obtain⟨c2b0,H⟩:=H;replace H:=oB H;obtain⟨t1,A1,H⟩:=H;(try dsimp only at H);replace H:=iT H;rcases H with⟨rfl,H⟩|⟨rfl,H⟩
    ·replace H:=iL H;obtain⟨LMc4,H⟩:=H;(first|(with_reducible replace H:=oS H;obtain⟨y2,Ny2,H⟩:=H)|(generalize hy_:(x1++[((bt a0 x2)+32)%256]:List Int)=y2 at H;have Ny2:=aK hy_.symm;clear hy_));(try dsimp only at H);have H':=aK H;clear H;have p6:0≤(x2:Int):=of_decide_eq_true q6_;have q6:x2<(a0.size:Int):=of_decide_eq_true q6_;have hx6:=bt_at a0 x2;replace p6:=eq_true p6;replace q6:=eq_true q6;go_wp2_with (first|((with_reducible refine gate_callee (f:=82) rfl ?_);refine goesL_ (some 17) rfl rfl Tryz.func82 (by kernel_rfl) rfl #[.int .u8 (bt a0 x2)] rfl q1_ ?_;(with_reducible refine(spec_l1Large.calls (bt a0 x2) true _ A1.1).mono ?_);rintro e w' ⟨rfl,⟨nd,rfl⟩⟩;refine⟨_,rfl,?_⟩)|((with_reducible refine gate_builtin (b:= .append) (xs:= #[.tmp 20,.tmp 22]) rfl ?_);at_builtin;refine Kd.R_append (Kd.int .u8) (w0:=w) w.heap.size rfl (.tmp 20) (.tmp 22) 22 5 (.int .u8 0) 1 rfl Tryz.underlying22 info5 rfl (by decide) (by omega) u3 x1 (((bt a0 x2)+32)%256) [.int .u8 (((bt a0 x2)+32)%256)] (fun _=>True) (fun _=>False) rfl rfl ?aP (fun _ hk=>hk.elim) ?aF ?aO ?aB ?aS ?aL ?_;(case aP=>exact rfl);(case aB=>exact q2_);(case aF=>exact q84_);(case aO=>exact q21_);(case aS=>exact q149_);(case aL=>have:=LMc4.1;omega);intro v4 w2 ho hb hg hat;rw[←Ny2.1]at ho;replace HB:=aK (hb);have HO3:=aK (ho);clear HO2;clear ho hb hg hat))
     go_roundg k1
     case measure=>have:=HK1.1;omega
     case rel=>exact⟨(y2),(wrap64 (x2+1)),q3_,H',⟨q81_⟩,⟨q96_⟩,⟨q2_⟩⟩
    ·replace H:=iL H;obtain⟨LMc5,H⟩:=H;(first|(with_reducible replace H:=oS H;obtain⟨y3,Ny3,H⟩:=H)|(generalize hy_:(x1++[bt a0 x2]:List Int)=y3 at H;have Ny3:=aK hy_.symm;clear hy_));(try dsimp only at H);have H':=aK H;clear H;have p6:0≤(x2:Int):=of_decide_eq_true q6_;have q6:x2<(a0.size:Int):=of_decide_eq_true q6_;have hx6:=bt_at a0 x2;replace p6:=eq_true p6;replace q6:=eq_true q6;go_wp2_with (first|((with_reducible refine gate_callee (f:=82) rfl ?_);refine goesL_ (some 17) rfl rfl Tryz.func82 (by kernel_rfl) rfl #[.int .u8 (bt a0 x2)] rfl q1_ ?_;(with_reducible refine(spec_l1Large.calls (bt a0 x2) false _ A1.1).mono ?_);rintro e w' ⟨rfl,⟨nd,rfl⟩⟩;refine⟨_,rfl,?_⟩)|((with_reducible refine gate_builtin (b:= .append) (xs:= #[.tmp 20,.tmp 22]) rfl ?_);at_builtin;refine Kd.R_append (Kd.int .u8) (w0:=w) w.heap.size rfl (.tmp 20) (.tmp 22) 22 5 (.int .u8 0) 1 rfl Tryz.underlying22 info5 rfl (by decide) (by omega) u3 x1 (bt a0 x2) [.int .u8 (bt a0 x2)] (fun _=>True) (fun _=>False) rfl rfl ?aP (fun _ hk=>hk.elim) ?aF ?aO ?aB ?aS ?aL ?_;(case aP=>exact rfl);(case aB=>exact q2_);(case aF=>exact q84_);(case aO=>exact q21_);(case aS=>exact q149_);(case aL=>have:=LMc5.1;omega);intro v5 w3 ho hb hg hat;rw[←Ny3.1]at ho;replace HB:=aK (hb);have HO4:=aK (ho);clear HO2;clear ho hb hg hat))
     go_roundg k1
     case measure=>have:=HK1.1;omega
     case rel=>exact⟨(y3),(wrap64 (x2+1)),q3_,H',⟨q81_⟩,⟨q154_⟩,⟨q2_⟩⟩
   ·obtain rfl:=Option.some.inj H;have hcv13:=own_string (P:=Tryz.prog) Tryz.underlying22 Tryz.underlying5 Tryz.underlying9 (Kd.own_of_R HO2.1);go_wp2
    go_ret
    exact⟨q11_,q2_⟩
end Go.Proofs.YtmojemogpelpnaaGreatDoor.GFnWires
namespace Go.Proofs.YtmojemogpelpnaaGreatDoor.GFnWires
open Go.RowKit Go.Proofs.YtmojemogpelpnaaGreatDoorW.PrintWords Go.Proofs.YtmojemogpelpnaaGreatDoorW.PrintLast Go.Proofs.YtmojemogpelpnaaGreatDoorW.PrintMore
attribute [local go_sem] max2_int min2_int max_two min_two max_three min_three max_four min_four
set_option linter.unusedVariables false
set_option linter.unusedSimpArgs false
set_option maxRecDepth 100000
set_option maxHeartbeats 8000000
mutual
def spec_ParseNum.l0:Nat→ByteArray→Int→Int→Int→Option (Int×Bool)
 |0,_,_,_,_=>none
 |k+1,a,b,c,d=>if d<(a.size:Int)then(spec_ParseNum.j1 k a b c d (decide (d<8)))else(spec_ParseNum.j1 k a b c d false)
def spec_ParseNum.j1:Nat→ByteArray→Int→Int→Int→Bool→Option (Int×Bool)
 |0,_,_,_,_,_=>none
 |k+1,a,b,c,d,e=>if e=true then(if 0≤d then(if d<(a.size:Int)then((spec_l1Digit.f (bt a d)).bind fun g=>(if g=true then(spec_ParseNum.l0 k a b (wrap64 ((wrap64 (c*10))+(((bt a d)-48)%256))) (wrap64 (d+1)))else(some (0,false))))else(none))else(none))else((spec_l1In.f (a.size:Int) 1 7).bind fun h=>(if h=true then(if(a.size:Int)>1 then(if 0<(a.size:Int)then(if(bt a 0)=48 then(some (0,false))else(if c>b then(some (0,false))else(some (c,true))))else(none))else(if c>b then(some (0,false))else(some (c,true))))else(some (0,false))))
end
def spec_ParseNum.f(k:Nat)(a:ByteArray)(b:Int):Option (Int×Bool):=spec_ParseNum.l0 k a b 0 0
theorem spec_ParseNum.calls(k:Nat)(a0:ByteArray)(a1:Int)(r1:Int)(r2:Bool)(w:World)(h:spec_ParseNum.f k a0 a1=some (r1,r2)):
  Calls Tryz.prog 66 #[.string a0,.int .i64 a1] w fun e w'=>e= .returned (.tuple #[.int .i64 r1,.bool r2])∧Drawn0 w w':=by
 have H:(spec_ParseNum.l0 k a0 a1 0 0)=some (r1,r2):=h;clear h;have H':=aK H;clear H;go_enter Tryz.func66,Tryz.ntmps66
 go_wp2
 go_loopg [6,7] k (fun kq v1 v2 w'=>∃(x1:Int)(x2:Int),v1= .int .i64 x1∧v2= .int .i64 x2∧Aside0 (spec_ParseNum.l0 kq a0 a1 x1 x2=some (r1,r2))∧Aside0 (kq≤k)∧Drawn0 w w')
 case atStart=>exact⟨(0),(0),q3_,q3_,H',⟨Nat.le_refl _⟩,q12_⟩
 case round=>
  clear H';(try clear p2);obtain⟨x1,x2,rfl,rfl,HA,HK1,⟨m1,rfl⟩⟩:=hrel;cases gk with
  |zero=>exact absurd HA.1 (by simp[spec_ParseNum.l0])
  |succ k1=>
   have H:=HA.1;clear HA;simp only[spec_ParseNum.l0]at H;have HC1:=aK H;clear H;go_upto_region 3 with(fail)
   go_cut [15] (fun v3 wc=>∃(kq:Nat)(x3:Bool),v3= .bool x3∧Aside0 (spec_ParseNum.j1 kq a0 a1 x1 x2 x3=some (r1,r2))∧Aside0 (kq≤k1)∧Drawn0 w wc)
   case first=>
    have H:=HC1.1;clear HC1;replace H:=iD H;rcases H with⟨c1b0,H⟩|⟨c1b0,H⟩
    ·(first|rw[c1b0]|rw[c1i0]|(simp only[i64_w,i32_w];rw[c1b0])|skip);have H':=aK H;clear H;go_wp2
     go_meet
     case rel=>exact⟨_,(decide (x2<8)),q3_,H',⟨q65_⟩,q12_⟩
    ·(first|rw[c1b0]|rw[c1i0]|(simp only[i64_w,i32_w];rw[c1b0])|skip);have H':=aK H;clear H;go_wp2
     go_meet
     case rel=>exact⟨_,(false),q3_,H',⟨q65_⟩,q12_⟩
   case rest=>
    clear HC1;(try clear p2);(try clear c1);(try clear c1b0);(try clear p2);obtain⟨kq,x3,rfl,HA,HJ1,⟨mc2,rfl⟩⟩:=hcut;cases kq with
    |zero=>exact absurd HA.1 (by simp[spec_ParseNum.j1])
    |succ kj1=>
     have H:=HA.1;clear HA;simp only[spec_ParseNum.j1]at H;replace H:=iT H;rcases H with⟨rfl,H⟩|⟨rfl,H⟩
     ·replace H:=iG H;obtain⟨c3b0,H⟩:=H;replace H:=iG H;obtain⟨c4b0,H⟩:=H;replace H:=oB H;obtain⟨t1,A1,H⟩:=H;(try dsimp only at H);have HC2:=aK H;clear H;have p8:0≤(x2:Int):=of_decide_eq_true q6_;have q8:x2<(a0.size:Int):=of_decide_eq_true q6_;have hx8:=bt_at a0 x2;replace p8:=eq_true p8;replace q8:=eq_true q8;go_upto_if 22 with(first|((with_reducible refine gate_callee (f:=85) rfl ?_);refine goesL_ (some 21) rfl rfl Tryz.func85 (by kernel_rfl) rfl #[.int .u8 (bt a0 x2)] rfl q1_ ?_;(with_reducible refine(spec_l1Digit.calls (bt a0 x2) t1 _ A1.1).mono ?_);rintro e w' ⟨rfl,⟨nd,rfl⟩⟩;refine⟨_,rfl,?_⟩))
      (try simp only[Act.put,sI,sZ,sS]);have H:=HC2.1;clear HC2;replace H:=iT H;rcases H with⟨rfl,H⟩|⟨rfl,H⟩
      ·have H':=aK H;clear H;have p12:0≤(x2:Int):=of_decide_eq_true q6_;have q12:x2<(a0.size:Int):=of_decide_eq_true q6_;have hx12:=bt_at a0 x2;replace p12:=eq_true p12;replace q12:=eq_true q12;go_wp2
       go_roundg kj1
       case measure=>have:=HK1.1;have:=HJ1.1;omega
       case rel=>exact⟨(wrap64 ((wrap64 (x1*10))+(((bt a0 x2)-48)%256))),(wrap64 (x2+1)),q3_,q3_,H',⟨q130_⟩,q12_⟩
      ·simp only[Option.some.injEq,Prod.mk.injEq]at H;obtain⟨rfl,rfl⟩:=H;go_wp2
       go_ret2
       exact⟨q3_,q12_⟩
     ·replace H:=oB H;obtain⟨t2,A2,H⟩:=H;(try dsimp only at H);replace H:=iT H;rcases H with⟨rfl,H⟩|⟨rfl,H⟩
      ·replace H:=iB H;rcases H with⟨c7,H⟩|⟨c7,H⟩
       ·have c7b0:decide (1<(a0.size:Int))=true:=decide_eq_true c7;have c7b1:decide (1<a0.size)=true:=decide_eq_true (by omega);clear c7;replace H:=iE H;obtain⟨c8,H⟩:=H;have c8b0:=decide_eq_true c8;have c8b1:decide (0<a0.size)=true:=decide_eq_true (by omega);clear c8;replace H:=iQ H;rcases H with⟨-,c9b0,c9b1,H⟩|⟨c9,c9b0,c9b1,H⟩
        ·simp only[Option.some.injEq,Prod.mk.injEq]at H;obtain⟨rfl,rfl⟩:=H;go_wp2_with (first|((with_reducible refine gate_callee (f:=43) rfl ?_);refine goesL_ (some 33) rfl rfl Tryz.func43 (by kernel_rfl) rfl #[.int .i64 (a0.size:Int),.int .i64 1,.int .i64 7] rfl q1_ ?_;(with_reducible refine(spec_l1In.calls (a0.size:Int) 1 7 true _ A2.1).mono ?_);rintro e w' ⟨rfl,⟨nd,rfl⟩⟩;refine⟨_,rfl,?_⟩;have p17:0≤(0:Int):=(by omega);have q17:0<a0.size:=(by have:(0:Int)<(a0.size:Int):=of_decide_eq_true q6_;omega);have hx17:∀h:0<a0.size,((a0[0]'h).toNat:Int)=bt a0 0:=bt_at a0 0;clear p17;have qi17:(0<(a0.size:Int))=True:=eq_true (of_decide_eq_true q6_);replace q17:=eq_true q17))
         go_ret2
         exact⟨q3_,q12_⟩
        ·have HC3:=aK H;clear H;go_upto_if 49 with(first|((with_reducible refine gate_callee (f:=43) rfl ?_);refine goesL_ (some 33) rfl rfl Tryz.func43 (by kernel_rfl) rfl #[.int .i64 (a0.size:Int),.int .i64 1,.int .i64 7] rfl q1_ ?_;(with_reducible refine(spec_l1In.calls (a0.size:Int) 1 7 true _ A2.1).mono ?_);rintro e w' ⟨rfl,⟨nd,rfl⟩⟩;refine⟨_,rfl,?_⟩;have p17:0≤(0:Int):=(by omega);have q17:0<a0.size:=(by have:(0:Int)<(a0.size:Int):=of_decide_eq_true q6_;omega);have hx17:∀h:0<a0.size,((a0[0]'h).toNat:Int)=bt a0 0:=bt_at a0 0;clear p17;have qi17:(0<(a0.size:Int))=True:=eq_true (of_decide_eq_true q6_);replace q17:=eq_true q17))
         (try simp only[Act.put,sI,sZ,sS]);have H:=HC3.1;clear HC3;replace H:=iB H;rcases H with⟨c10,H⟩|⟨c10,H⟩
         ·have c10b0:decide (a1<x1)=true:=decide_eq_true c10;clear c10;(first|rw[c10b0]|rw[c10i0]|(simp only[i64_w,i32_w];rw[c10b0])|skip);simp only[Option.some.injEq,Prod.mk.injEq]at H;obtain⟨rfl,rfl⟩:=H;go_wp2
          go_ret2
          exact⟨q3_,q12_⟩
         ·have c10b0:decide (a1<x1)=false:=decide_eq_false c10;clear c10;(first|rw[c10b0]|rw[c10i0]|(simp only[i64_w,i32_w];rw[c10b0])|skip);simp only[Option.some.injEq,Prod.mk.injEq]at H;obtain⟨rfl,rfl⟩:=H;go_wp2
          go_ret2
          exact⟨q3_,q12_⟩
       ·have c7b0:decide (1<(a0.size:Int))=false:=decide_eq_false c7;have c7b1:decide (1<a0.size)=false:=decide_eq_false (by omega);clear c7;have HC4:=aK H;clear H;go_upto_if 49 with(first|((with_reducible refine gate_callee (f:=43) rfl ?_);refine goesL_ (some 33) rfl rfl Tryz.func43 (by kernel_rfl) rfl #[.int .i64 (a0.size:Int),.int .i64 1,.int .i64 7] rfl q1_ ?_;(with_reducible refine(spec_l1In.calls (a0.size:Int) 1 7 true _ A2.1).mono ?_);rintro e w' ⟨rfl,⟨nd,rfl⟩⟩;refine⟨_,rfl,?_⟩))
        (try simp only[Act.put,sI,sZ,sS]);have H:=HC4.1;clear HC4;replace H:=iB H;rcases H with⟨c11,H⟩|⟨c11,H⟩
        ·have c11b0:decide (a1<x1)=true:=decide_eq_true c11;clear c11;(first|rw[c11b0]|rw[c11i0]|(simp only[i64_w,i32_w];rw[c11b0])|skip);simp only[Option.some.injEq,Prod.mk.injEq]at H;obtain⟨rfl,rfl⟩:=H;go_wp2
         go_ret2
         exact⟨q3_,q12_⟩
        ·have c11b0:decide (a1<x1)=false:=decide_eq_false c11;clear c11;(first|rw[c11b0]|rw[c11i0]|(simp only[i64_w,i32_w];rw[c11b0])|skip);simp only[Option.some.injEq,Prod.mk.injEq]at H;obtain⟨rfl,rfl⟩:=H;go_wp2
         go_ret2
         exact⟨q3_,q12_⟩
      ·simp only[Option.some.injEq,Prod.mk.injEq]at H;obtain⟨rfl,rfl⟩:=H;go_wp2_with (first|((with_reducible refine gate_callee (f:=43) rfl ?_);refine goesL_ (some 33) rfl rfl Tryz.func43 (by kernel_rfl) rfl #[.int .i64 (a0.size:Int),.int .i64 1,.int .i64 7] rfl q1_ ?_;(with_reducible refine(spec_l1In.calls (a0.size:Int) 1 7 false _ A2.1).mono ?_);rintro e w' ⟨rfl,⟨nd,rfl⟩⟩;refine⟨_,rfl,?_⟩))
       go_ret2
       exact⟨q3_,q12_⟩
end Go.Proofs.YtmojemogpelpnaaGreatDoor.GFnWires
