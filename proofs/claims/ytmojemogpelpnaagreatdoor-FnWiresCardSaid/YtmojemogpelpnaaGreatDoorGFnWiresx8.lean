import Derived.Test.YtmojemogpelpnaaGreatDoorGFnWiresx0
import Derived.Test.YtmojemogpelpnaaGreatDoorGFnWiresx7
namespace Go.Proofs.YtmojemogpelpnaaGreatDoor.GFnWires
open Go.RowKit Go.Proofs.YtmojemogpelpnaaGreatDoorW.PrintWords Go.Proofs.YtmojemogpelpnaaGreatDoorW.PrintLast Go.Proofs.YtmojemogpelpnaaGreatDoorW.PrintMore
attribute [local go_sem] max2_int min2_int max_two min_two max_three min_three max_four min_four
set_option linter.unusedVariables false
set_option linter.unusedSimpArgs false
set_option maxRecDepth 100000
set_option maxHeartbeats 8000000
def impl_SmallName.l0:Nat→ByteArray→Int→Option (Bool)
 |0,_,_=>none
 |k+1,a,b=>if b<(a.size:Int)then(if 0≤b then((impl_isSmall.f (bt a b)).bind fun c=>(if c=true then(impl_SmallName.l0 k a (wrap64 (b+1)))else(if b=0 then(some false)else((impl_isDigit.f (bt a b)).bind fun d=>(if d=true then(impl_SmallName.l0 k a (wrap64 (b+1)))else(if(bt a b)=45 then(impl_SmallName.l0 k a (wrap64 (b+1)))else(some false)))))))else(none))else((impl_in.f (a.size:Int) 1 20).bind fun e=>(some e))
def impl_SmallName.f(k:Nat)(a:ByteArray):Option (Bool):=impl_SmallName.l0 k a 0
theorem impl_SmallName.calls(k:Nat)(a0:ByteArray)(r:Bool)(w:World)(h:impl_SmallName.f k a0=some r):
  Calls Tryz.prog 78 #[.string a0] w fun e w'=>e= .returned (.bool r)∧Drawn0 w w':=by
 have H:(impl_SmallName.l0 k a0 0)=some r:=h;clear h;have H':=aK H;clear H;go_enter Tryz.func78,Tryz.ntmps78
 go_wp2
 go_loopg [3] k (fun kq v1 w'=>∃(x1:Int),v1= .int .i64 x1∧Aside0 (impl_SmallName.l0 kq a0 x1=some r)∧Aside0 (kq≤k)∧Drawn0 w w')
 case atStart=>exact⟨(0),q3_,H',⟨Nat.le_refl _⟩,q12_⟩
 case round=>
  clear H';obtain⟨x1,rfl,HA,HK1,⟨m1,rfl⟩⟩:=hrel;cases gk with
  |zero=>exact absurd HA.1 (by simp[impl_SmallName.l0])
  |succ k1=>
   have H:=HA.1;clear HA;simp only[impl_SmallName.l0]at H;replace H:=iD H;rcases H with⟨c1b0,H⟩|⟨c1b0,H⟩
   ·replace H:=iG H;obtain⟨c2b0,H⟩:=H;replace H:=oB H;obtain⟨t1,A1,H⟩:=H;(try dsimp only at H);replace H:=iT H;rcases H with⟨rfl,H⟩|⟨rfl,H⟩
    ·have H':=aK H;clear H;have p4:0≤(x1:Int):=of_decide_eq_true q6_;have q4:x1<(a0.size:Int):=of_decide_eq_true q6_;have hx4:=bt_at a0 x1;replace p4:=eq_true p4;replace q4:=eq_true q4;go_wp2_with (first|((with_reducible refine gate_callee (f:=99) rfl ?_);refine goesL_ (some 13) rfl rfl Tryz.func99 (by kernel_rfl) rfl #[.int .u8 (bt a0 x1)] rfl q1_ ?_;(with_reducible refine(impl_isSmall.calls (bt a0 x1) true _ A1.1).mono ?_);rintro e w' ⟨rfl,⟨nd,rfl⟩⟩;refine⟨_,rfl,?_⟩))
     go_roundg k1
     case measure=>have:=HK1.1;omega
     case rel=>exact⟨(wrap64 (x1+1)),q3_,H',⟨q81_⟩,q12_⟩
    ·replace H:=iQ H;rcases H with⟨-,c4b0,c4b1,H⟩|⟨c4,c4b0,c4b1,H⟩
     ·obtain rfl:=Option.some.inj H;have p4:0≤(x1:Int):=of_decide_eq_true q6_;have q4:x1<(a0.size:Int):=of_decide_eq_true q6_;have hx4:=bt_at a0 x1;replace p4:=eq_true p4;replace q4:=eq_true q4;go_wp2_with (first|((with_reducible refine gate_callee (f:=99) rfl ?_);refine goesL_ (some 13) rfl rfl Tryz.func99 (by kernel_rfl) rfl #[.int .u8 (bt a0 x1)] rfl q1_ ?_;(with_reducible refine(impl_isSmall.calls (bt a0 x1) false _ A1.1).mono ?_);rintro e w' ⟨rfl,⟨nd,rfl⟩⟩;refine⟨_,rfl,?_⟩))
      go_ret
      exact⟨q3_,q12_⟩
     ·replace H:=oB H;obtain⟨t2,A2,H⟩:=H;(try dsimp only at H);replace H:=iT H;rcases H with⟨rfl,H⟩|⟨rfl,H⟩
      ·have H':=aK H;clear H;have p4:0≤(x1:Int):=of_decide_eq_true q6_;have q4:x1<(a0.size:Int):=of_decide_eq_true q6_;have hx4:=bt_at a0 x1;replace p4:=eq_true p4;replace q4:=eq_true q4;go_wp2_with (first|((with_reducible refine gate_callee (f:=99) rfl ?_);refine goesL_ (some 13) rfl rfl Tryz.func99 (by kernel_rfl) rfl #[.int .u8 (bt a0 x1)] rfl q1_ ?_;(with_reducible refine(impl_isSmall.calls (bt a0 x1) false _ A1.1).mono ?_);rintro e w' ⟨rfl,⟨nd,rfl⟩⟩;refine⟨_,rfl,?_⟩;have p8:0≤(x1:Int):=of_decide_eq_true q6_;have q8:x1<(a0.size:Int):=of_decide_eq_true q6_;have hx8:=bt_at a0 x1;replace p8:=eq_true p8;replace q8:=eq_true q8)|(go_at_call 100;(with_reducible refine(impl_isDigit.calls (bt a0 x1) true _ A2.1).mono ?_);rintro e w' ⟨rfl,⟨nd,rfl⟩⟩))
       go_roundg k1
       case measure=>have:=HK1.1;omega
       case rel=>exact⟨(wrap64 (x1+1)),q3_,H',⟨q81_⟩,q12_⟩
      ·have HC1:=aK H;clear H;have p4:0≤(x1:Int):=of_decide_eq_true q6_;have q4:x1<(a0.size:Int):=of_decide_eq_true q6_;have hx4:=bt_at a0 x1;replace p4:=eq_true p4;replace q4:=eq_true q4;go_upto_if 31 with(first|((with_reducible refine gate_callee (f:=99) rfl ?_);refine goesL_ (some 13) rfl rfl Tryz.func99 (by kernel_rfl) rfl #[.int .u8 (bt a0 x1)] rfl q1_ ?_;(with_reducible refine(impl_isSmall.calls (bt a0 x1) false _ A1.1).mono ?_);rintro e w' ⟨rfl,⟨nd,rfl⟩⟩;refine⟨_,rfl,?_⟩;have p8:0≤(x1:Int):=of_decide_eq_true q6_;have q8:x1<(a0.size:Int):=of_decide_eq_true q6_;have hx8:=bt_at a0 x1;replace p8:=eq_true p8;replace q8:=eq_true q8)|(go_at_call 100;(with_reducible refine(impl_isDigit.calls (bt a0 x1) false _ A2.1).mono ?_);rintro e w' ⟨rfl,⟨nd,rfl⟩⟩;have p11:0≤(x1:Int):=of_decide_eq_true q6_;have q11:x1<(a0.size:Int):=of_decide_eq_true q6_;have hx11:=bt_at a0 x1;replace p11:=eq_true p11;replace q11:=eq_true q11))
       (try simp only[Act.put,sI,sZ,sS]);have H:=HC1.1;clear HC1;replace H:=iQ H;rcases H with⟨-,c6b0,c6b1,H⟩|⟨c6,c6b0,c6b1,H⟩
       ·(first|rw[c6b0]|rw[c6i0]|(simp only[i64_w,i32_w];rw[c6b0])|skip);have H':=aK H;clear H;go_wp2
        go_roundg k1
        case measure=>have:=HK1.1;omega
        case rel=>exact⟨(wrap64 (x1+1)),q3_,H',⟨q81_⟩,q12_⟩
       ·(first|rw[c6b0]|rw[c6i0]|(simp only[i64_w,i32_w];rw[c6b0])|skip);obtain rfl:=Option.some.inj H;go_wp2
        go_ret
        exact⟨q3_,q12_⟩
   ·replace H:=oB H;obtain⟨t3,A3,H⟩:=H;(try dsimp only at H);obtain rfl:=Option.some.inj H;go_wp2_with (first|((with_reducible refine gate_callee (f:=56) rfl ?_);refine goesL_ (some 34) rfl rfl Tryz.func56 (by kernel_rfl) rfl #[.int .i64 (a0.size:Int),.int .i64 1,.int .i64 20] rfl q1_ ?_;(with_reducible refine(impl_in.calls (a0.size:Int) 1 20 t3 _ A3.1).mono ?_);rintro e w' ⟨rfl,⟨nd,rfl⟩⟩;refine⟨_,rfl,?_⟩))
    go_ret
    exact⟨q3_,q12_⟩
def impl_valOk.f(k:Nat)(a:ByteArray):Option (Bool):=if(a.size:Int)≤60 then((impl_Plain.f k a).bind fun b=>(if b=true then((impl_Trim.f a).bind fun c=>(some (c.toList==a.toList)))else(some false)))else(some false)
theorem impl_valOk.calls(k:Nat)(a0:ByteArray)(r:Bool)(w:World)(h:impl_valOk.f k a0=some r):
  Calls Tryz.prog 79 #[.string a0] w fun e w'=>e= .returned (.bool r)∧Below w.heap.size w w':=by
 have HB:=aK (Below.refl w.heap.size w);have H:=h;clear h;unfold impl_valOk.f at H
 replace H:=iB H;rcases H with⟨c1,H⟩|⟨c1,H⟩
 ·have c1b0:=decide_eq_true c1;have c1b1:decide (a0.size≤60)=true:=decide_eq_true (by omega);clear c1;replace H:=oB H;obtain⟨t1,A1,H⟩:=H;(try dsimp only at H);replace H:=iT H;rcases H with⟨rfl,H⟩|⟨rfl,H⟩
  ·replace H:=oB H;obtain⟨t2,A2,H⟩:=H;(try dsimp only at H);obtain rfl:=Option.some.inj H;go_enter Tryz.func79,Tryz.ntmps79
   go_wp2_with (first|(go_at_call 74;(with_reducible refine(impl_Plain.calls k a0 true _ A1.1).mono ?_);rintro e w' ⟨rfl,⟨nd,rfl⟩⟩)|(go_at_call 77;(with_reducible refine(impl_Trim.calls a0 t2 _ A2.1).mono ?_);rintro e w1 ⟨rfl,hb⟩;replace HB:=aK (below_step q2_ hb);clear hb))
   go_ret
   exact⟨q11_,q2_⟩
  ·obtain rfl:=Option.some.inj H;go_enter Tryz.func79,Tryz.ntmps79
   go_wp2_with (first|(go_at_call 74;(with_reducible refine(impl_Plain.calls k a0 false _ A1.1).mono ?_);rintro e w' ⟨rfl,⟨nd,rfl⟩⟩))
   go_ret
   exact⟨q11_,q2_⟩
 ·have c1b0:=decide_eq_false c1;have c1b1:decide (a0.size≤60)=false:=decide_eq_false (by omega);clear c1;obtain rfl:=Option.some.inj H;go_enter Tryz.func79,Tryz.ntmps79
  go_wp2
  go_ret
  exact⟨q11_,q2_⟩
def strconv_Itoa.f(a:Int):Option ByteArray:=if -9223372036854775808≤a∧a≤9223372036854775807 then some ⟨(Go.Lib.itoa a).toArray⟩else none
theorem strconv_Itoa.calls(a0:Int)(r:ByteArray)(w:World)(h:strconv_Itoa.f a0=some r)(hG:GOK w):
  Calls Tryz.prog 124 #[.int .i64 a0] w fun e w'=>e= .returned (.string r)∧Below w.heap.size w w':=by
 unfold strconv_Itoa.f at h
 split at h
 ·rename_i hs
  obtain rfl:=Option.some.inj h;exact(Go.Proofs.YtmojemogpelpnaaGreatDoor.Shelf.Tryz.strconv_Itoa a0 hs.1 hs.2 w hG.pow10).mono fun e w' ⟨he,k,os,hw⟩=>⟨he,by subst hw;exact Go.Lib.below_grow _ w (Nat.le_refl _) k os⟩
 ·cases h
def impl_NumText.f(a:Int):Option (ByteArray):=(strconv_Itoa.f (mx a 0)).bind fun b=>(some b)
theorem impl_NumText.calls(a0:Int)(r:ByteArray)(w:World)(h:impl_NumText.f a0=some r)(hG:GOK w):
  Calls Tryz.prog 117 #[.int .i64 a0] w fun e w'=>e= .returned (.string r)∧Below w.heap.size w w':=by
 have HB:=aK (Below.refl w.heap.size w);have H:((strconv_Itoa.f (mx a0 0)).bind fun t1=>(some t1))=some r:=h;clear h;obtain⟨ji2,hji2⟩:∃j_:Int,(mx a0 0)=j_:=⟨_,rfl⟩;replace H:((strconv_Itoa.f (ji2)).bind fun t1=>(some t1))=some r:=by first|(rw[hji2]at H;exact H)|(simp only[hji2]at H⊢;exact H)
 (try(have hji2l:0≤ji2:=by(rw[←hji2];unfold mx;(repeat' split)<;>omega)));(try(have hji2m:0≤ji2:=by omega));have hji2_:(if a0<0 then 0 else a0)=ji2:=hji2;replace H:=oB H;obtain⟨t1,A1,H⟩:=H;(try dsimp only at H);obtain rfl:=Option.some.inj H;go_enter Tryz.func117,Tryz.ntmps117
 go_wp2_with (first|((with_reducible refine gate_callee (f:=124) rfl ?_);refine goesL_ (some 5) rfl rfl Tryz.func124 (by kernel_rfl) rfl #[.int .i64 ji2] rfl q151_ ?_;(with_reducible refine(strconv_Itoa.calls ji2 t1 _ A1.1 ?side99).mono ?_);(case side99=>exact q29_);rintro e w1 ⟨rfl,hb⟩;refine⟨_,rfl,?_⟩;replace HB:=aK (below_step q2_ hb);clear hb))
 go_ret
 exact⟨q133_,q2_⟩
theorem impl_ParseNum.atoi(s:ByteArray)(hs:s.size≤281474976710656)(w:World)(hG:GOK w):
  Calls Tryz.prog 116 #[.string s] w fun e w'=>(∃z x,e= .returned (.tuple #[.int .i64 z,x])∧((Go.Lib.atoiAll s.data.toList= .ok z∧x= .nilIface)∨((∀v,Go.Lib.atoiAll s.data.toList≠ .ok v)∧∃N,x= .iface 145 (.pointer (some ⟨N,0,none⟩)))))∧Below w.heap.size w w':=by
 cases hat:Go.Lib.atoiAll s.data.toList with
 |ok v=>
  refine(Go.Proofs.YtmojemogpelpnaaGreatDoor.Shelf.Tryz.strconv_Atoi_ok s (by omega) v hat w).mono ?_;rintro e w' ⟨rfl,hw⟩;refine⟨⟨v,_,rfl,.inl ⟨rfl,rfl⟩⟩,?_⟩;rcases hw with rfl|⟨t,rfl⟩
  ·exact Below.refl _ _
  ·exact Go.Lib.bytesWorld_below _ _ _
 |range=>
  obtain⟨tp,p,hv⟩:=hG.errr;refine(Go.Proofs.Any.strconv_Atoi_range_var Go.Proofs.YtmojemogpelpnaaGreatDoor.Shelf.Tryz.laysC172 s hs hat tp p w hv).mono ?_;rintro e w' ⟨N,rfl,_,_,hb⟩;exact⟨⟨_,_,rfl,.inr ⟨fun v h=>(by cases h),N,rfl⟩⟩,hb⟩
 |_=>
  obtain⟨tp,p,hv⟩:=hG.errs;refine(Go.Proofs.Any.strconv_Atoi_syntax_var Go.Proofs.YtmojemogpelpnaaGreatDoor.Shelf.Tryz.laysC172 s hs hat tp p w hv).mono ?_;rintro e w' ⟨N,rfl,_,_,hb⟩;exact⟨⟨_,_,rfl,.inr ⟨fun v h=>(by cases h),N,rfl⟩⟩,hb⟩
def impl_ParseNum.f(a:ByteArray)(b:Int):Option (Int×Bool):=
 if a.size≤281474976710656 then
  match Go.Lib.atoiAll a.data.toList with
  | .ok v=>if v<0 then some (0,false)else if b<v then some (0,false)else if 7<a.size then some (0,false)else(impl_NumText.f v).bind fun t=>if t.toList=a.toList then some (v,true)else some (0,false)
  |_=>some (0,false)
 else none
theorem impl_ParseNum.calls(a0:ByteArray)(a1:Int)(r1:Int)(r2:Bool)(w:World)(h:impl_ParseNum.f a0 a1=some (r1,r2))(hG:GOK w):
  Calls Tryz.prog 101 #[.string a0,.int .i64 a1] w fun e w'=>e= .returned (.tuple #[.int .i64 r1,.bool r2])∧Below w.heap.size w w':=by
 unfold impl_ParseNum.f at h
 split at h
 ·rename_i hs
  have hA:=impl_ParseNum.atoi a0 hs w hG;go_enter Tryz.func101,Tryz.ntmps101
  go_wp2_with (go_at_call 116;refine hA.mono ?_)
  rintro e w1 ⟨⟨z,x,rfl,hx⟩,HB⟩;rcases hx with⟨hat,rfl⟩|⟨hno,N,rfl⟩
  ·rw[hat]at h;simp only[]at h;clear hA hat;by_cases c1:z<0
   ·rw[if_pos c1]at h;have c1b:=decide_eq_true c1;clear c1;obtain⟨rfl,rfl⟩:=Prod.mk.inj (Option.some.inj h);go_wp2
    go_ret2
    exact⟨rfl,HB⟩
   rw[if_neg c1]at h;have c1b:=decide_eq_false c1;by_cases c2:a1<z
   ·rw[if_pos c2]at h;have c2b:=decide_eq_true c2;clear c1 c2;obtain⟨rfl,rfl⟩:=Prod.mk.inj (Option.some.inj h);go_wp2
    go_ret2
    exact⟨rfl,HB⟩
   rw[if_neg c2]at h;have c2b:=decide_eq_false c2;by_cases c3:7<a0.size
   ·rw[if_pos c3]at h;have c3b:decide ((7:Int)<(a0.size:Int))=true:=decide_eq_true (by omega);clear c1 c2 c3;obtain⟨rfl,rfl⟩:=Prod.mk.inj (Option.some.inj h);go_wp2
    go_ret2
    exact⟨rfl,HB⟩
   rw[if_neg c3]at h;have c3b:decide ((7:Int)<(a0.size:Int))=false:=decide_eq_false (by omega);clear c1 c2 c3;obtain⟨t,ht,h⟩:=Option.bind_eq_some_iff.1 h;have hN:=fun W (hW:GOK W)=>impl_NumText.calls z t W ht hW
   clear ht;by_cases c4:t.toList=a0.toList
   ·rw[if_pos c4]at h;have c4b0:=beq_iff_eq.mpr c4;have c4b1:(t.toList !=a0.toList)=false:=bne_eq_false_iff_eq.mpr c4;clear c4;obtain⟨rfl,rfl⟩:=Prod.mk.inj (Option.some.inj h);go_wp2_with (go_at_call 117;refine(hN _ (GOK_below hG HB)).mono ?_;rintro e w2 ⟨rfl,hb⟩)
    go_ret2
    exact⟨rfl,below_step HB hb⟩
   ·rw[if_neg c4]at h;have c4b0:=beq_eq_false_iff_ne.mpr c4;have c4b1:(t.toList !=a0.toList)=true:=bne_iff_ne.mpr c4;clear c4;obtain⟨rfl,rfl⟩:=Prod.mk.inj (Option.some.inj h);go_wp2_with (go_at_call 117;refine(hN _ (GOK_below hG HB)).mono ?_;rintro e w2 ⟨rfl,hb⟩)
    go_ret2
    exact⟨rfl,below_step HB hb⟩
  ·have h2:some ((0:Int),false)=some (r1,r2):=by
    split at h
    ·rename_i v hv;exact absurd hv (hno v)
    ·exact h
   obtain⟨rfl,rfl⟩:=Prod.mk.inj (Option.some.inj h2);clear h h2 hno hA;go_wp2
   go_ret2
   exact⟨rfl,HB⟩
 ·cases h
def KeptG(w W:World)(g:Nat)(TS:List Nat):Prop:=w.heap.size≤W.heap.size∧∀k,k<w.heap.size→k≠g→(∀cells t f,w.heap[k]? =some (.cells cells t f)→t∉TS)→W.heap[k]? =w.heap[k]?
theorem KeptG.refl(w:World)(g:Nat)(TS:List Nat):KeptG w w g TS:=⟨Nat.le_refl _,fun _ _ _ _=>rfl⟩
theorem KeptG.size{w W:World}{g:Nat}{TS:List Nat}(h:KeptG w W g TS):w.heap.size≤W.heap.size:=h.1
theorem KeptG.of_below{w W:World}(h:Below w.heap.size w W)(g:Nat)(TS:List Nat):KeptG w W g TS:=⟨h.size,fun k hk _ _=>h.block k hk⟩
theorem KeptG.of_keep{w W:World}{g:Nat}(h:KeepBut w W g none)(TS:List Nat):KeptG w W g TS:=⟨h.1,fun k hk hne _=>h.2 k hk hne (by simp)⟩
theorem KeptG.then_{w W W2:World}{g:Nat}{TS:List Nat}(h:KeptG w W g TS)(k:KeptG W W2 g TS):KeptG w W2 g TS:=
 ⟨Nat.le_trans h.1 k.1,fun i hi hn hT=>(k.2 i (Nat.lt_of_lt_of_le hi h.1) hn (fun cells t f hc=>hT cells t f ((h.2 i hi hn hT).symm.trans hc))).trans (h.2 i hi hn hT)⟩
theorem KeptG.below{w W W2:World}{g:Nat}{TS:List Nat}(h:KeptG w W g TS)(k:Below W.heap.size W W2):KeptG w W2 g TS:=h.then_ (KeptG.of_below k g TS)
theorem KeptG.alloc{w W:World}{g:Nat}{TS:List Nat}(h:KeptG w W g TS)(o:Obj):KeptG w (W.alloc o) g TS:=h.below (aB_ (Below.refl _ _) o)
theorem KeptG.drew{w W:World}{g:Nat}{TS:List Nat}(h:KeptG w W g TS):KeptG w W.drew g TS:=h
theorem KeptG.drewN{w W:World}{g:Nat}{TS:List Nat}(h:KeptG w W g TS)(m:Nat):KeptG w (W.drewN m) g TS:=h
theorem KeptG.set_{w W:World}{g:Nat}{TS:List Nat}(h:KeptG w W g TS)(j:Nat)(u:Value):KeptG w (W.setCell ⟨g,j,none⟩ u) g TS:=
 h.then_ ⟨by simp[World.setCell],fun i _ hn _=>Below.heap_setCell W ⟨g,j,none⟩ u i hn⟩
theorem KeptG.far{w W:World}{g:Nat}{TS:List Nat}(h:KeptG w W g TS){p:Addr}(hp:w.heap.size≤p.block)(u:Value):KeptG w (W.setCell p u) g TS:=
 ⟨Nat.le_trans h.1 (by simp[World.setCell]),fun i hi hn hT=>(Below.heap_setCell W p u i (by omega)).trans (h.2 i hi hn hT)⟩
theorem KeptG.grown{w W W2:World}{g:Nat}{TS:List Nat}{v:Value}{t:Nat}(h:KeptG w W g TS)(hg:W.grownBy W2 v.ownBlock)(hv:∀k,v.ownBlock=some k→∃cells,HasRow W k cells t)(ht:t∈TS):KeptG w W2 g TS:=
 h.then_ ⟨hg.size,fun i hi _ hT=>hg.block i hi (fun he=>by obtain⟨cells,fz,hc,_⟩:=hv i he.symm;exact hT _ _ _ hc ht)⟩
theorem KeptG.blk{w W:World}{g g' t:Nat}{cs:Array Value}{f:Nat×Nat}{TS:List Nat}(hk:KeptG w W g TS)(hb:w.heap[g']? =some (.cells cs t f))(hg:g'≠g)(ht:t∉TS):W.heap[g']? =some (.cells cs t f):=
 (hk.2 g' (blk_lt hb) hg (fun cells t2 f2 hc=>by rw[hb]at hc;injection hc with hc;injection hc with _ h2 _;subst h2;exact ht)).trans hb
theorem R_keepG{α:Type}{d:Kd α}{e base g:Nat}{ok:Nat→Prop}{w W:World}{v:Value}{xs:List α}{TS:List Nat}(h:d.R e w base ok v xs)(hk:KeptG w W g TS)(hok:∀k,ok k→k≠g)(ht:∀q,q∈e::d.E→q∉TS):d.R e W base ok v xs:=
 Kd.R_mono (Kd.R_move (Kd.R_bound h) (fun k hk2=>by
  obtain⟨h1,_,hlt,q,hq,cells,fz,hc,_⟩:=hk2;exact hk.2 k hlt (hok k h1) (fun c2 t2 f2 h2=>by rw[hc]at h2;injection h2 with h2;injection h2 with _ h3 _;subst h3;exact ht q hq))) (fun _ hk2=>hk2.1)
def TypB(W:World)(b t:Nat):Prop:=∃cs,W.heap[b]? =some (.cells cs t (0,0))
theorem TypB.of{W:World}{b t:Nat}{cs:Array Value}(h:W.heap[b]? =some (.cells cs t (0,0))):TypB W b t:=⟨_,h⟩
theorem TypB.alloc{W:World}{b t:Nat}(h:TypB W b t)(o:Obj):TypB (W.alloc o) b t:=h.elim fun _ h=>⟨_,bA_ h o⟩
theorem TypB.drewN{W:World}{b t:Nat}(h:TypB W b t)(m:Nat):TypB (W.drewN m) b t:=h.elim fun _ h=>⟨_,bN_ h m⟩
theorem TypB.drew{W:World}{b t:Nat}(h:TypB W b t):TypB W.drew b t:=h.elim fun _ h=>⟨_,bD_ h⟩
theorem TypB.set{W:World}{b t:Nat}(h:TypB W b t)(a j:Nat)(u:Value):TypB (W.setCell ⟨a,j,none⟩ u) b t:=by
 obtain⟨cs,h⟩:=h;by_cases e:b=a
 ·subst e;exact⟨_,by simpa using blk_set h j u⟩
 ·exact⟨_,(Below.heap_setCell W ⟨a,j,none⟩ u b e).trans h⟩
def IsS72(w0 W:World)(g:Nat)(f0:ByteArray)(f1:ByteArray)(f2:List (S83))(f3:ByteArray)(f4:ByteArray)(f5:Bool)(f6:Int)(f7:Bool)(f8:Bool):Prop:=∃A2 c2,W.heap[g]? =some (.cells #[.string f0,.string f1,.slice A2 f2.length c2,.string f3,.string f4,.bool f5,.int .i64 f6,.bool f7,.bool f8] 72 (0,0))∧w0.heap.size≤g∧Kd.R k83 83 W w0.heap.size (fun _=>True) (.slice A2 f2.length c2) f2
theorem IsS72.below{w0 W:World}{g:Nat}{f0:ByteArray}{f1:ByteArray}{f2:List (S83)}{f3:ByteArray}{f4:ByteArray}{f5:Bool}{f6:Int}{f7:Bool}{f8:Bool}{W1:World}(h:IsS72 w0 W g f0 f1 f2 f3 f4 f5 f6 f7 f8)(hw:Below W.heap.size W W1):IsS72 w0 W1 g f0 f1 f2 f3 f4 f5 f6 f7 f8:=by
 obtain⟨A2,c2,hb,hg,hr2⟩:=h;exact⟨A2,c2,bB_ hb hw,hg,Kd.R_below hr2 hw⟩
theorem IsS72.alloc{w0 W:World}{g:Nat}{f0:ByteArray}{f1:ByteArray}{f2:List (S83)}{f3:ByteArray}{f4:ByteArray}{f5:Bool}{f6:Int}{f7:Bool}{f8:Bool}(h:IsS72 w0 W g f0 f1 f2 f3 f4 f5 f6 f7 f8)(o:Obj):IsS72 w0 (W.alloc o) g f0 f1 f2 f3 f4 f5 f6 f7 f8:=h.below (aB_ (Below.refl _ _) o)
theorem IsS72.drewN{w0 W:World}{g:Nat}{f0:ByteArray}{f1:ByteArray}{f2:List (S83)}{f3:ByteArray}{f4:ByteArray}{f5:Bool}{f6:Int}{f7:Bool}{f8:Bool}(h:IsS72 w0 W g f0 f1 f2 f3 f4 f5 f6 f7 f8)(m:Nat):IsS72 w0 (W.drewN m) g f0 f1 f2 f3 f4 f5 f6 f7 f8:=h.below (pN_ (Below.refl _ _) m)
theorem IsS72.drew{w0 W:World}{g:Nat}{f0:ByteArray}{f1:ByteArray}{f2:List (S83)}{f3:ByteArray}{f4:ByteArray}{f5:Bool}{f6:Int}{f7:Bool}{f8:Bool}(h:IsS72 w0 W g f0 f1 f2 f3 f4 f5 f6 f7 f8):IsS72 w0 W.drew g f0 f1 f2 f3 f4 f5 f6 f7 f8:=h.below (below_drew (Below.refl _ _))
theorem IsS72.ge{w0 W:World}{g:Nat}{f0:ByteArray}{f1:ByteArray}{f2:List (S83)}{f3:ByteArray}{f4:ByteArray}{f5:Bool}{f6:Int}{f7:Bool}{f8:Bool}(h:IsS72 w0 W g f0 f1 f2 f3 f4 f5 f6 f7 f8):w0.heap.size≤g:=by
 obtain⟨A2,c2,hb,hg,hr2⟩:=h;exact hg
theorem IsS72.apart{w0 W:World}{g:Nat}{f0:ByteArray}{f1:ByteArray}{f2:List (S83)}{f3:ByteArray}{f4:ByteArray}{f5:Bool}{f6:Int}{f7:Bool}{f8:Bool}{α:Type}{d:Kd α}{e:Nat}{base:Nat}{ok:Nat→Prop}{v:Value}{xs:List α}(h:IsS72 w0 W g f0 f1 f2 f3 f4 f5 f6 f7 f8)(ho:d.R e W base ok v xs)(ht:∀q,q∈e::d.E→q≠72):d.R e W base (fun k=>ok k∧k≠g) v xs:=by
 obtain⟨A2,c2,hb,hg,hr2⟩:=h;exact Kd.R_types ho hb ht
theorem IsS72.own_ne{w0 W:World}{g:Nat}{f0:ByteArray}{f1:ByteArray}{f2:List (S83)}{f3:ByteArray}{f4:ByteArray}{f5:Bool}{f6:Int}{f7:Bool}{f8:Bool}{α:Type}{d:Kd α}{e:Nat}{base:Nat}{ok:Nat→Prop}{v:Value}{xs:List α}(h:IsS72 w0 W g f0 f1 f2 f3 f4 f5 f6 f7 f8)(ho:d.R e W base ok v xs)(ht:e≠72):some g≠v.ownBlock:=by
 obtain⟨A2,c2,hb,hg,hr2⟩:=h;exact Kd.R_ne ho hb ht
theorem cellS72_0{W:World}{g:Nat}{A2:Option Addr}{c2:Nat}{f0:ByteArray}{f1:ByteArray}{f2:List (S83)}{f3:ByteArray}{f4:ByteArray}{f5:Bool}{f6:Int}{f7:Bool}{f8:Bool}(h:W.heap[g]? =some (.cells #[.string f0,.string f1,.slice A2 f2.length c2,.string f3,.string f4,.bool f5,.int .i64 f6,.bool f7,.bool f8] 72 (0,0))):W.cell? ⟨g,0,none⟩=some (.string f0):=(bc_ h 0).trans rfl
theorem IsS72.set_0{w0 W:World}{g:Nat}{f0:ByteArray}{f1:ByteArray}{f2:List (S83)}{f3:ByteArray}{f4:ByteArray}{f5:Bool}{f6:Int}{f7:Bool}{f8:Bool}(h:IsS72 w0 W g f0 f1 f2 f3 f4 f5 f6 f7 f8)(x:ByteArray):IsS72 w0 (W.setCell ⟨g,0,none⟩ (.string x)) g x f1 f2 f3 f4 f5 f6 f7 f8:=by
 obtain⟨A2,c2,hb,hg,hr2⟩:=h;exact⟨A2,c2,by simpa using blk_set hb 0 (.string x),hg,Kd.R_set hr2 hb (by decide) _ _⟩
theorem cellS72_1{W:World}{g:Nat}{A2:Option Addr}{c2:Nat}{f0:ByteArray}{f1:ByteArray}{f2:List (S83)}{f3:ByteArray}{f4:ByteArray}{f5:Bool}{f6:Int}{f7:Bool}{f8:Bool}(h:W.heap[g]? =some (.cells #[.string f0,.string f1,.slice A2 f2.length c2,.string f3,.string f4,.bool f5,.int .i64 f6,.bool f7,.bool f8] 72 (0,0))):W.cell? ⟨g,1,none⟩=some (.string f1):=(bc_ h 1).trans rfl
theorem IsS72.set_1{w0 W:World}{g:Nat}{f0:ByteArray}{f1:ByteArray}{f2:List (S83)}{f3:ByteArray}{f4:ByteArray}{f5:Bool}{f6:Int}{f7:Bool}{f8:Bool}(h:IsS72 w0 W g f0 f1 f2 f3 f4 f5 f6 f7 f8)(x:ByteArray):IsS72 w0 (W.setCell ⟨g,1,none⟩ (.string x)) g f0 x f2 f3 f4 f5 f6 f7 f8:=by
 obtain⟨A2,c2,hb,hg,hr2⟩:=h;exact⟨A2,c2,by simpa using blk_set hb 1 (.string x),hg,Kd.R_set hr2 hb (by decide) _ _⟩
def LimS72_2(w0 W:World)(g:Nat)(f0:ByteArray)(f1:ByteArray)(f2:List (S83))(f3:ByteArray)(f4:ByteArray)(f5:Bool)(f6:Int)(f7:Bool)(f8:Bool):Prop:=∃A2 c2,W.heap[g]? =some (.cells #[.string f0,.string f1,.slice A2 f2.length c2,.string f3,.string f4,.bool f5,.int .i64 f6,.bool f7,.bool f8] 72 (0,0))∧w0.heap.size≤g∧True
theorem LimS72_2.ge{w0 W:World}{g:Nat}{f0:ByteArray}{f1:ByteArray}{f2:List (S83)}{f3:ByteArray}{f4:ByteArray}{f5:Bool}{f6:Int}{f7:Bool}{f8:Bool}(h:LimS72_2 w0 W g f0 f1 f2 f3 f4 f5 f6 f7 f8):w0.heap.size≤g:=by
 obtain⟨A2,c2,hb,hg,hr2⟩:=h;exact hg
theorem LimS72_2.drewN{w0 W:World}{g:Nat}{f0:ByteArray}{f1:ByteArray}{f2:List (S83)}{f3:ByteArray}{f4:ByteArray}{f5:Bool}{f6:Int}{f7:Bool}{f8:Bool}(h:LimS72_2 w0 W g f0 f1 f2 f3 f4 f5 f6 f7 f8)(m:Nat):LimS72_2 w0 (W.drewN m) g f0 f1 f2 f3 f4 f5 f6 f7 f8:=by
 obtain⟨A2,c2,hb,hg,hr2⟩:=h;exact⟨A2,c2,bN_ hb m,hg,trivial⟩
theorem IsS72.limb_2{w0 W:World}{g:Nat}{f0:ByteArray}{f1:ByteArray}{f2:List (S83)}{f3:ByteArray}{f4:ByteArray}{f5:Bool}{f6:Int}{f7:Bool}{f8:Bool}{W1:World}{v:Value}(h:IsS72 w0 W g f0 f1 f2 f3 f4 f5 f6 f7 f8)(hw:W.grownBy W1 v.ownBlock)(hv:∀k,v.ownBlock=some k→∃cells,HasRow W k cells 83):LimS72_2 w0 W1 g f0 f1 f2 f3 f4 f5 f6 f7 f8:=by
 obtain⟨A2,c2,hb,hg,hr2⟩:=h;refine⟨A2,c2,blk_grown hb hw (fun e=> ?_),hg,trivial⟩;obtain⟨cells,hc⟩:=hv g e.symm;exact absurd (hc.typ0 hb) (by decide)
theorem IsS72.put_2{w0 W:World}{g:Nat}{f0:ByteArray}{f1:ByteArray}{f2:List (S83)}{f3:ByteArray}{f4:ByteArray}{f5:Bool}{f6:Int}{f7:Bool}{f8:Bool}{v:Value}{x:List (S83)}{base:Nat}{ok:Nat→Prop}(h:LimS72_2 w0 W g f0 f1 f2 f3 f4 f5 f6 f7 f8)(hv:Kd.R k83 83 W base ok v x)(hle:w0.heap.size≤base):IsS72 w0 (W.setCell ⟨g,2,none⟩ v) g f0 f1 x f3 f4 f5 f6 f7 f8:=by
 obtain⟨A2,c2,hb,hg,hr2⟩:=h;obtain⟨A,c,rfl⟩:=Kd.R_slice hv;have hv2:=Kd.R_lower (Kd.R_mono (ok':=fun _=>True) hv (fun _ _=>trivial)) hle;exact⟨A,c,by simpa using blk_set hb 2 (.slice A x.length c),hg,Kd.R_set hv2 hb (by decide) _ _⟩
theorem IsS72.set_3{w0 W:World}{g:Nat}{f0:ByteArray}{f1:ByteArray}{f2:List (S83)}{f3:ByteArray}{f4:ByteArray}{f5:Bool}{f6:Int}{f7:Bool}{f8:Bool}(h:IsS72 w0 W g f0 f1 f2 f3 f4 f5 f6 f7 f8)(x:ByteArray):IsS72 w0 (W.setCell ⟨g,3,none⟩ (.string x)) g f0 f1 f2 x f4 f5 f6 f7 f8:=by
 obtain⟨A2,c2,hb,hg,hr2⟩:=h;exact⟨A2,c2,by simpa using blk_set hb 3 (.string x),hg,Kd.R_set hr2 hb (by decide) _ _⟩
theorem IsS72.set_4{w0 W:World}{g:Nat}{f0:ByteArray}{f1:ByteArray}{f2:List (S83)}{f3:ByteArray}{f4:ByteArray}{f5:Bool}{f6:Int}{f7:Bool}{f8:Bool}(h:IsS72 w0 W g f0 f1 f2 f3 f4 f5 f6 f7 f8)(x:ByteArray):IsS72 w0 (W.setCell ⟨g,4,none⟩ (.string x)) g f0 f1 f2 f3 x f5 f6 f7 f8:=by
 obtain⟨A2,c2,hb,hg,hr2⟩:=h;exact⟨A2,c2,by simpa using blk_set hb 4 (.string x),hg,Kd.R_set hr2 hb (by decide) _ _⟩
theorem IsS72.set_5{w0 W:World}{g:Nat}{f0:ByteArray}{f1:ByteArray}{f2:List (S83)}{f3:ByteArray}{f4:ByteArray}{f5:Bool}{f6:Int}{f7:Bool}{f8:Bool}(h:IsS72 w0 W g f0 f1 f2 f3 f4 f5 f6 f7 f8)(x:Bool):IsS72 w0 (W.setCell ⟨g,5,none⟩ (.bool x)) g f0 f1 f2 f3 f4 x f6 f7 f8:=by
 obtain⟨A2,c2,hb,hg,hr2⟩:=h;exact⟨A2,c2,by simpa using blk_set hb 5 (.bool x),hg,Kd.R_set hr2 hb (by decide) _ _⟩
theorem IsS72.set_6{w0 W:World}{g:Nat}{f0:ByteArray}{f1:ByteArray}{f2:List (S83)}{f3:ByteArray}{f4:ByteArray}{f5:Bool}{f6:Int}{f7:Bool}{f8:Bool}(h:IsS72 w0 W g f0 f1 f2 f3 f4 f5 f6 f7 f8)(x:Int):IsS72 w0 (W.setCell ⟨g,6,none⟩ (.int .i64 x)) g f0 f1 f2 f3 f4 f5 x f7 f8:=by
 obtain⟨A2,c2,hb,hg,hr2⟩:=h;exact⟨A2,c2,by simpa using blk_set hb 6 (.int .i64 x),hg,Kd.R_set hr2 hb (by decide) _ _⟩
theorem IsS72.set_7{w0 W:World}{g:Nat}{f0:ByteArray}{f1:ByteArray}{f2:List (S83)}{f3:ByteArray}{f4:ByteArray}{f5:Bool}{f6:Int}{f7:Bool}{f8:Bool}(h:IsS72 w0 W g f0 f1 f2 f3 f4 f5 f6 f7 f8)(x:Bool):IsS72 w0 (W.setCell ⟨g,7,none⟩ (.bool x)) g f0 f1 f2 f3 f4 f5 f6 x f8:=by
 obtain⟨A2,c2,hb,hg,hr2⟩:=h;exact⟨A2,c2,by simpa using blk_set hb 7 (.bool x),hg,Kd.R_set hr2 hb (by decide) _ _⟩
theorem IsS72.set_8{w0 W:World}{g:Nat}{f0:ByteArray}{f1:ByteArray}{f2:List (S83)}{f3:ByteArray}{f4:ByteArray}{f5:Bool}{f6:Int}{f7:Bool}{f8:Bool}(h:IsS72 w0 W g f0 f1 f2 f3 f4 f5 f6 f7 f8)(x:Bool):IsS72 w0 (W.setCell ⟨g,8,none⟩ (.bool x)) g f0 f1 f2 f3 f4 f5 f6 f7 x:=by
 obtain⟨A2,c2,hb,hg,hr2⟩:=h;exact⟨A2,c2,by simpa using blk_set hb 8 (.bool x),hg,Kd.R_set hr2 hb (by decide) _ _⟩
def impl_reqHead_special.j0:Nat→ByteArray→ByteArray→Bool→ByteArray→ByteArray→List (S83)→ByteArray→ByteArray→Bool→Int→Bool→Bool→Option (ByteArray×ByteArray×(List (S83))×ByteArray×ByteArray×Bool×Int×Bool×Bool)
 |0,_,_,_,_,_,_,_,_,_,_,_,_=>none
 |k+1,a,b,c,d,e,g,h,i,j,m,n,o=>if c=true then(some (d,e,g,h,i,j,m,n,true))else(if a.toList=([116,114,97,110,115,102,101,114,45,101,110,99,111,100,105,110,103]:List UInt8)then(some (d,e,g,h,b,true,m,n,o))else((impl_ParseNum.f b 9999999).bind fun p=>(if o=true then(some (d,e,g,h,i,j,p.1,true,true))else(some (d,e,g,h,i,j,p.1,true,!p.2)))))
def impl_reqHead_special.f(k:Nat)(a:ByteArray)(b:ByteArray)(c:List (S83))(d:ByteArray)(e:ByteArray)(g:Bool)(h:Int)(i:Bool)(j:Bool)(m:ByteArray)(n:ByteArray):Option (ByteArray×ByteArray×(List (S83))×ByteArray×ByteArray×Bool×Int×Bool×Bool):=if g=true then(impl_reqHead_special.j0 k m n true a b c d e g h i j)else(impl_reqHead_special.j0 k m n i a b c d e g h i j)
theorem impl_reqHead_special.calls(k:Nat)(g:Nat)(s0_0:ByteArray)(s0_1:ByteArray)(s0_2:List (S83))(s0_3:ByteArray)(s0_4:ByteArray)(s0_5:Bool)(s0_6:Int)(s0_7:Bool)(s0_8:Bool)(a1:ByteArray)(a2:ByteArray)(r1:ByteArray)(r2:ByteArray)(r3:List (S83))(r4:ByteArray)(r5:ByteArray)(r6:Bool)(r7:Int)(r8:Bool)(r9:Bool)(w0 w:World)(hI:IsS72 w0 w g s0_0 s0_1 s0_2 s0_3 s0_4 s0_5 s0_6 s0_7 s0_8)(hB:Below w0.heap.size w0 w)(h:impl_reqHead_special.f k s0_0 s0_1 s0_2 s0_3 s0_4 s0_5 s0_6 s0_7 s0_8 a1 a2=some (r1,r2,r3,r4,r5,r6,r7,r8,r9))(hG:GOK w0):
  Calls Tryz.prog 80 #[.pointer (some ⟨g,0,none⟩),.string a1,.string a2] w fun e w'=>e= .returned (.tuple #[])∧IsS72 w0 w' g r1 r2 r3 r4 r5 r6 r7 r8 r9∧Below w0.heap.size w0 w'∧KeepBut w w' g none:=by
 have HI0:=aK hI;have HK:=aK (KeepBut.refl w g none);have HL:=aK hB.size;clear hI;have HW0:=aK hB.size;have HB:=aK hB;clear hB;have H:=h;clear h;unfold impl_reqHead_special.f at H
 have HC1:=aK H;clear H;go_enter Tryz.func80,Tryz.ntmps80
 go_upto_region 0 with(fail)
 go_cut [17] (fun v1 wc=>∃(kq:Nat)(x1:Bool),v1= .bool x1∧Aside0 (impl_reqHead_special.j0 kq a1 a2 x1 s0_0 s0_1 s0_2 s0_3 s0_4 s0_5 s0_6 s0_7 s0_8=some (r1,r2,r3,r4,r5,r6,r7,r8,r9))∧Aside0 (kq≤k)∧Aside0 (IsS72 w0 wc g s0_0 s0_1 s0_2 s0_3 s0_4 s0_5 s0_6 s0_7 s0_8)∧Aside0 (KeepBut w wc g none)∧Aside0 (Below w0.heap.size w0 wc))
 case first=>
  have H:=HC1.1;clear HC1;replace H:=iT H;rcases H with⟨rfl,H⟩|⟨rfl,H⟩
  ·have H':=aK H;clear H;obtain⟨ASz1_2,cSz1_2,HGz1,hgz1,HSz1_2⟩:=HI0.1;have hcz1:=cel9 HGz1;clear HGz1 hgz1;go_wp2
   go_meet
   case rel=>exact⟨_,(true),q3_,H',⟨q92_⟩,⟨q18_⟩,⟨q4_⟩,⟨q31_⟩⟩
  ·have H':=aK H;clear H;obtain⟨ASz2_2,cSz2_2,HGz2,hgz2,HSz2_2⟩:=HI0.1;have hcz2:=cel9 HGz2;clear HGz2 hgz2;go_wp2
   go_meet
   case rel=>exact⟨_,(s0_7),q3_,H',⟨q92_⟩,⟨q18_⟩,⟨q4_⟩,⟨q31_⟩⟩
 case rest=>
  clear HC1;(try clear p2);(try clear c1);(try clear hcz1);(try clear hcz2);(try clear hcz1);(try clear hcz2);obtain⟨kq,x1,rfl,HA,HJ1,HI0,HK,HB⟩:=hcut;cases kq with
  |zero=>exact absurd HA.1 (by simp[impl_reqHead_special.j0])
  |succ kj1=>
   have H:=HA.1;clear HA;simp only[impl_reqHead_special.j0]at H;replace H:=iT H;rcases H with⟨rfl,H⟩|⟨rfl,H⟩
   ·simp only[Option.some.injEq,Prod.mk.injEq]at H;obtain⟨rfl,rfl,rfl,rfl,rfl,rfl,rfl,rfl,rfl⟩:=H;obtain⟨ASz3_2,cSz3_2,HGz3,hgz3,HSz3_2⟩:=HI0.1;have hcz3:=cel9 HGz3;clear HGz3 hgz3;go_wp2
    first|go_end0|((try simp only[Exit.inBlock,Exit.then]);refine bodyPost_ret (results_none rfl _ _ _) rfl ?_)
    exact⟨q11_,q18_,q31_,q4_⟩
   ·replace H:=iQ H;rcases H with⟨-,c3b0,c3b1,H⟩|⟨c3,c3b0,c3b1,H⟩
    ·simp only[Option.some.injEq,Prod.mk.injEq]at H;obtain⟨rfl,rfl,rfl,rfl,rfl,rfl,rfl,rfl,rfl⟩:=H;obtain⟨ASz4_2,cSz4_2,HGz4,hgz4,HSz4_2⟩:=HI0.1;have hcz4:=cel9 HGz4;clear HGz4 hgz4;go_wp2
     first|go_end0|((try simp only[Exit.inBlock,Exit.then]);refine bodyPost_ret (results_none rfl _ _ _) rfl ?_)
     exact⟨q11_,q18_,q31_,q4_⟩
    ·replace H:=oB H;obtain⟨⟨t1,t2⟩,A1,H⟩:=H;(try dsimp only at H);replace H:=iT H;rcases H with⟨rfl,H⟩|⟨rfl,H⟩
     ·simp only[Option.some.injEq,Prod.mk.injEq]at H;obtain⟨rfl,rfl,rfl,rfl,rfl,rfl,rfl,rfl,rfl⟩:=H;go_wp2_with (first|((with_reducible refine gate_callee (f:=101) rfl ?_);refine goesL_ (some 32) rfl rfl Tryz.func101 (by kernel_rfl) rfl #[.string a2,.int .i64 9999999] rfl q1_ ?_;(with_reducible refine(impl_ParseNum.calls a2 9999999 t1 t2 _ A1.1 ?side99).mono ?_);(case side99=>exact q29_);rintro e w1 ⟨rfl,hb⟩;refine⟨_,rfl,?_⟩;replace HK:=aK (KeepBut.trans q4_ (KeepBut.of_below hb g none) (.inl rfl));replace HB:=aK (below_step q31_ hb);replace HI0:=aK (IsS72.below q18_ hb);clear hb;obtain⟨ASz5_2,cSz5_2,HGz5,hgz5,HSz5_2⟩:=HI0.1;have hcz5:=cel9 HGz5;clear HGz5 hgz5))
      first|go_end0|((try simp only[Exit.inBlock,Exit.then]);refine bodyPost_ret (results_none rfl _ _ _) rfl ?_)
      exact⟨q11_,q18_,q31_,q4_⟩
     ·simp only[Option.some.injEq,Prod.mk.injEq]at H;obtain⟨rfl,rfl,rfl,rfl,rfl,rfl,rfl,rfl,rfl⟩:=H;go_wp2_with (first|((with_reducible refine gate_callee (f:=101) rfl ?_);refine goesL_ (some 32) rfl rfl Tryz.func101 (by kernel_rfl) rfl #[.string a2,.int .i64 9999999] rfl q1_ ?_;(with_reducible refine(impl_ParseNum.calls a2 9999999 t1 t2 _ A1.1 ?side99).mono ?_);(case side99=>exact q29_);rintro e w2 ⟨rfl,hb⟩;refine⟨_,rfl,?_⟩;replace HK:=aK (KeepBut.trans q4_ (KeepBut.of_below hb g none) (.inl rfl));replace HB:=aK (below_step q31_ hb);replace HI0:=aK (IsS72.below q18_ hb);clear hb;obtain⟨ASz6_2,cSz6_2,HGz6,hgz6,HSz6_2⟩:=HI0.1;have hcz6:=cel9 HGz6;clear HGz6 hgz6))
      first|go_end0|((try simp only[Exit.inBlock,Exit.then]);refine bodyPost_ret (results_none rfl _ _ _) rfl ?_)
      exact⟨q11_,q18_,q31_,q4_⟩
end Go.Proofs.YtmojemogpelpnaaGreatDoor.GFnWires
namespace Go.Proofs.YtmojemogpelpnaaGreatDoor.GFnWires
open Go.RowKit Go.Proofs.YtmojemogpelpnaaGreatDoorW.PrintWords Go.Proofs.YtmojemogpelpnaaGreatDoorW.PrintLast Go.Proofs.YtmojemogpelpnaaGreatDoorW.PrintMore
attribute [local go_sem] max2_int min2_int max_two min_two max_three min_three max_four min_four
set_option linter.unusedVariables false
set_option linter.unusedSimpArgs false
set_option maxRecDepth 100000
set_option maxHeartbeats 8000000
def impl_reqHead_line.j0:Nat→ByteArray→ByteArray→Bool→ByteArray→ByteArray→List (S83)→ByteArray→ByteArray→Bool→Int→Bool→Bool→Option (ByteArray×ByteArray×(List (S83))×ByteArray×ByteArray×Bool×Int×Bool×Bool)
 |0,_,_,_,_,_,_,_,_,_,_,_,_=>none
 |k+1,a,b,c,d,e,g,h,i,j,m,n,o=>if c=true then(some (d,e,g,h,i,j,m,n,true))else(if a.toList=([99,111,110,116,101,110,116,45,108,101,110,103,116,104]:List UInt8)then((impl_reqHead_special.f k d e g h i j m n o a b).bind fun p=>(some (p.1,p.2.1,p.2.2.1,p.2.2.2.1,p.2.2.2.2.1,p.2.2.2.2.2.1,p.2.2.2.2.2.2.1,p.2.2.2.2.2.2.2.1,p.2.2.2.2.2.2.2.2)))else(if a.toList=([116,114,97,110,115,102,101,114,45,101,110,99,111,100,105,110,103]:List UInt8)then((impl_reqHead_special.f k d e g h i j m n o a b).bind fun q=>(some (q.1,q.2.1,q.2.2.1,q.2.2.2.1,q.2.2.2.2.1,q.2.2.2.2.2.1,q.2.2.2.2.2.2.1,q.2.2.2.2.2.2.2.1,q.2.2.2.2.2.2.2.2)))else(if g.length<4398046511104 then(some (d,e,(g++[(⟨a,b⟩:S83)]),h,i,j,m,n,o))else(none))))
def impl_reqHead_line.f(k:Nat)(a:ByteArray)(b:ByteArray)(c:List (S83))(d:ByteArray)(e:ByteArray)(g:Bool)(h:Int)(i:Bool)(j:Bool)(m:ByteArray):Option (ByteArray×ByteArray×(List (S83))×ByteArray×ByteArray×Bool×Int×Bool×Bool):=(strings_Cut.f m (⟨#[58]⟩:BA)).bind fun n=>((impl_Lower.f k n.1).bind fun o=>((impl_Trim.f n.2.1).bind fun p=>(if n.2.2=true then((impl_SmallName.f k o).bind fun q=>(if q=true then((impl_valOk.f k p).bind fun r=>(impl_reqHead_line.j0 k o p (!r) a b c d e g h i j))else(impl_reqHead_line.j0 k o p true a b c d e g h i j)))else(impl_reqHead_line.j0 k o p true a b c d e g h i j))))
theorem impl_reqHead_line.calls(k:Nat)(g:Nat)(s0_0:ByteArray)(s0_1:ByteArray)(s0_2:List (S83))(s0_3:ByteArray)(s0_4:ByteArray)(s0_5:Bool)(s0_6:Int)(s0_7:Bool)(s0_8:Bool)(a1:ByteArray)(r1:ByteArray)(r2:ByteArray)(r3:List (S83))(r4:ByteArray)(r5:ByteArray)(r6:Bool)(r7:Int)(r8:Bool)(r9:Bool)(w0 w:World)(hI:IsS72 w0 w g s0_0 s0_1 s0_2 s0_3 s0_4 s0_5 s0_6 s0_7 s0_8)(hB:Below w0.heap.size w0 w)(h:impl_reqHead_line.f k s0_0 s0_1 s0_2 s0_3 s0_4 s0_5 s0_6 s0_7 s0_8 a1=some (r1,r2,r3,r4,r5,r6,r7,r8,r9))(hG:GOK w0):
  Calls Tryz.prog 54 #[.pointer (some ⟨g,0,none⟩),.string a1] w fun e w'=>e= .returned (.tuple #[])∧IsS72 w0 w' g r1 r2 r3 r4 r5 r6 r7 r8 r9∧Below w0.heap.size w0 w'∧KeptG w w' g [83]:=by
 have hu83:=Tryz.underlying83;have HI0:=aK hI;have HK:=aK (KeptG.refl w g [83]);have HL:=aK hB.size;clear hI;have HW0:=aK hB.size;have HB:=aK hB;clear hB;have H:=h;clear h;unfold impl_reqHead_line.f at H
 replace H:=oB H;obtain⟨⟨t1,t2,t3⟩,A1,H⟩:=H;(try dsimp only at H);replace H:=oB H;obtain⟨t4,A2,H⟩:=H;(try dsimp only at H);replace H:=oB H;obtain⟨t5,A3,H⟩:=H;(try dsimp only at H);have HC1:=aK H;clear H;go_enter Tryz.func54,Tryz.ntmps54
 go_upto_region 3 with(first|((with_reducible refine gate_callee (f:=76) rfl ?_);refine goesL_ (some 9) rfl rfl Tryz.func76 (by kernel_rfl) rfl #[.string a1,.string (⟨#[58]⟩:BA)] rfl q1_ ?_;(with_reducible refine(strings_Cut.calls a1 (⟨#[58]⟩:BA) t1 t2 t3 _ A1.1 ?side99).mono ?_);(case side99=>exact q29_);rintro e w' ⟨rfl,⟨nd,rfl⟩⟩;refine⟨_,rfl,?_⟩)|((with_reducible refine gate_callee (f:=55) rfl ?_);refine goesL_ (some 14) rfl rfl Tryz.func55 (by kernel_rfl) rfl #[.string t1] rfl q1_ ?_;(with_reducible refine(impl_Lower.calls k t1 t4 _ A2.1).mono ?_);rintro e w1 ⟨rfl,hb⟩;refine⟨_,rfl,?_⟩;replace HK:=aK (KeptG.below q15_ hb);replace HB:=aK (below_step q31_ hb);replace HI0:=aK (IsS72.below q18_ hb);clear hb)|((with_reducible refine gate_callee (f:=77) rfl ?_);refine goesL_ (some 16) rfl rfl Tryz.func77 (by kernel_rfl) rfl #[.string t2] rfl q1_ ?_;(with_reducible refine(impl_Trim.calls t2 t5 _ A3.1).mono ?_);rintro e w2 ⟨rfl,hb⟩;refine⟨_,rfl,?_⟩;replace HK:=aK (KeptG.below q15_ hb);replace HB:=aK (below_step q31_ hb);replace HI0:=aK (IsS72.below q18_ hb);clear hb))
 (try simp only[Act.put,sI,sZ,sS]);go_cut [31] (fun v1 wc=>∃(kq:Nat)(x1:Bool),v1= .bool x1∧Aside0 (impl_reqHead_line.j0 kq t4 t5 x1 s0_0 s0_1 s0_2 s0_3 s0_4 s0_5 s0_6 s0_7 s0_8=some (r1,r2,r3,r4,r5,r6,r7,r8,r9))∧Aside0 (kq≤k)∧Aside0 (IsS72 w0 wc g s0_0 s0_1 s0_2 s0_3 s0_4 s0_5 s0_6 s0_7 s0_8)∧Aside0 (KeptG w wc g [83])∧Aside0 (Below w0.heap.size w0 wc))
 case first=>
  have H:=HC1.1;clear HC1;replace H:=iT H;rcases H with⟨rfl,H⟩|⟨rfl,H⟩
  ·replace H:=oB H;obtain⟨t6,A4,H⟩:=H;(try dsimp only at H);replace H:=iT H;rcases H with⟨rfl,H⟩|⟨rfl,H⟩
   ·replace H:=oB H;obtain⟨t7,A5,H⟩:=H;(try dsimp only at H);have H':=aK H;clear H;go_wp2_with (first|(go_at_call 78;(with_reducible refine(impl_SmallName.calls k t4 true _ A4.1).mono ?_);rintro e w' ⟨rfl,⟨nd,rfl⟩⟩)|(go_at_call 79;(with_reducible refine(impl_valOk.calls k t5 t7 _ A5.1).mono ?_);rintro e w3 ⟨rfl,hb⟩;replace HK:=aK (KeptG.below q15_ hb);replace HB:=aK (below_step q31_ hb);replace HI0:=aK (IsS72.below q18_ hb);clear hb))
    go_meet
    case rel=>exact⟨_,(!t7),q3_,H',⟨q92_⟩,⟨q18_⟩,⟨q15_⟩,⟨q31_⟩⟩
   ·have H':=aK H;clear H;go_wp2_with (first|(go_at_call 78;(with_reducible refine(impl_SmallName.calls k t4 false _ A4.1).mono ?_);rintro e w' ⟨rfl,⟨nd,rfl⟩⟩))
    go_meet
    case rel=>exact⟨_,(true),q3_,H',⟨q92_⟩,⟨q18_⟩,⟨q15_⟩,⟨q31_⟩⟩
  ·have H':=aK H;clear H;go_wp2
   go_meet
   case rel=>exact⟨_,(true),q3_,H',⟨q92_⟩,⟨q18_⟩,⟨q15_⟩,⟨q31_⟩⟩
 case rest=>
  clear HC1;(try clear c3);(try clear p2);(try clear c4);(try clear c5);(try clear c1);(try clear c2);obtain⟨kq,x1,rfl,HA,HJ1,HI0,HK,HB⟩:=hcut;cases kq with
  |zero=>exact absurd HA.1 (by simp[impl_reqHead_line.j0])
  |succ kj1=>
   have H:=HA.1;clear HA;simp only[impl_reqHead_line.j0]at H;replace H:=iT H;rcases H with⟨rfl,H⟩|⟨rfl,H⟩
   ·simp only[Option.some.injEq,Prod.mk.injEq]at H;obtain⟨rfl,rfl,rfl,rfl,rfl,rfl,rfl,rfl,rfl⟩:=H;obtain⟨ASz1_2,cSz1_2,HGz1,hgz1,HSz1_2⟩:=HI0.1;have hcz1:=cel9 HGz1;clear HGz1 hgz1;go_wp2
    first|go_end0|((try simp only[Exit.inBlock,Exit.then]);refine bodyPost_ret (results_none rfl _ _ _) rfl ?_)
    exact⟨q11_,q18_,q31_,q15_⟩
   ·replace H:=iQ H;rcases H with⟨-,c7b0,c7b1,H⟩|⟨c7,c7b0,c7b1,H⟩
    ·replace H:=oB H;obtain⟨⟨t8,t9,t10,t11,t12,t13,t14,t15,t16⟩,A6,H⟩:=H;(try dsimp only at H);simp only[Option.some.injEq,Prod.mk.injEq]at H;obtain⟨rfl,rfl,rfl,rfl,rfl,rfl,rfl,rfl,rfl⟩:=H;go_wp2_with (first|((with_reducible refine gate_callee (f:=80) rfl ?_);refine goesL_ (some 57) rfl rfl Tryz.func80 (by kernel_rfl) rfl #[.pointer (some ⟨g,0,none⟩),.string t4,.string t5] rfl q1_ ?_;(with_reducible refine(impl_reqHead_special.calls kj1 g s0_0 s0_1 s0_2 s0_3 s0_4 s0_5 s0_6 s0_7 s0_8 t4 t5 t8 t9 t10 t11 t12 t13 t14 t15 t16 w0 _ ?side1 ?side2 A6.1 ?side99).mono ?_);(case side1=>exact q18_);(case side2=>exact q31_);(case side99=>exact q29_);rintro e w4 ⟨rfl,hi,hb,hk⟩;refine⟨_,rfl,?_⟩;replace HK:=aK (KeptG.then_ q15_ (KeptG.of_keep hk [83]));replace HB:=aK (hb);replace HI0:=aK (hi);clear hb hk hi))
     first|go_end0|((try simp only[Exit.inBlock,Exit.then]);refine bodyPost_ret (results_none rfl _ _ _) rfl ?_)
     exact⟨q11_,q18_,q31_,q15_⟩
    ·replace H:=iQ H;rcases H with⟨-,c8b0,c8b1,H⟩|⟨c8,c8b0,c8b1,H⟩
     ·replace H:=oB H;obtain⟨⟨t17,t18,t19,t20,t21,t22,t23,t24,t25⟩,A7,H⟩:=H;(try dsimp only at H);simp only[Option.some.injEq,Prod.mk.injEq]at H;obtain⟨rfl,rfl,rfl,rfl,rfl,rfl,rfl,rfl,rfl⟩:=H;go_wp2_with (first|((with_reducible refine gate_callee (f:=80) rfl ?_);refine goesL_ (some 57) rfl rfl Tryz.func80 (by kernel_rfl) rfl #[.pointer (some ⟨g,0,none⟩),.string t4,.string t5] rfl q1_ ?_;(with_reducible refine(impl_reqHead_special.calls kj1 g s0_0 s0_1 s0_2 s0_3 s0_4 s0_5 s0_6 s0_7 s0_8 t4 t5 t17 t18 t19 t20 t21 t22 t23 t24 t25 w0 _ ?side1 ?side2 A7.1 ?side99).mono ?_);(case side1=>exact q18_);(case side2=>exact q31_);(case side99=>exact q29_);rintro e w5 ⟨rfl,hi,hb,hk⟩;refine⟨_,rfl,?_⟩;replace HK:=aK (KeptG.then_ q15_ (KeptG.of_keep hk [83]));replace HB:=aK (hb);replace HI0:=aK (hi);clear hb hk hi))
      first|go_end0|((try simp only[Exit.inBlock,Exit.then]);refine bodyPost_ret (results_none rfl _ _ _) rfl ?_)
      exact⟨q11_,q18_,q31_,q15_⟩
     ·replace H:=iL H;obtain⟨LMc9,H⟩:=H;(first|(with_reducible replace H:=oS H;obtain⟨y1,Ny1,H⟩:=H)|(generalize hy_:(s0_2++[(⟨t4,t5⟩:S83)]:List (S83))=y1 at H;have Ny1:=aK hy_.symm;clear hy_));(try dsimp only at H);simp only[Option.some.injEq,Prod.mk.injEq]at H;obtain⟨rfl,rfl,rfl,rfl,rfl,rfl,rfl,rfl,rfl⟩:=H;obtain⟨ASz2_2,cSz2_2,HGz2,hgz2,HSz2_2⟩:=HI0.1;have hcz2:=cel9 HGz2;clear HGz2 hgz2;go_wp2_with (first|((with_reducible refine gate_builtin (b:= .append) (xs:= #[.tmp 22,.tmp 26]) rfl ?_);at_builtin;refine Kd.R_append k83 (w0:=w0) w0.heap.size rfl (.tmp 22) (.tmp 26) 48 83 (.agg #[(.string ⟨#[]⟩),(.string ⟨#[]⟩)]) 32 rfl Tryz.underlying48 info83 rfl (by decide) (by omega) (.slice ASz2_2 s0_2.length cSz2_2) s0_2 (⟨t4,t5⟩:S83) [.string t4,.string t5] (fun _=>True) (fun _=>False) rfl rfl ?aP (fun _ hk=>hk.elim) ?aF ?aO ?aB ?aS ?aL ?_;(case aP=>exact k83_mkM _ _ _ (⟨t4,t5⟩:S83));(case aF=>exact q84_);(case aO=>exact q206_);(case aB=>exact q31_);(case aS=>exact(below_size q31_));(case aL=>have:=LMc9.1;omega);intro v2 w6 ho hb hg hat;rw[←Ny1.1]at ho;replace HI0:=aK (IsS72.limb_2 q18_ hg (Kd.R_typed (d:=k83) (e:=83) (base:=w0.heap.size) (ok:=fun _=>True) (xs:=s0_2) q206_));replace HK:=aK (KeptG.grown q15_ hg (Kd.R_typed (d:=k83) (e:=83) (base:=w0.heap.size) (ok:=fun _=>True) (xs:=s0_2) q206_) (by decide));replace HB:=aK (hb);have HO1:=aK (ho);clear ho hb hg hat;obtain⟨Ao1,co1,eo1⟩:=Kd.R_slice HO1.1;subst eo1;obtain⟨ASz3_2,cSz3_2,HGz3,hgz3,HSz3_2⟩:=HI0.1;have hcz3:=cel9 HGz3;clear HGz3 hgz3))
      first|go_end0|((try simp only[Exit.inBlock,Exit.then]);refine bodyPost_ret (results_none rfl _ _ _) rfl ?_)
      exact⟨q11_,by repeat(first|(with_reducible first|apply IsS72.alloc|apply IsS72.drewN|apply IsS72.drew)|exact IsS72.put_2 HI0.1 HO1.1 (Nat.le_refl _)),by repeat(first|(with_reducible first|exact HB.1|apply aB_|apply pN_|apply dB_|refine sB_ ?_ (LimS72_2.ge HI0.1))|exact HB.1),q15_⟩
end Go.Proofs.YtmojemogpelpnaaGreatDoor.GFnWires
