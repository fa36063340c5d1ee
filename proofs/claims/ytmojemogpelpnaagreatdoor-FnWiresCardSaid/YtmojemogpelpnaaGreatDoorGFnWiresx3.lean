import Derived.Test.YtmojemogpelpnaaGreatDoorGFnWiresx0
namespace Go.Proofs.YtmojemogpelpnaaGreatDoor.GFnWires
open Go.RowKit Go.Proofs.YtmojemogpelpnaaGreatDoorW.PrintWords Go.Proofs.YtmojemogpelpnaaGreatDoorW.PrintLast Go.Proofs.YtmojemogpelpnaaGreatDoorW.PrintMore
attribute [local go_sem] max2_int min2_int max_two min_two max_three min_three max_four min_four
set_option linter.unusedVariables false
set_option linter.unusedSimpArgs false
set_option maxRecDepth 100000
set_option maxHeartbeats 8000000
def spec_l3HeadsText.l0:Nat→List (S83)→ByteArray→Int→Option (ByteArray)
 |0,_,_,_=>none
 |k+1,a,b,c=>if c<(a.length:Int)then(if 0≤c then(if b.size+((rd_T83 a c).f0).size≤9223372036854775807 then(if(b++((rd_T83 a c).f0)).size+2≤9223372036854775807 then(if((b++((rd_T83 a c).f0))++(⟨#[58,32]⟩:BA)).size+((rd_T83 a c).f1).size≤9223372036854775807 then(if(((b++((rd_T83 a c).f0))++(⟨#[58,32]⟩:BA))++((rd_T83 a c).f1)).size+2≤9223372036854775807 then(spec_l3HeadsText.l0 k a ((((b++((rd_T83 a c).f0))++(⟨#[58,32]⟩:BA))++((rd_T83 a c).f1))++(⟨#[13,10]⟩:BA)) (wrap64 (c+1)))else(none))else(none))else(none))else(none))else(none))else(some b)
def spec_l3HeadsText.f(k:Nat)(l0:List (S83)):Option (ByteArray):=spec_l3HeadsText.l0 k l0 (⟨#[]⟩:BA) 0
theorem spec_l3HeadsText.calls(k:Nat)(A0:Option Addr)(c0:Nat)(l0:List (S83))(r:ByteArray)(w:World)(hr0:Kd.C k83 w A0 l0.length l0)(hc0:l0.length≤c0)(h:spec_l3HeadsText.f k l0=some r):
  Calls Tryz.prog 68 #[.slice A0 l0.length c0] w fun e w'=>e= .returned (.string r)∧Drawn0 w w':=by
 have HR1:=aK hr0;have HC1:=aK hc0;clear hr0 hc0;have H:(spec_l3HeadsText.l0 k l0 (⟨#[]⟩:BA) 0)=some r:=h;clear h;have H':=aK H;clear H;go_enter Tryz.func68,Tryz.ntmps68
 go_wp2
 repeat(go_quiet (fail);try go_wp2)
 go_loopg [3,4] k (fun kq v1 v2 w'=>∃(x1:ByteArray)(x2:Int),v1= .string x1∧v2= .int .i64 x2∧Aside0 (spec_l3HeadsText.l0 kq l0 x1 x2=some r)∧Aside0 (kq≤k)∧Drawn0 w w')
 case atStart=>exact⟨((⟨#[]⟩:BA)),(0),q3_,q3_,H',⟨Nat.le_refl _⟩,q12_⟩
 case round=>
  clear H';obtain⟨x1,x2,rfl,rfl,HA,HK1,⟨m1,rfl⟩⟩:=hrel;cases gk with
  |zero=>exact absurd HA.1 (by simp[spec_l3HeadsText.l0])
  |succ k1=>
   have H:=HA.1;clear HA;simp only[spec_l3HeadsText.l0]at H;replace H:=iD H;rcases H with⟨c1b0,H⟩|⟨c1b0,H⟩
   ·replace H:=iG H;obtain⟨c2b0,H⟩:=H;replace H:=iU H;obtain⟨c3,c3b0,c3b1,H⟩:=H;try have c3b2:(9223372036854775807<x1.size+((rd_T83 l0 x2).f0).size)=False:=eq_false (Nat.not_lt.2 c3)
    replace H:=iU H;obtain⟨c4,c4b0,c4b1,H⟩:=H;try have c4b2:(9223372036854775807<(x1++((rd_T83 l0 x2).f0)).size+2)=False:=eq_false (Nat.not_lt.2 c4)
    have c4s:x1.size+((rd_T83 l0 x2).f0).size+2≤9223372036854775807:=q221_;have c4s0:=eq_true c4s;have c4s1:decide (x1.size+((rd_T83 l0 x2).f0).size+2≤9223372036854775807)=true:=decide_eq_true c4s;have c4s2:(9223372036854775807<x1.size+((rd_T83 l0 x2).f0).size+2)=False:=eq_false (Nat.not_lt.2 c4s);replace H:=iU H;obtain⟨c5,c5b0,c5b1,H⟩:=H;try have c5b2:(9223372036854775807<((x1++((rd_T83 l0 x2).f0))++(⟨#[58,32]⟩:BA)).size+((rd_T83 l0 x2).f1).size)=False:=eq_false (Nat.not_lt.2 c5)
    have c5s:x1.size+((rd_T83 l0 x2).f0).size+2+((rd_T83 l0 x2).f1).size≤9223372036854775807:=(by have h_:=c5;simp only[ByteArray.size_append]at h_;exact h_);have c5s0:=eq_true c5s;have c5s1:decide (x1.size+((rd_T83 l0 x2).f0).size+2+((rd_T83 l0 x2).f1).size≤9223372036854775807)=true:=decide_eq_true c5s;have c5s2:(9223372036854775807<x1.size+((rd_T83 l0 x2).f0).size+2+((rd_T83 l0 x2).f1).size)=False:=eq_false (Nat.not_lt.2 c5s);replace H:=iU H;obtain⟨c6,c6b0,c6b1,H⟩:=H;try have c6b2:(9223372036854775807<(((x1++((rd_T83 l0 x2).f0))++(⟨#[58,32]⟩:BA))++((rd_T83 l0 x2).f1)).size+2)=False:=eq_false (Nat.not_lt.2 c6)
    have c6s:x1.size+((rd_T83 l0 x2).f0).size+2+((rd_T83 l0 x2).f1).size+2≤9223372036854775807:=by have h_:=c6;simp only[ByteArray.size_append]at h_;exact h_
    have c6s0:=eq_true c6s;have c6s1:decide (x1.size+((rd_T83 l0 x2).f0).size+2+((rd_T83 l0 x2).f1).size+2≤9223372036854775807)=true:=decide_eq_true c6s;have c6s2:(9223372036854775807<x1.size+((rd_T83 l0 x2).f0).size+2+((rd_T83 l0 x2).f1).size+2)=False:=eq_false (Nat.not_lt.2 c6s);have H':=aK H;clear H;have p235:0≤(x2:Int):=of_decide_eq_true q6_;have q235:x2<(l0.length:Int):=of_decide_eq_true q6_;obtain⟨ad1,e235,hx235_0,hx235_1⟩:=at_T83 HR1.1 x2 p235 q235;cases e235
    replace p235:=eq_true p235;replace q235:=eq_true q235;have p236:0≤(x2:Int):=of_decide_eq_true q6_;have q236:x2<(l0.length:Int):=of_decide_eq_true q6_;obtain⟨ad2,e236,hx236_0,hx236_1⟩:=at_T83 HR1.1 x2 p236 q236;obtain rfl:ad1=ad2:=(by injection e236);replace p236:=eq_true p236;replace q236:=eq_true q236;go_wp2
    repeat(go_quiet (fail);try go_wp2)
    go_roundg k1
    case measure=>have:=HK1.1;omega
    case rel=>exact⟨((((x1++((rd_T83 l0 x2).f0))++(⟨#[58,32]⟩:BA))++((rd_T83 l0 x2).f1))++(⟨#[13,10]⟩:BA)),(wrap64 (x2+1)),q3_,q3_,H',⟨q81_⟩,q12_⟩
   ·obtain rfl:=Option.some.inj H;go_wp2
    repeat(go_quiet (fail);try go_wp2)
    go_ret
    exact⟨q3_,q12_⟩
def spec_l1In.f(a:Int)(b:Int)(c:Int):Option (Bool):=if a≥b then(some (decide (a≤c)))else(some false)
theorem spec_l1In.calls(a0:Int)(a1:Int)(a2:Int)(r:Bool)(w:World)(h:spec_l1In.f a0 a1 a2=some r):
  Calls Tryz.prog 43 #[.int .i64 a0,.int .i64 a1,.int .i64 a2] w fun e w'=>e= .returned (.bool r)∧Drawn0 w w':=by
 have H:(if a0≥a1 then(some (decide (a0≤a2)))else(some false))=some r:=h;clear h;replace H:=iB H;rcases H with⟨c1,H⟩|⟨c1,H⟩
 ·have c1b0:decide (a1≤a0)=true:=decide_eq_true c1;clear c1;obtain rfl:=Option.some.inj H;go_enter Tryz.func43,Tryz.ntmps43
  go_wp2
  go_ret
  exact⟨q3_,q12_⟩
 ·have c1b0:decide (a1≤a0)=false:=decide_eq_false c1;clear c1;obtain rfl:=Option.some.inj H;go_enter Tryz.func43,Tryz.ntmps43
  go_wp2
  go_ret
  exact⟨q3_,q12_⟩
def spec_l1Large.f(a:Int):Option (Bool):=(spec_l1In.f (wrap64 (a)) 65 90).bind fun b=>(some b)
theorem spec_l1Large.calls(a0:Int)(r:Bool)(w:World)(h:spec_l1Large.f a0=some r):
  Calls Tryz.prog 82 #[.int .u8 a0] w fun e w'=>e= .returned (.bool r)∧Drawn0 w w':=by
 have H:((spec_l1In.f (wrap64 (a0)) 65 90).bind fun t1=>(some t1))=some r:=h;clear h;replace H:=oB H;obtain⟨t1,A1,H⟩:=H;(try dsimp only at H);obtain rfl:=Option.some.inj H;go_enter Tryz.func82,Tryz.ntmps82
 go_wp2_with (first|((with_reducible refine gate_callee (f:=43) rfl ?_);refine goesL_ (some 5) rfl rfl Tryz.func43 (by kernel_rfl) rfl #[.int .i64 (wrap64 (a0)),.int .i64 65,.int .i64 90] rfl q1_ ?_;(with_reducible refine(spec_l1In.calls (wrap64 (a0)) 65 90 t1 _ A1.1).mono ?_);rintro e w' ⟨rfl,⟨nd,rfl⟩⟩;refine⟨_,rfl,?_⟩))
 go_ret
 exact⟨q3_,q12_⟩
def spec_l3Method.l0:Nat→ByteArray→Int→Option (Bool)
 |0,_,_=>none
 |k+1,a,b=>if b<(a.size:Int)then(if 0≤b then((spec_l1Large.f (bt a b)).bind fun c=>(if c=true then(spec_l3Method.l0 k a (wrap64 (b+1)))else(some false)))else(none))else((spec_l1In.f (a.size:Int) 1 9).bind fun d=>(some d))
def spec_l3Method.f(k:Nat)(a:ByteArray):Option (Bool):=spec_l3Method.l0 k a 0
theorem spec_l3Method.calls(k:Nat)(a0:ByteArray)(r:Bool)(w:World)(h:spec_l3Method.f k a0=some r):
  Calls Tryz.prog 60 #[.string a0] w fun e w'=>e= .returned (.bool r)∧Drawn0 w w':=by
 have H:(spec_l3Method.l0 k a0 0)=some r:=h;clear h;have H':=aK H;clear H;go_enter Tryz.func60,Tryz.ntmps60
 go_wp2
 go_loopg [3] k (fun kq v1 w'=>∃(x1:Int),v1= .int .i64 x1∧Aside0 (spec_l3Method.l0 kq a0 x1=some r)∧Aside0 (kq≤k)∧Drawn0 w w')
 case atStart=>exact⟨(0),q3_,H',⟨Nat.le_refl _⟩,q12_⟩
 case round=>
  clear H';obtain⟨x1,rfl,HA,HK1,⟨m1,rfl⟩⟩:=hrel;cases gk with
  |zero=>exact absurd HA.1 (by simp[spec_l3Method.l0])
  |succ k1=>
   have H:=HA.1;clear HA;simp only[spec_l3Method.l0]at H;replace H:=iD H;rcases H with⟨c1b0,H⟩|⟨c1b0,H⟩
   ·replace H:=iG H;obtain⟨c2b0,H⟩:=H;replace H:=oB H;obtain⟨t1,A1,H⟩:=H;(try dsimp only at H);have HC1:=aK H;clear H;have p4:0≤(x1:Int):=of_decide_eq_true q6_;have q4:x1<(a0.size:Int):=of_decide_eq_true q6_;have hx4:=bt_at a0 x1;replace p4:=eq_true p4;replace q4:=eq_true q4;go_upto_if 14 with(first|((with_reducible refine gate_callee (f:=82) rfl ?_);refine goesL_ (some 13) rfl rfl Tryz.func82 (by kernel_rfl) rfl #[.int .u8 (bt a0 x1)] rfl q1_ ?_;(with_reducible refine(spec_l1Large.calls (bt a0 x1) t1 _ A1.1).mono ?_);rintro e w' ⟨rfl,⟨nd,rfl⟩⟩;refine⟨_,rfl,?_⟩))
    (try simp only[Act.put,sI,sZ,sS]);have H:=HC1.1;clear HC1;replace H:=iT H;rcases H with⟨rfl,H⟩|⟨rfl,H⟩
    ·have H':=aK H;clear H;go_wp2
     go_roundg k1
     case measure=>have:=HK1.1;omega
     case rel=>exact⟨(wrap64 (x1+1)),q3_,H',⟨q81_⟩,q12_⟩
    ·obtain rfl:=Option.some.inj H;go_wp2
     go_ret
     exact⟨q3_,q12_⟩
   ·replace H:=oB H;obtain⟨t2,A2,H⟩:=H;(try dsimp only at H);obtain rfl:=Option.some.inj H;go_wp2_with (first|((with_reducible refine gate_callee (f:=43) rfl ?_);refine goesL_ (some 17) rfl rfl Tryz.func43 (by kernel_rfl) rfl #[.int .i64 (a0.size:Int),.int .i64 1,.int .i64 9] rfl q1_ ?_;(with_reducible refine(spec_l1In.calls (a0.size:Int) 1 9 t2 _ A2.1).mono ?_);rintro e w' ⟨rfl,⟨nd,rfl⟩⟩;refine⟨_,rfl,?_⟩))
    go_ret
    exact⟨q3_,q12_⟩
def spec_l3Target.l0:Nat→ByteArray→Int→Option (Bool)
 |0,_,_=>none
 |k+1,a,b=>if b<(a.size:Int)then(if 0≤b then((spec_l1In.f (wrap64 (bt a b)) 33 126).bind fun c=>(if c=true then(spec_l3Target.l0 k a (wrap64 (b+1)))else(some false)))else(none))else((spec_l1In.f (a.size:Int) 1 80).bind fun d=>(some d))
def spec_l3Target.f(k:Nat)(a:ByteArray):Option (Bool):=spec_l3Target.l0 k a 0
theorem spec_l3Target.calls(k:Nat)(a0:ByteArray)(r:Bool)(w:World)(h:spec_l3Target.f k a0=some r):
  Calls Tryz.prog 61 #[.string a0] w fun e w'=>e= .returned (.bool r)∧Drawn0 w w':=by
 have H:(spec_l3Target.l0 k a0 0)=some r:=h;clear h;have H':=aK H;clear H;go_enter Tryz.func61,Tryz.ntmps61
 go_wp2
 go_loopg [3] k (fun kq v1 w'=>∃(x1:Int),v1= .int .i64 x1∧Aside0 (spec_l3Target.l0 kq a0 x1=some r)∧Aside0 (kq≤k)∧Drawn0 w w')
 case atStart=>exact⟨(0),q3_,H',⟨Nat.le_refl _⟩,q12_⟩
 case round=>
  clear H';obtain⟨x1,rfl,HA,HK1,⟨m1,rfl⟩⟩:=hrel;cases gk with
  |zero=>exact absurd HA.1 (by simp[spec_l3Target.l0])
  |succ k1=>
   have H:=HA.1;clear HA;simp only[spec_l3Target.l0]at H;replace H:=iD H;rcases H with⟨c1b0,H⟩|⟨c1b0,H⟩
   ·replace H:=iG H;obtain⟨c2b0,H⟩:=H;replace H:=oB H;obtain⟨t1,A1,H⟩:=H;(try dsimp only at H);have HC1:=aK H;clear H;have p4:0≤(x1:Int):=of_decide_eq_true q6_;have q4:x1<(a0.size:Int):=of_decide_eq_true q6_;have hx4:=bt_at a0 x1;replace p4:=eq_true p4;replace q4:=eq_true q4;go_upto_if 15 with(first|((with_reducible refine gate_callee (f:=43) rfl ?_);refine goesL_ (some 14) rfl rfl Tryz.func43 (by kernel_rfl) rfl #[.int .i64 (wrap64 (bt a0 x1)),.int .i64 33,.int .i64 126] rfl q1_ ?_;(with_reducible refine(spec_l1In.calls (wrap64 (bt a0 x1)) 33 126 t1 _ A1.1).mono ?_);rintro e w' ⟨rfl,⟨nd,rfl⟩⟩;refine⟨_,rfl,?_⟩))
    (try simp only[Act.put,sI,sZ,sS]);have H:=HC1.1;clear HC1;replace H:=iT H;rcases H with⟨rfl,H⟩|⟨rfl,H⟩
    ·have H':=aK H;clear H;go_wp2
     go_roundg k1
     case measure=>have:=HK1.1;omega
     case rel=>exact⟨(wrap64 (x1+1)),q3_,H',⟨q81_⟩,q12_⟩
    ·obtain rfl:=Option.some.inj H;go_wp2
     go_ret
     exact⟨q3_,q12_⟩
   ·replace H:=oB H;obtain⟨t2,A2,H⟩:=H;(try dsimp only at H);obtain rfl:=Option.some.inj H;go_wp2_with (first|((with_reducible refine gate_callee (f:=43) rfl ?_);refine goesL_ (some 18) rfl rfl Tryz.func43 (by kernel_rfl) rfl #[.int .i64 (a0.size:Int),.int .i64 1,.int .i64 80] rfl q1_ ?_;(with_reducible refine(spec_l1In.calls (a0.size:Int) 1 80 t2 _ A2.1).mono ?_);rintro e w' ⟨rfl,⟨nd,rfl⟩⟩;refine⟨_,rfl,?_⟩))
    go_ret
    exact⟨q3_,q12_⟩
def spec_l1Small.f(a:Int):Option (Bool):=(spec_l1In.f (wrap64 (a)) 97 122).bind fun b=>(some b)
theorem spec_l1Small.calls(a0:Int)(r:Bool)(w:World)(h:spec_l1Small.f a0=some r):
  Calls Tryz.prog 84 #[.int .u8 a0] w fun e w'=>e= .returned (.bool r)∧Drawn0 w w':=by
 have H:((spec_l1In.f (wrap64 (a0)) 97 122).bind fun t1=>(some t1))=some r:=h;clear h;replace H:=oB H;obtain⟨t1,A1,H⟩:=H;(try dsimp only at H);obtain rfl:=Option.some.inj H;go_enter Tryz.func84,Tryz.ntmps84
 go_wp2_with (first|((with_reducible refine gate_callee (f:=43) rfl ?_);refine goesL_ (some 5) rfl rfl Tryz.func43 (by kernel_rfl) rfl #[.int .i64 (wrap64 (a0)),.int .i64 97,.int .i64 122] rfl q1_ ?_;(with_reducible refine(spec_l1In.calls (wrap64 (a0)) 97 122 t1 _ A1.1).mono ?_);rintro e w' ⟨rfl,⟨nd,rfl⟩⟩;refine⟨_,rfl,?_⟩))
 go_ret
 exact⟨q3_,q12_⟩
def spec_l1Digit.f(a:Int):Option (Bool):=(spec_l1In.f (wrap64 (a)) 48 57).bind fun b=>(some b)
theorem spec_l1Digit.calls(a0:Int)(r:Bool)(w:World)(h:spec_l1Digit.f a0=some r):
  Calls Tryz.prog 85 #[.int .u8 a0] w fun e w'=>e= .returned (.bool r)∧Drawn0 w w':=by
 have H:((spec_l1In.f (wrap64 (a0)) 48 57).bind fun t1=>(some t1))=some r:=h;clear h;replace H:=oB H;obtain⟨t1,A1,H⟩:=H;(try dsimp only at H);obtain rfl:=Option.some.inj H;go_enter Tryz.func85,Tryz.ntmps85
 go_wp2_with (first|((with_reducible refine gate_callee (f:=43) rfl ?_);refine goesL_ (some 5) rfl rfl Tryz.func43 (by kernel_rfl) rfl #[.int .i64 (wrap64 (a0)),.int .i64 48,.int .i64 57] rfl q1_ ?_;(with_reducible refine(spec_l1In.calls (wrap64 (a0)) 48 57 t1 _ A1.1).mono ?_);rintro e w' ⟨rfl,⟨nd,rfl⟩⟩;refine⟨_,rfl,?_⟩))
 go_ret
 exact⟨q3_,q12_⟩
def spec_SmallName.l0:Nat→ByteArray→Int→Option (Bool)
 |0,_,_=>none
 |k+1,a,b=>if b<(a.size:Int)then(if 0≤b then((spec_l1Small.f (bt a b)).bind fun c=>(if c=true then(spec_SmallName.l0 k a (wrap64 (b+1)))else(if b=0 then(some false)else((spec_l1Digit.f (bt a b)).bind fun d=>(if d=true then(spec_SmallName.l0 k a (wrap64 (b+1)))else(if(bt a b)=45 then(spec_SmallName.l0 k a (wrap64 (b+1)))else(some false)))))))else(none))else((spec_l1In.f (a.size:Int) 1 20).bind fun e=>(some e))
def spec_SmallName.f(k:Nat)(a:ByteArray):Option (Bool):=spec_SmallName.l0 k a 0
theorem spec_SmallName.calls(k:Nat)(a0:ByteArray)(r:Bool)(w:World)(h:spec_SmallName.f k a0=some r):
  Calls Tryz.prog 64 #[.string a0] w fun e w'=>e= .returned (.bool r)∧Drawn0 w w':=by
 have H:(spec_SmallName.l0 k a0 0)=some r:=h;clear h;have H':=aK H;clear H;go_enter Tryz.func64,Tryz.ntmps64
 go_wp2
 go_loopg [3] k (fun kq v1 w'=>∃(x1:Int),v1= .int .i64 x1∧Aside0 (spec_SmallName.l0 kq a0 x1=some r)∧Aside0 (kq≤k)∧Drawn0 w w')
 case atStart=>exact⟨(0),q3_,H',⟨Nat.le_refl _⟩,q12_⟩
 case round=>
  clear H';obtain⟨x1,rfl,HA,HK1,⟨m1,rfl⟩⟩:=hrel;cases gk with
  |zero=>exact absurd HA.1 (by simp[spec_SmallName.l0])
  |succ k1=>
   have H:=HA.1;clear HA;simp only[spec_SmallName.l0]at H;replace H:=iD H;rcases H with⟨c1b0,H⟩|⟨c1b0,H⟩
   ·replace H:=iG H;obtain⟨c2b0,H⟩:=H;replace H:=oB H;obtain⟨t1,A1,H⟩:=H;(try dsimp only at H);replace H:=iT H;rcases H with⟨rfl,H⟩|⟨rfl,H⟩
    ·have H':=aK H;clear H;have p4:0≤(x1:Int):=of_decide_eq_true q6_;have q4:x1<(a0.size:Int):=of_decide_eq_true q6_;have hx4:=bt_at a0 x1;replace p4:=eq_true p4;replace q4:=eq_true q4;go_wp2_with (first|((with_reducible refine gate_callee (f:=84) rfl ?_);refine goesL_ (some 13) rfl rfl Tryz.func84 (by kernel_rfl) rfl #[.int .u8 (bt a0 x1)] rfl q1_ ?_;(with_reducible refine(spec_l1Small.calls (bt a0 x1) true _ A1.1).mono ?_);rintro e w' ⟨rfl,⟨nd,rfl⟩⟩;refine⟨_,rfl,?_⟩))
     go_roundg k1
     case measure=>have:=HK1.1;omega
     case rel=>exact⟨(wrap64 (x1+1)),q3_,H',⟨q81_⟩,q12_⟩
    ·replace H:=iQ H;rcases H with⟨-,c4b0,c4b1,H⟩|⟨c4,c4b0,c4b1,H⟩
     ·obtain rfl:=Option.some.inj H;have p4:0≤(x1:Int):=of_decide_eq_true q6_;have q4:x1<(a0.size:Int):=of_decide_eq_true q6_;have hx4:=bt_at a0 x1;replace p4:=eq_true p4;replace q4:=eq_true q4;go_wp2_with (first|((with_reducible refine gate_callee (f:=84) rfl ?_);refine goesL_ (some 13) rfl rfl Tryz.func84 (by kernel_rfl) rfl #[.int .u8 (bt a0 x1)] rfl q1_ ?_;(with_reducible refine(spec_l1Small.calls (bt a0 x1) false _ A1.1).mono ?_);rintro e w' ⟨rfl,⟨nd,rfl⟩⟩;refine⟨_,rfl,?_⟩))
      go_ret
      exact⟨q3_,q12_⟩
     ·replace H:=oB H;obtain⟨t2,A2,H⟩:=H;(try dsimp only at H);replace H:=iT H;rcases H with⟨rfl,H⟩|⟨rfl,H⟩
      ·have H':=aK H;clear H;have p4:0≤(x1:Int):=of_decide_eq_true q6_;have q4:x1<(a0.size:Int):=of_decide_eq_true q6_;have hx4:=bt_at a0 x1;replace p4:=eq_true p4;replace q4:=eq_true q4;go_wp2_with (first|((with_reducible refine gate_callee (f:=84) rfl ?_);refine goesL_ (some 13) rfl rfl Tryz.func84 (by kernel_rfl) rfl #[.int .u8 (bt a0 x1)] rfl q1_ ?_;(with_reducible refine(spec_l1Small.calls (bt a0 x1) false _ A1.1).mono ?_);rintro e w' ⟨rfl,⟨nd,rfl⟩⟩;refine⟨_,rfl,?_⟩;have p8:0≤(x1:Int):=of_decide_eq_true q6_;have q8:x1<(a0.size:Int):=of_decide_eq_true q6_;have hx8:=bt_at a0 x1;replace p8:=eq_true p8;replace q8:=eq_true q8)|(go_at_call 85;(with_reducible refine(spec_l1Digit.calls (bt a0 x1) true _ A2.1).mono ?_);rintro e w' ⟨rfl,⟨nd,rfl⟩⟩))
       go_roundg k1
       case measure=>have:=HK1.1;omega
       case rel=>exact⟨(wrap64 (x1+1)),q3_,H',⟨q81_⟩,q12_⟩
      ·have HC1:=aK H;clear H;have p4:0≤(x1:Int):=of_decide_eq_true q6_;have q4:x1<(a0.size:Int):=of_decide_eq_true q6_;have hx4:=bt_at a0 x1;replace p4:=eq_true p4;replace q4:=eq_true q4;go_upto_if 31 with(first|((with_reducible refine gate_callee (f:=84) rfl ?_);refine goesL_ (some 13) rfl rfl Tryz.func84 (by kernel_rfl) rfl #[.int .u8 (bt a0 x1)] rfl q1_ ?_;(with_reducible refine(spec_l1Small.calls (bt a0 x1) false _ A1.1).mono ?_);rintro e w' ⟨rfl,⟨nd,rfl⟩⟩;refine⟨_,rfl,?_⟩;have p8:0≤(x1:Int):=of_decide_eq_true q6_;have q8:x1<(a0.size:Int):=of_decide_eq_true q6_;have hx8:=bt_at a0 x1;replace p8:=eq_true p8;replace q8:=eq_true q8)|(go_at_call 85;(with_reducible refine(spec_l1Digit.calls (bt a0 x1) false _ A2.1).mono ?_);rintro e w' ⟨rfl,⟨nd,rfl⟩⟩;have p11:0≤(x1:Int):=of_decide_eq_true q6_;have q11:x1<(a0.size:Int):=of_decide_eq_true q6_;have hx11:=bt_at a0 x1;replace p11:=eq_true p11;replace q11:=eq_true q11))
       (try simp only[Act.put,sI,sZ,sS]);have H:=HC1.1;clear HC1;replace H:=iQ H;rcases H with⟨-,c6b0,c6b1,H⟩|⟨c6,c6b0,c6b1,H⟩
       ·(first|rw[c6b0]|rw[c6i0]|(simp only[i64_w,i32_w];rw[c6b0])|skip);have H':=aK H;clear H;go_wp2
        go_roundg k1
        case measure=>have:=HK1.1;omega
        case rel=>exact⟨(wrap64 (x1+1)),q3_,H',⟨q81_⟩,q12_⟩
       ·(first|rw[c6b0]|rw[c6i0]|(simp only[i64_w,i32_w];rw[c6b0])|skip);obtain rfl:=Option.some.inj H;go_wp2
        go_ret
        exact⟨q3_,q12_⟩
   ·replace H:=oB H;obtain⟨t3,A3,H⟩:=H;(try dsimp only at H);obtain rfl:=Option.some.inj H;go_wp2_with (first|((with_reducible refine gate_callee (f:=43) rfl ?_);refine goesL_ (some 34) rfl rfl Tryz.func43 (by kernel_rfl) rfl #[.int .i64 (a0.size:Int),.int .i64 1,.int .i64 20] rfl q1_ ?_;(with_reducible refine(spec_l1In.calls (a0.size:Int) 1 20 t3 _ A3.1).mono ?_);rintro e w' ⟨rfl,⟨nd,rfl⟩⟩;refine⟨_,rfl,?_⟩))
    go_ret
    exact⟨q3_,q12_⟩
def spec_l1Blank.f(a:Int):Option (Bool):=if a=32 then(some true)else(some (a==9))
theorem spec_l1Blank.calls(a0:Int)(r:Bool)(w:World)(h:spec_l1Blank.f a0=some r):
  Calls Tryz.prog 83 #[.int .u8 a0] w fun e w'=>e= .returned (.bool r)∧Drawn0 w w':=by
 have H:(if a0=32 then(some true)else(some (a0==9)))=some r:=h;clear h;replace H:=iQ H;rcases H with⟨-,c1b0,c1b1,H⟩|⟨c1,c1b0,c1b1,H⟩
 ·obtain rfl:=Option.some.inj H;go_enter Tryz.func83,Tryz.ntmps83
  go_wp2
  go_ret
  exact⟨q3_,q12_⟩
 ·obtain rfl:=Option.some.inj H;go_enter Tryz.func83,Tryz.ntmps83
  go_wp2
  go_ret
  exact⟨q3_,q12_⟩
mutual
def spec_Trim.j1:Nat→ByteArray→Option (ByteArray)
 |0,_=>none
 |k+1,a=>spec_Trim.l1 k a
def spec_Trim.l1:Nat→ByteArray→Option (ByteArray)
 |0,_=>none
 |k+1,a=>if(a.size:Int)>0 then(if 0≤(wrap64 ((a.size:Int)-1))then(if(wrap64 ((a.size:Int)-1))<(a.size:Int)then((spec_l1Blank.f (bt a (wrap64 ((a.size:Int)-1)))).bind fun b=>(if b=true then(if(wrap64 ((a.size:Int)-1))≤(a.size:Int)then(spec_Trim.l1 k (a.extract 0 ((wrap64 ((a.size:Int)-1)):Int).toNat))else(none))else(some a)))else(none))else(none))else(some a)
def spec_Trim.l0:Nat→ByteArray→Option (ByteArray)
 |0,_=>none
 |k+1,a=>if(a.size:Int)>0 then(if 0<(a.size:Int)then((spec_l1Blank.f (bt a 0)).bind fun b=>(if b=true then(if 1≤(a.size:Int)then(spec_Trim.l0 k (a.extract 1 a.size))else(none))else(spec_Trim.j1 k a)))else(none))else(spec_Trim.j1 k a)
end
def spec_Trim.f(k:Nat)(a:ByteArray):Option (ByteArray):=spec_Trim.l0 k a
theorem spec_Trim.calls(k:Nat)(a0:ByteArray)(r:ByteArray)(w:World)(h:spec_Trim.f k a0=some r):
  Calls Tryz.prog 63 #[.string a0] w fun e w'=>e= .returned (.string r)∧Drawn0 w w':=by
 have H:(spec_Trim.l0 k a0)=some r:=h;clear h;have HC1:=aK H;clear H;go_enter Tryz.func63,Tryz.ntmps63
 go_upto_block 0 with(fail)
 go_cut [0] (fun v1 wc=>∃(kq:Nat)(x1:ByteArray),v1= .string x1∧Aside0 (spec_Trim.j1 kq x1=some r)∧Aside0 (kq≤k)∧Drawn0 w wc)
 case first=>
  have H:=HC1.1;clear HC1;have H':=aK H;clear H;go_wp2
  go_loopg [0] k (fun kq v1 w'=>∃(x1:ByteArray),v1= .string x1∧Aside0 (spec_Trim.l0 kq x1=some r)∧Aside0 (kq≤k)∧Drawn0 w w')
  case atStart=>exact⟨(a0),q3_,H',⟨Nat.le_refl _⟩,q12_⟩
  case round=>
   clear H';(try clear p2);obtain⟨x1,rfl,HA,HK1,⟨m1,rfl⟩⟩:=hrel;cases gk with
   |zero=>exact absurd HA.1 (by simp[spec_Trim.l0])
   |succ k1=>
    have H:=HA.1;clear HA;simp only[spec_Trim.l0]at H;replace H:=iB H;rcases H with⟨c1,H⟩|⟨c1,H⟩
    ·have c1b0:decide (0<(x1.size:Int))=true:=decide_eq_true c1;have c1b1:decide (0<x1.size)=true:=decide_eq_true (by omega);clear c1;(first|rw[c1b0]|rw[c1i0]|rw[c1b1]|(simp only[i64_w,i32_w];rw[c1b0])|skip);replace H:=iE H;obtain⟨c2,H⟩:=H;have c2b0:=decide_eq_true c2;have c2b1:decide (0<x1.size)=true:=decide_eq_true (by omega);clear c2;replace H:=oB H;obtain⟨t1,A1,H⟩:=H;(try dsimp only at H);have HC2:=aK H;clear H;have p5:0≤(0:Int):=(by omega);have q5:0<x1.size:=(by have:(0:Int)<(x1.size:Int):=of_decide_eq_true q6_;omega);have hx5:∀h:0<x1.size,((x1[0]'h).toNat:Int)=bt x1 0:=bt_at x1 0;clear p5;have qi5:(0<(x1.size:Int))=True:=eq_true (of_decide_eq_true q6_);replace q5:=eq_true q5;go_upto_if 10 with(first|(go_at_call 83;(with_reducible refine(spec_l1Blank.calls (bt x1 0) t1 _ A1.1).mono ?_);rintro e w' ⟨rfl,⟨nd,rfl⟩⟩))
     (try simp only[Act.put,sI,sZ,sS]);have H:=HC2.1;clear HC2;replace H:=iT H;rcases H with⟨rfl,H⟩|⟨rfl,H⟩
     ·replace H:=iU H;obtain⟨-,c4b0,c4b1,H⟩:=H;have H':=aK H;clear H;go_wp2
      go_roundg k1
      case measure=>have:=HK1.1;omega
      case rel=>exact⟨(x1.extract 1 x1.size),q3_,H',⟨q81_⟩,q12_⟩
     ·have H':=aK H;clear H;go_wp2
      go_meet
      case rel=>exact⟨_,(x1),q3_,H',⟨q65_⟩,q12_⟩
    ·have c1b0:decide (0<(x1.size:Int))=false:=decide_eq_false c1;have c1b1:decide (0<x1.size)=false:=decide_eq_false (by omega);clear c1;(first|rw[c1b0]|rw[c1i0]|rw[c1b1]|(simp only[i64_w,i32_w];rw[c1b0])|skip);have H':=aK H;clear H;go_wp2
     go_meet
     case rel=>exact⟨_,(x1),q3_,H',⟨q65_⟩,q12_⟩
 case rest=>
  clear HC1;(try clear p2);(try clear c1);(try clear c1b0);(try clear c1b1);(try clear c2);(try clear c2b0);(try clear c2b1);(try clear p5);(try clear q5);(try clear hx5);(try clear qi5);(try clear c5);(try clear c3);(try clear c4);(try clear c4b0);(try clear c4b1);(try clear p2);(try clear p5);(try clear q5);obtain⟨kq,x1,rfl,HA,HJ1,⟨mc1,rfl⟩⟩:=hcut;cases kq with
  |zero=>exact absurd HA.1 (by simp[spec_Trim.j1])
  |succ kj1=>
   have H:=HA.1;clear HA;simp only[spec_Trim.j1]at H;have H':=aK H;clear H;go_wp2
   go_loopg [0] kj1 (fun kq v1 w'=>∃(x2:ByteArray),v1= .string x2∧Aside0 (spec_Trim.l1 kq x2=some r)∧Aside0 (kq≤kj1)∧Drawn0 w w')
   case atStart=>exact⟨(x1),q3_,H',⟨Nat.le_refl _⟩,q12_⟩
   case round=>
    clear H';(try clear c6);(try clear p2);(try clear c1);(try clear c1b0);(try clear c1b1);(try clear c2);(try clear c2b0);(try clear c2b1);(try clear p5);(try clear q5);(try clear hx5);(try clear qi5);(try clear c5);(try clear c3);(try clear c4);(try clear c4b0);(try clear c4b1);(try clear p2);(try clear p5);(try clear q5);obtain⟨x2,rfl,HA,HK2,⟨m2,rfl⟩⟩:=hrel;cases gk with
    |zero=>exact absurd HA.1 (by simp[spec_Trim.l1])
    |succ k2=>
     have H:=HA.1;clear HA;simp only[spec_Trim.l1]at H;replace H:=iB H;rcases H with⟨c7,H⟩|⟨c7,H⟩
     ·have c7b0:decide (0<(x2.size:Int))=true:=decide_eq_true c7;have c7b1:decide (0<x2.size)=true:=decide_eq_true (by omega);clear c7;obtain⟨ji11,hji11⟩:∃j_:Int,(wrap64 ((x2.size:Int)-1))=j_:=⟨_,rfl⟩;replace H:(if 0≤(ji11)then(if(ji11)<(x2.size:Int)then((spec_l1Blank.f (bt x2 (ji11))).bind fun t2=>(if t2=true then(if(ji11)≤(x2.size:Int)then(spec_Trim.l1 k2 (x2.extract 0 ((ji11):Int).toNat))else(none))else(some x2)))else(none))else(none))=some r:=by first|(rw[hji11]at H;exact H)|(simp only[hji11]at H⊢;exact H)
      have hji11w:(IntKind.i64.wrap ((x2.size:Int)-1))=ji11:=(i64_w _).trans hji11;replace H:=iG H;obtain⟨c8b0,H⟩:=H;replace H:=iG H;obtain⟨c9b0,H⟩:=H;replace H:=oB H;obtain⟨t2,A2,H⟩:=H;(try dsimp only at H);have HC3:=aK H;clear H;have p14:0≤((ji11):Int):=of_decide_eq_true q6_;have q14:(ji11)<(x2.size:Int):=of_decide_eq_true q6_;have hx14:=bt_at x2 (ji11);replace p14:=eq_true p14;replace q14:=eq_true q14;go_upto_if 23 with(first|(go_at_call 83;(with_reducible refine(spec_l1Blank.calls (bt x2 (ji11)) t2 _ A2.1).mono ?_);rintro e w' ⟨rfl,⟨nd,rfl⟩⟩))
      (try simp only[Act.put,sI,sZ,sS]);have H:=HC3.1;clear HC3;replace H:=iT H;rcases H with⟨rfl,H⟩|⟨rfl,H⟩
      ·have c11b0:=eq_true (of_decide_eq_true q6_:0≤(ji11));replace H:=iU H;obtain⟨-,c12b0,c12b1,H⟩:=H;have H':=aK H;clear H;go_wp2
       go_roundg k2
       case measure=>have:=HJ1.1;have:=HK2.1;omega
       case rel=>exact⟨(x2.extract 0 ((ji11):Int).toNat),q230_,H',⟨by have:=HJ1.1;have:=HK2.1;omega⟩,q12_⟩
      ·obtain rfl:=Option.some.inj H;go_wp2
       go_ret
       exact⟨q230_,q12_⟩
     ·have c7b0:decide (0<(x2.size:Int))=false:=decide_eq_false c7;have c7b1:decide (0<x2.size)=false:=decide_eq_false (by omega);clear c7;obtain rfl:=Option.some.inj H;go_wp2
      go_ret
      exact⟨q3_,q12_⟩
def spec_Plain.l0:Nat→ByteArray→Int→Option (Bool)
 |0,_,_=>none
 |k+1,a,b=>if b<(a.size:Int)then(if 0≤b then((spec_l1In.f (wrap64 (bt a b)) 32 126).bind fun c=>(if c=true then(spec_Plain.l0 k a (wrap64 (b+1)))else(some false)))else(none))else(some true)
def spec_Plain.f(k:Nat)(a:ByteArray):Option (Bool):=spec_Plain.l0 k a 0
theorem spec_Plain.calls(k:Nat)(a0:ByteArray)(r:Bool)(w:World)(h:spec_Plain.f k a0=some r):
  Calls Tryz.prog 86 #[.string a0] w fun e w'=>e= .returned (.bool r)∧Drawn0 w w':=by
 have H:(spec_Plain.l0 k a0 0)=some r:=h;clear h;have H':=aK H;clear H;go_enter Tryz.func86,Tryz.ntmps86
 go_wp2
 go_loopg [3] k (fun kq v1 w'=>∃(x1:Int),v1= .int .i64 x1∧Aside0 (spec_Plain.l0 kq a0 x1=some r)∧Aside0 (kq≤k)∧Drawn0 w w')
 case atStart=>exact⟨(0),q3_,H',⟨Nat.le_refl _⟩,q12_⟩
 case round=>
  clear H';obtain⟨x1,rfl,HA,HK1,⟨m1,rfl⟩⟩:=hrel;cases gk with
  |zero=>exact absurd HA.1 (by simp[spec_Plain.l0])
  |succ k1=>
   have H:=HA.1;clear HA;simp only[spec_Plain.l0]at H;replace H:=iD H;rcases H with⟨c1b0,H⟩|⟨c1b0,H⟩
   ·replace H:=iG H;obtain⟨c2b0,H⟩:=H;replace H:=oB H;obtain⟨t1,A1,H⟩:=H;(try dsimp only at H);have HC1:=aK H;clear H;have p4:0≤(x1:Int):=of_decide_eq_true q6_;have q4:x1<(a0.size:Int):=of_decide_eq_true q6_;have hx4:=bt_at a0 x1;replace p4:=eq_true p4;replace q4:=eq_true q4;go_upto_if 15 with(first|((with_reducible refine gate_callee (f:=43) rfl ?_);refine goesL_ (some 14) rfl rfl Tryz.func43 (by kernel_rfl) rfl #[.int .i64 (wrap64 (bt a0 x1)),.int .i64 32,.int .i64 126] rfl q1_ ?_;(with_reducible refine(spec_l1In.calls (wrap64 (bt a0 x1)) 32 126 t1 _ A1.1).mono ?_);rintro e w' ⟨rfl,⟨nd,rfl⟩⟩;refine⟨_,rfl,?_⟩))
    (try simp only[Act.put,sI,sZ,sS]);have H:=HC1.1;clear HC1;replace H:=iT H;rcases H with⟨rfl,H⟩|⟨rfl,H⟩
    ·have H':=aK H;clear H;go_wp2
     go_roundg k1
     case measure=>have:=HK1.1;omega
     case rel=>exact⟨(wrap64 (x1+1)),q3_,H',⟨q81_⟩,q12_⟩
    ·obtain rfl:=Option.some.inj H;go_wp2
     go_ret
     exact⟨q3_,q12_⟩
   ·obtain rfl:=Option.some.inj H;go_wp2
    go_ret
    exact⟨q3_,q12_⟩
end Go.Proofs.YtmojemogpelpnaaGreatDoor.GFnWires
