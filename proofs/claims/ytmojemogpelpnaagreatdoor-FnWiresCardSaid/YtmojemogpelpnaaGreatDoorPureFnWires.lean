/- However bytes are cut, the same requests are read and the same is left, as the reference has it, for all codes; no condition. -/
import Derived.Test.YtmojemogpelpnaaGreatDoorGFnWiresx23
import Derived.Test.YtmojemogpelpnaaGreatDoorBase
import Derived.Lib.IndexMore
import Derived.Lib.Index
import Derived.Lib.SplitLaws
import Derived.Lib.IndexBytes
import Derived.Lib.ItoaNum
import Derived.Lib.AtoiTie
import Derived.Lib.Bytealg
import Derived.Lib.SlTrimSet
namespace Go.Proofs.YtmojemogpelpnaaGreatDoor.Pure
open Go.RowKit Go.Proofs.YtmojemogpelpnaaGreatDoor.GFnWires Go.Proofs.YtmojemogpelpnaaGreatDoor.Base Go.Proofs.YtmojemogpelpnaaGreatDoorW.PrintWords Go.Proofs.YtmojemogpelpnaaGreatDoorW.PrintLast
set_option linter.unusedVariables false
set_option linter.unusedSimpArgs false
abbrev BA:=ByteArray
def ZX(c:Int):Bool:=decide (32≤c)&&decide (c≤126)
def ZbQ(c:Int):Bool:=decide (97≤c)&&decide (c≤122)
def ZM(c:Int):Bool:=decide (48≤c)&&decide (c≤57)
def Z2(c:Int):Bool:=decide (65≤c)&&decide (c≤90)
theorem Zx(c a b:Int):spec_l1In.f c a b=some (decide (a≤c)&&decide (c≤b)):=by
 unfold spec_l1In.f;split<;>simp[*]<;>omega
theorem ZaR(c:Int)(h:wrap64 c=c):spec_l1Digit.f c=some (ZM c):=by
 unfold spec_l1Digit.f;rw[h,Zx];rfl
theorem ZbR(c:Int):impl_isDigit.f c=some (ZM c):=by
 unfold impl_isDigit.f ZM;split<;>simp[*]<;>omega
def ZZ(c:Int):Int:=if ZM c=true then c-48 else if 97≤c∧c≤102 then c-87 else if 65≤c∧c≤70 then c-55 else -1
theorem ZaS(c:Int): -1≤ZZ c∧ZZ c<16:=by
 unfold ZZ ZM
 split
 ·rename_i h;simp at h;omega
 ·split
  ·omega
  ·split<;>omega
theorem ZdF(c:Int)(h0:0≤c)(h1:c<256):Ev (fun k=>impl_digitOf.f k c) (ZZ c):=by
 have H:∀k,impl_digitOf.f (k+1) c=some (ZZ c):=by
  intro k
  simp only[impl_digitOf.f,ZbR,Option.bind_some,impl_digitOf.j0,ZZ]
  by_cases a1:48≤c<;>by_cases a2:c≤57<;>by_cases a3:97≤c<;>by_cases a4:c≤102<;>by_cases a5:65≤c<;>by_cases a6:c≤70
  all_goals first|(exfalso;omega)|(simp[ZM,a1,a2,a3,a4,a5,a6,ge_iff_le];done)|(simp[ZM,a1,a2,a3,a4,a5,a6,ge_iff_le];omega)
 exact Ev.step H (Ev.now _)
theorem ZdG(c:Int)(h0:0≤c)(h1:c<256):spec_l1HexOf.f c=some (ZZ c):=by
 have hw:wrap64 c=c:=wrap_id (by omega) (by omega)
 simp only[spec_l1HexOf.f,ZaR c hw,Option.bind_some,hw,Zx,ZZ]
 by_cases q:ZM c=true
 ·rw[if_pos q,if_pos q,wrap_id (by omega) (by omega)]
 ·rw[if_neg q,if_neg q]
  by_cases q1:97≤c∧c≤102
  ·rw[if_pos (by simpa using q1),if_pos q1,wrap_id (x:=c-97) (by omega) (by omega),wrap_id (by omega) (by omega)];congr 1;omega
  ·rw[if_neg (by simpa using q1),if_neg q1]
   by_cases q2:65≤c∧c≤70
   ·rw[if_pos (by simpa using q2),if_pos q2,wrap_id (x:=c-65) (by omega) (by omega),wrap_id (by omega) (by omega)];congr 1;omega
   ·rw[if_neg (by simpa using q2),if_neg q2]
def phL:Nat→Int→List Int→Int×Bool
 |i,n,[]=>(n,decide (i≠0))
 |i,n,c::r=>if ZZ c<0 then(0,false)else if i≥4 then(0,false)else phL (i+1) (n*16+ZZ c) r
def Zaq(s:BA):Int×Bool:=phL 0 0 (bytesOf s)
theorem ZcM{i:Nat}(h:i≤4):(16:Int)^i≤65536:=by
 rcases i with _|_|_|_|_|i
 all_goals first|omega|decide
theorem ZbG(s:BA)(hs:s.size≤140737488351232):Ev (fun k=>impl_ParseHex.f k s) (Zaq s):=by
 refine str_loop_st s (fun i n k=>impl_ParseHex.l0 k s n (i:Int)) phL (fun i n r=>i≤4∧0≤n∧n<16^i∧i+r.length=s.size) ?_ ?_ hs 0 0 ⟨by omega,by omega,by simp,by simp[bytesOf_length]⟩
 ·intro i n ⟨_,_,_,hl⟩ hi
  apply ev_succ;simp only[impl_ParseHex.l0,if_neg (show¬(i:Int)<s.size by omega)]
  have:(s.toList !=([]:List UInt8))=decide (i≠0):=by
   rw[Lib.toList_data]
   have h2:=data_length s
   simp at hl
   rw[Bool.eq_iff_iff]
   simp only[bne_iff_ne,ne_eq,decide_eq_true_eq]
   rw[←List.length_eq_zero_iff,h2,hl]
  rw[this];exact Ev.now _
 ·intro i n c r ⟨h4,h0,hn,hl⟩ h hb hi hw hw1 ih
  have hc:=bytesOf_range s c (List.mem_of_mem_drop (by rw[h];simp:c∈(bytesOf s).drop i))
  have hd:=ZaS c
  have h16:=ZcM h4
  apply ev_succ
  simp only[impl_ParseHex.l0,if_pos (show(i:Int)<s.size by omega),if_pos (show(0:Int)≤i by omega),hb,hw1]
  refine Ev.bind (ZdF c hc.1 hc.2) (ev_ite (fun q=> ?_) (fun q=>ev_ite (fun q1=> ?_) (fun q1=> ?_)))
  ·simpa[phL,q]using Ev.now (0,false)
  ·have:i≥4:=by omega
   simpa[phL,q,this]using Ev.now (0,false)
  ·have h5:¬i≥4:=by omega
   rw[wrap_id (x:=16*n) (by omega) (by omega),wrap_id (by omega) (by omega)]
   have:=ih (n*16+ZZ c) ⟨by omega,by omega,by rw[Int.pow_succ];omega,by simp at hl⊢;omega⟩
   simp only[phL,if_neg q,if_neg h5]
   rw[show 16*n+ZZ c=n*16+ZZ c by omega];exact this
theorem Zar(s:BA)(hs:s.size≤140737488351232):Ev (fun k=>spec_ParseHex.f k s) (Zaq s):=by
 refine str_loop_st s (fun i n k=>spec_ParseHex.l0 k s n (i:Int)) phL (fun i n r=>i≤4∧0≤n∧n<16^i∧i+r.length=s.size) ?_ ?_ hs 0 0 ⟨by omega,by omega,by simp,by simp[bytesOf_length]⟩
 ·intro i n ⟨h4,h0,hn,hl⟩ hi
  simp at hl
  apply ev_succ;simp only[spec_ParseHex.l0,if_neg (show¬(i:Int)<s.size by omega)]
  apply ev_succ;simp only[spec_ParseHex.j1,if_neg (show¬false=true by simp),Zx,Option.bind_some,phL]
  by_cases q:i=0
  ·subst q
   have h1:s.size=0:=by omega
   have h2:n=0:=by simp at hn;omega
   subst h2
   simpa[h1]using Ev.now ((0:Int),false)
  ·simp only[decide_eq_true (show(1:Int)≤s.size by omega),decide_eq_true (show(s.size:Int)≤4 by omega),Bool.and_self,if_true]
   simpa[q]using Ev.now (n,true)
 ·intro i n c r ⟨h4,h0,hn,hl⟩ h hb hi hw hw1 ih
  have hc:=bytesOf_range s c (List.mem_of_mem_drop (by rw[h];simp:c∈(bytesOf s).drop i))
  have hd:=ZaS c
  have h16:=ZcM h4
  apply ev_succ
  simp only[spec_ParseHex.l0,if_pos (show(i:Int)<s.size by omega)]
  apply ev_succ
  simp only[spec_ParseHex.j1,decide_eq_true (show(i:Int)<5 by omega),if_true,if_pos (show(i:Int)<s.size by omega),if_pos (show(0:Int)≤i by omega),hb,hw1,ZdG c hc.1 hc.2,Option.bind_some]
  refine ev_ite (fun q=> ?_) (fun q=> ?_)
  ·simpa[phL,q]using Ev.now ((0:Int),false)
  ·rw[wrap_id (x:=n*16) (by omega) (by omega),wrap_id (by omega) (by omega)]
   by_cases q1:i≥4
   ·simp only[phL,if_neg q,if_pos q1]
    have e4:i=4:=by omega
    subst e4
    apply ev_succ
    simp at hl
    have h5:(s.size:Int)≥5:=by omega
    by_cases q2:((4+1:Nat):Int)<s.size
    ·simp only[spec_ParseHex.l0,if_pos q2]
     apply ev_succ
     simp only[spec_ParseHex.j1,decide_eq_false (show¬((4+1:Nat):Int)<5 by decide),if_neg (show¬false=true by simp),Zx,Option.bind_some]
     simpa[decide_eq_false (show¬(s.size:Int)≤4 by omega)]using Ev.now ((0:Int),false)
    ·simp only[spec_ParseHex.l0,if_neg q2]
     apply ev_succ
     simp only[spec_ParseHex.j1,if_neg (show¬false=true by simp),Zx,Option.bind_some]
     simpa[decide_eq_false (show¬(s.size:Int)≤4 by omega)]using Ev.now ((0:Int),false)
   ·simp only[phL,if_neg q,if_neg q1]
    exact ih (n*16+ZZ c) ⟨by omega,by omega,by rw[Int.pow_succ];omega,by simp at hl⊢;omega⟩
theorem Zek{l:List Int}(h:∀x∈l,(Lit.int .u8 x).wf=true):∀x∈l,0≤x∧x<256:=by
 intro x hx
 have:=h x hx
 simp[Lit.wf,IntKind.min,IntKind.max,IntKind.signed,IntKind.bits]at this
 omega
theorem ZcN(c a b:Int):impl_in.f c a b=some (decide (a≤c)&&decide (c≤b)):=by
 unfold impl_in.f;split<;>simp[*]<;>omega
theorem ZaT{a:Int}(h0:0≤a)(h1:a<256)(n:Nat)(hn:n<256):(UInt8.ofNat n==UInt8.ofNat a.toNat)=decide (a=n):=by
 rw[Bool.eq_iff_iff,beq_iff_eq,decide_eq_true_iff]
 constructor
 ·intro h
  have:=congrArg UInt8.toNat h
  simp only[UInt8.toNat_ofNat']at this
  omega
 ·rintro rfl;simp
theorem ZbS(r:List Int):((strOfNums r).toList=([]:List UInt8))↔r=[]:=by
 rw[Lib.toList_data,strOfNums_data];simp
theorem Z7(r:List Int)(hr:∀x∈r,0≤x∧x<256):bytesOf (strOfNums r)=r:=bytesOf_strOfNums r hr
theorem Ze5{r:List Int}{a:Int}{t:List Int}(hr:∀x∈r,0≤x∧x<256)(h:r=a::t):bt (strOfNums r) 0=a:=
 (bt_drop (s:=strOfNums r) (i:=0) (c:=a) (r:=t) (by rw[Z7 r hr,h];rfl)).1
theorem ZcQ(r:List Int)(hr:∀x∈r,0≤x∧x<256)(i j:Nat):(strOfNums r).extract i j=strOfNums ((r.take j).drop i):=by
 apply bytesOf_inj
 rw[bytesOf_extract,Z7 r hr,Z7 _ (fun x hx=>hr x (List.mem_of_mem_take (List.mem_of_mem_drop hx)))]
theorem Zbu(r:List Int)(hr:∀x∈r,0≤x∧x<256)(i:Nat):(strOfNums r).extract i (strOfNums r).size=strOfNums (r.drop i):=by
 rw[ZcQ r hr,strOfNums_size,List.take_length]
def Zd:List Int→Int×List Int
 |[]=>(1,[])
 |a::t=>if a=13 then(match t with|[]=>(1,[])|b::u=>if b=10 then(0,u)else(400,b::u))else(400,a::t)
theorem Zaz{r:List Int}(h:(Zd r).1=0):r=13::10::(Zd r).2:=by
 match r,h with
 |[],h=>simp[Zd]at h
 |[a],h=>by_cases q:a=13<;>simp[Zd,q]at h
 |a::b::u,h=>
  by_cases q:a=13
  ·by_cases q1:b=10
   ·simp[Zd,q,q1]
   ·simp[Zd,q,q1]at h
  ·simp[Zd,q]at h
theorem ZcR(i:Int)(s:BA)(c:Int)(hc:c≠0):Ev (fun k=>impl_chunks_end.l0 k i s c) (s,c):=by
 have hj:Ev (fun k=>impl_chunks_end.j1 k i false s c) (s,c):=by
  apply ev_succ;simp only[impl_chunks_end.j1,Bool.false_eq_true,if_false];exact Ev.now _
 apply ev_succ
 simp only[impl_chunks_end.l0,beq_eq_false_iff_ne.2 hc]
 exact ev_ite (fun _=>hj) (fun _=>hj)
theorem ZeI(s:BA)(c:Int):Ev (fun k=>impl_chunks_end.l0 k 2 s c) (s,c):=by
 apply ev_succ
 simp only[impl_chunks_end.l0,if_neg (show¬(2:Int)<2 by omega)]
 apply ev_succ;simp only[impl_chunks_end.j1,Bool.false_eq_true,if_false];exact Ev.now _
theorem ZcS(i b:Int)(hi0:0≤i)(hi:i<2)(hb:bt (⟨#[13,10]⟩:BA) i=b)(r:List Int)(hr:∀x∈r,0≤x∧x<256)(X:BA×Int)
  (h0:r=[]→X=(strOfNums r,1))(h1:∀a t,r=a::t→a≠b→X=(strOfNums r,400))
  (h2:∀t,r=b::t→Ev (fun k=>impl_chunks_end.l0 k (i+1) (strOfNums t) 0) X):Ev (fun k=>impl_chunks_end.l0 k i (strOfNums r) 0) X:=by
 have hw:wrap64 (i+1)=i+1:=wrap_id (by omega) (by omega)
 apply ev_succ
 simp only[impl_chunks_end.l0,if_pos hi,beq_self_eq_true]
 apply ev_succ
 simp only[impl_chunks_end.j1,if_true,hw,hb,if_pos hi0,if_pos hi]
 refine ev_ite (fun q=> ?_) (fun q=> ?_)
 ·rw[ZbS]at q
  rw[h0 q];exact ZcR _ _ _ (by omega)
 ·rw[ZbS]at q
  match hm:r,q with
  |a::t,_=>
   have hs:(strOfNums (a::t)).size=t.length+1:=by rw[strOfNums_size];rfl
   simp only[hs,if_pos (show(0:Int)<((t.length+1:Nat):Int) by omega),Ze5 hr rfl,if_pos (show(1:Int)≤((t.length+1:Nat):Int) by omega)]
   refine ev_ite (fun q1=> ?_) (fun q1=> ?_)
   ·subst q1
    have e:=Zbu (a::t) hr 1
    rw[hs]at e
    rw[e]
    exact h2 t rfl
   ·rw[h1 a t rfl q1];exact ZcR _ _ _ (by omega)
theorem ZcT(r:List Int)(hr:∀x∈r,0≤x∧x<256):Ev (fun k=>impl_chunks_end.f k (strOfNums r) 0) (strOfNums (Zd r).2,(Zd r).1):=by
 unfold impl_chunks_end.f
 refine ZcS 0 13 (by omega) (by omega) rfl r hr _ (fun h=>by rw[h];rfl) (fun a t h q=>by rw[h];simp[Zd,q]) (fun t h=> ?_)
 have ht:∀x∈t,0≤x∧x<256:=fun x hx=>hr x (by rw[h];simp[hx])
 refine ZcS 1 10 (by omega) (by omega) rfl t ht _ (fun h1=>by rw[h,h1];rfl) (fun a u h1 q=>by rw[h,h1];simp[Zd,q]) (fun u h1=> ?_)
 rw[h,h1]
 exact ZeI _ _
theorem ZaI{l:List Int}{p:Nat}{a:Int}{t:List Int}(h:l.drop p=a::t):rd l (p:Int)=a∧p<l.length∧l.drop (p+1)=t:=by
 obtain⟨h1,h2,h3,_⟩:=l_drop h
 exact⟨h1 _,h2,h3⟩
theorem Zas{l:List Int}{p:Nat}(h:l.drop p=[]):l.length≤p:=List.drop_eq_nil_iff.1 h
theorem Zel(l:List Int)(p:Nat)(hl:l.length≤9223372036854775000):spec_l4End.f l (p:Int)=some (Zd (l.drop p)).1:=by
 unfold spec_l4End.f
 match hd:l.drop p with
 |[]=>
  have:=Zas hd
  rw[if_pos (by omega)];rfl
 |a::t=>
  obtain⟨h1,h2,h3⟩:=ZaI hd
  have hw:wrap64 ((p:Int)+1)=((p+1:Nat):Int):=by rw[wrap_id (by omega) (by omega)];rfl
  rw[if_neg (by omega),if_pos (by omega),if_pos (by omega),h1,hw]
  by_cases q:a=13
  ·rw[if_pos q]
   match hd2:t with
   |[]=>
    have:=Zas h3
    rw[if_pos (by omega)];simp[Zd,q]
   |b::u=>
    obtain⟨g1,g2,g3⟩:=ZaI h3
    rw[if_neg (by omega),if_pos (by omega),if_pos (by omega),g1]
    by_cases q1:b=10
    ·rw[if_pos q1];simp[Zd,q,q1]
    ·rw[if_neg q1];simp[Zd,q,q1]
  ·rw[if_neg q];simp[Zd,q]
def tw(r:List Int):List Int:=r.takeWhile fun c=>decide (c≠13)
def dw(r:List Int):List Int:=r.dropWhile fun c=>decide (c≠13)
theorem ZaA(r:List Int):tw r++dw r=r:=List.takeWhile_append_dropWhile
theorem Zdt{r:List Int}{a:Int}{u:List Int}(h:dw r=a::u):a=13:=by
 have:=List.head_dropWhile_not (p:=fun c:Int=>decide (c≠13)) (l:=r) (by unfold dw at h;rw[h];simp)
 unfold dw at h
 simp only[h,List.head_cons]at this
 simpa using this
theorem Zdu:∀(r:List Int),(∀x∈r,0≤x∧x<256)→Lib.index (r.map fun n=>UInt8.ofNat n.toNat) [13]=if dw r=[]then -1 else((tw r).length:Int)
 |[],_=>rfl
 |c::r,hr=>by
  have hc:=hr c (by simp)
  have ih:=Zdu r (fun x hx=>hr x (by simp[hx]))
  have e:=ZaT hc.1 hc.2 13 (by omega)
  rw[List.map_cons,Lib.index]
  have c13:(13:UInt8)=UInt8.ofNat 13:=rfl
  simp only[List.isPrefixOf,Bool.and_true]
  rw[c13,e]
  by_cases q:c=((13:Nat):Int)
  ·have q':c=13:=q
   rw[decide_eq_true q,if_pos rfl,q']
   simp[dw,tw]
  ·have q':c≠13:=q
   rw[decide_eq_false q,if_neg (by simp),←c13,ih]
   have e1:dw (c::r)=dw r:=by simp[dw,q']
   have e2:tw (c::r)=c::tw r:=by simp[tw,q']
   rw[e1,e2]
   by_cases q1:dw r=[]
   ·simp[q1]
   ·rw[if_neg q1,if_neg q1]
    rw[if_neg (by simp only[beq_iff_eq];omega)]
    simp
theorem Ze6(r:List Int)(hr:∀x∈r,0≤x∧x<256)(hl:r.length<4294967281):∃x,strings_Cut.f (strOfNums r) (⟨#[13]⟩:BA)=some (strOfNums (tw r),x,decide (dw r≠[])):=by
 unfold strings_Cut.f
 rw[if_pos (by rw[strOfNums_size];exact hl)]
 refine⟨⟨(Lib.cut (strOfNums r).data.toList [13]).2.1.toArray⟩,?_⟩
 congr 1
 have hi:=Zdu r hr
 have hs:(strOfNums r).data.toList=r.map fun n=>UInt8.ofNat n.toNat:=by rw[strOfNums_data]
 have h13:((⟨#[13]⟩:BA).data.toList)=[13]:=rfl
 refine Prod.ext ?_ (Prod.ext rfl ?_)
 ·show(⟨(Lib.cut _ _).1.toArray⟩:BA)=_
  apply ByteArray.ext
  rw[hs,h13]
  unfold Lib.cut
  rw[hi]
  by_cases q:dw r=[]
  ·have ht:tw r=r:=by have:=ZaA r;rw[q,List.append_nil]at this;exact this
   rw[if_pos q,if_neg (by omega),ht]
   apply Array.toList_inj.mp
   rw[strOfNums_data]
  ·rw[if_neg q,if_pos (by omega)]
   apply Array.toList_inj.mp
   rw[strOfNums_data]
   simp only[Int.toNat_natCast]
   rw[←List.map_take]
   congr 1
   have:= @List.take_left _ (tw r) (dw r)
   rw[ZaA]at this
   exact this
 ·show(Lib.cut _ _).2.2=_
  rw[hs,h13]
  unfold Lib.cut
  rw[hi]
  by_cases q:dw r=[]
  ·rw[if_pos q,if_neg (by omega)];simp[q]
  ·rw[if_neg q,if_pos (by omega)];simp[q]
def Za(r:List Int):Int×List Int×Int:=
 if dw r=[]then((phL 0 0 (tw r)).1,r,if tw r=[]∨(phL 0 0 (tw r)).2=true then 1 else 400)
 else if(phL 0 0 (tw r)).2=true then((phL 0 0 (tw r)).1,(Zd (dw r)).2,(Zd (dw r)).1)else((phL 0 0 (tw r)).1,r,400)
theorem Zem{r:List Int}(hr:∀x∈r,0≤x∧x<256):∀x∈tw r,0≤x∧x<256:=fun x hx=>hr x (by rw[←ZaA r];exact List.mem_append_left _ hx)
theorem ZcU{r:List Int}(hr:∀x∈r,0≤x∧x<256):∀x∈dw r,0≤x∧x<256:=fun x hx=>hr x (by rw[←ZaA r];exact List.mem_append_right _ hx)
theorem Zba(r:List Int):(tw r).length+(dw r).length=r.length:=by rw[←List.length_append,ZaA]
theorem ZcO(r:List Int):r.drop (tw r).length=dw r:=by
 have:= @List.drop_left _ (tw r) (dw r)
 rw[ZaA]at this
 exact this
theorem Zdv(r:List Int)(hr:∀x∈r,0≤x∧x<256)(hl:r.length≤1048576):Ev (fun k=>impl_chunks_size.f k (strOfNums r) 0) ((Za r).1,strOfNums (Za r).2.1,(Za r).2.2):=by
 obtain⟨x,hx⟩:=Ze6 r hr (by omega)
 have htl:=Zba r
 unfold impl_chunks_size.f
 simp only[hx,Option.bind_some]
 have hp:=ZbG (strOfNums (tw r)) (by rw[strOfNums_size];omega)
 unfold Zaq at hp
 rw[Z7 _ (Zem hr)]at hp
 refine Ev.bind hp ?_
 have hts:(strOfNums (tw r)).size=(tw r).length:=strOfNums_size _
 have hrs:(strOfNums r).size=r.length:=strOfNums_size _
 by_cases q:dw r=[]
 ·simp only[q,ne_eq,not_true_eq_false,decide_false,Bool.false_eq_true,if_false]
  apply ev_succ
  simp only[impl_chunks_size.j0,Bool.false_eq_true,if_false]
  unfold Za
  rw[if_pos q]
  refine ev_iteB (fun q1=> ?_) (fun q1=> ?_)
  ·have q1':tw r=[]:=by
    rw[←ZbS];simpa using q1
   rw[if_pos (.inl q1')];exact Ev.now _
  ·have q1':tw r≠[]:=by
    rw[ne_eq,←ZbS];simpa using q1
   refine ev_iteB (fun q2=> ?_) (fun q2=> ?_)
   ·rw[if_pos (.inr q2)];exact Ev.now _
   ·rw[if_neg (by simp[q1',q2])];exact Ev.now _
 ·simp only[ne_eq,q,not_false_eq_true,decide_true,if_true]
  apply ev_succ
  simp only[impl_chunks_size.j0,Bool.false_eq_true,if_false,if_true]
  unfold Za
  rw[if_neg q]
  refine ev_iteB (fun q2=> ?_) (fun q2=> ?_)
  ·simp only[hts,hrs,if_pos (show(0:Int)≤((tw r).length:Int) by omega),if_pos (show((tw r).length:Int)≤(r.length:Int) by omega)]
   have e:=Zbu r hr (tw r).length
   rw[hrs,ZcO]at e
   rw[e,if_pos q2]
   exact Ev.bind (ZcT (dw r) (ZcU hr)) (Ev.now _)
  ·rw[if_neg (by simp[q2])];exact Ev.now _
theorem ZcV:∀(t:List Int)(i:Nat)(n:Int),i≤4→5≤i+t.length→(phL i n t).2=false
 |[],i,n,h,h5=>by simp at h5;omega
 |c::r,i,n,h,h5=>by
  unfold phL
  split
  ·rfl
  ·split
   ·rfl
   ·exact ZcV r (i+1) _ (by omega) (by simp at h5;omega)
theorem Zcs:∀(t:List Int)(i:Nat)(n:Int),i≤4→0≤n→n<16^i→0≤(phL i n t).1∧(phL i n t).1<65536
 |[],i,n,h,h0,h1=>by have:=ZcM h;simp only[phL];omega
 |c::r,i,n,h,h0,h1=>by
  have hd:=ZaS c
  have:=ZcM h
  unfold phL
  split
  ·simp
  ·split
   ·simp
   ·rename_i q q4
    exact Zcs r (i+1) _ (by omega) (by omega) (by rw[Int.pow_succ];omega)
theorem ZcW(l:List Int)(hl:l.length≤1048576)(hr:∀x∈l,0≤x∧x<256)(p m:Nat)(hm:m≤5)(X:Int×Int×Int)(hpm:p+m≤l.length)
  (h0:l.drop (p+m+1)=[]→X=(0,0,1))(h1:∀b u,l.drop (p+m+1)=b::u→b≠10→X=(0,0,400))(h2:∀u,l.drop (p+m+1)=10::u→X=((phL 0 0 ((l.take (p+m)).drop p)).1,((p+m+2:Nat):Int),0)):
  Ev (fun k=>spec_l4Size.j3 k l (p:Int) ((p+m:Nat):Int)) X:=by
 have hw:wrap64 (((p+m:Nat):Int)+1)=((p+m+1:Nat):Int):=by rw[wrap_id (by omega) (by omega)];rfl
 have hw2:wrap64 (((p+m:Nat):Int)+2)=((p+m+2:Nat):Int):=by rw[wrap_id (by omega) (by omega)];rfl
 apply ev_succ
 simp only[spec_l4Size.j3,hw,hw2]
 match hd:l.drop (p+m+1)with
 |[]=>
  have:=Zas hd
  rw[h0 hd]
  refine ev_ite (fun _=>Ev.now _) (fun q=>absurd q (by omega))
 |b::u=>
  obtain⟨g1,g2,g3⟩:=ZaI hd
  simp only[if_neg (show¬((p+m+1:Nat):Int)≥(l.length:Int) by omega),if_pos (show(0:Int)≤((p+m+1:Nat):Int) by omega),if_pos (show((p+m+1:Nat):Int)<(l.length:Int) by omega),g1]
  refine ev_ite (fun q=> ?_) (fun q=> ?_)
  ·subst q
   rw[h2 u hd]
   simp only[if_pos (show(0:Int)≤(p:Int) by omega),if_pos (show(p:Int)≤((p+m:Nat):Int) by omega),if_pos (show((p+m:Nat):Int)≤(l.length:Int) by omega),Int.toNat_natCast]
   have hp:=Zar (strOfNums ((l.take (p+m)).drop p)) (by rw[strOfNums_size];simp;omega)
   unfold Zaq at hp
   rw[Z7 _ (fun x hx=>hr x (List.mem_of_mem_take (List.mem_of_mem_drop hx)))]at hp
   exact Ev.bind hp (Ev.now _)
  ·rw[h1 b u hd q];exact Ev.now _
def ZK(p:Nat)(r:List Int):Int×Int×Int:=if(Za r).2.2=0 then((Za r).1,((p+(tw r).length+2:Nat):Int),0)else(0,0,(Za r).2.2)
theorem ZeJ(r:List Int):r.take (tw r).length=tw r:=by
 have:= @List.take_left _ (tw r) (dw r)
 rw[ZaA]at this
 exact this
theorem ZcX(l:List Int)(hl:l.length≤1048576)(hr:∀x∈l,0≤x∧x<256)(p m:Nat)(hm:m=min 5 (tw (l.drop p)).length)(hp:p≤l.length):
  Ev (fun k=>spec_l4Size.j1 k l (p:Int) ((p+m:Nat):Int)) (ZK p (l.drop p)):=by
 have hw5:wrap64 ((p:Int)+5)=((p+5:Nat):Int):=by rw[wrap_id (by omega) (by omega)];rfl
 have htl:=Zba (l.drop p)
 rw[List.length_drop]at htl
 have hrr:∀x∈l.drop p,0≤x∧x<256:=fun x hx=>hr x (List.mem_of_mem_drop hx)
 apply ev_succ
 simp only[spec_l4Size.j1,hw5]
 refine ev_ite (fun q=> ?_) (fun q=> ?_)
 ·have hlong:=ZcV (tw (l.drop p)) 0 0 (by omega) (by omega)
  have hne:tw (l.drop p)≠[]:=by intro e;rw[e]at hm;simp at hm;omega
  have:ZK p (l.drop p)=(0,0,400):=by
   unfold ZK Za
   by_cases qd:dw (l.drop p)=[]
   ·rw[if_pos qd];simp[hlong,hne]
   ·rw[if_neg qd];simp[hlong]
  rw[this];exact Ev.now _
 ·have hm':m=(tw (l.drop p)).length:=by omega
  have e1:(l.take (p+m)).drop p=tw (l.drop p):=by
   rw[List.drop_take,show p+m-p=m by omega,hm',ZeJ]
  have e2:l.drop (p+m)=dw (l.drop p):=by
   rw[←List.drop_drop,hm',ZcO]
  have hph:=Zar (strOfNums ((l.take (p+m)).drop p)) (by rw[strOfNums_size,e1];omega)
  unfold Zaq at hph
  rw[Z7 _ (fun x hx=>hr x (List.mem_of_mem_take (List.mem_of_mem_drop hx))),e1]at hph
  have e3:l.drop (p+m+1)=(dw (l.drop p)).drop 1:=by rw[←e2,List.drop_drop]
  have j3:=ZcW l hl hr p m (by omega)
  rw[e1,e3]at j3
  have j2:∀X,((phL 0 0 (tw (l.drop p))).2=true→Ev (fun k=>spec_l4Size.j3 k l (p:Int) ((p+m:Nat):Int)) X)→((phL 0 0 (tw (l.drop p))).2=false→X=(0,0,400))→Ev (fun k=>spec_l4Size.j2 k l (p:Int) ((p+m:Nat):Int) true) X:=by
   intro X hy hn
   apply ev_succ
   simp only[spec_l4Size.j2,if_true,if_pos (show(0:Int)≤(p:Int) by omega),if_pos (show(p:Int)≤((p+m:Nat):Int) by omega),if_pos (show((p+m:Nat):Int)≤(l.length:Int) by omega),Int.toNat_natCast,e1]
   exact Ev.bind hph (ev_iteB hy (fun h=>by rw[hn h];exact Ev.now _))
  by_cases qd:dw (l.drop p)=[]
  ·have hend:p+m=l.length:=by rw[qd]at htl;simp at htl;omega
   simp only[if_neg (show¬((p+m:Nat):Int)<(l.length:Int) by omega)]
   rw[qd]at j3
   have hX:∀X,X=(0,0,1)→Ev (fun k=>spec_l4Size.j3 k l (p:Int) ((p+m:Nat):Int)) X:=fun X hX=>j3 X (by omega) (fun _=>hX) (fun b u h=>by simp at h) (fun u h=>by simp at h)
   by_cases q0:tw (l.drop p)=[]
   ·have hm0:m=0:=by rw[hm',q0];rfl
    simp only[decide_eq_false (show¬((p+m:Nat):Int)>(p:Int) by omega)]
    apply ev_succ
    simp only[spec_l4Size.j2,Bool.false_eq_true,if_false]
    exact hX _ (by unfold ZK Za;rw[if_pos qd];simp[q0])
   ·have hm0:0<m:=by rw[hm'];exact List.length_pos_iff.2 q0
    simp only[decide_eq_true (show((p+m:Nat):Int)>(p:Int) by omega)]
    refine j2 _ (fun h=>hX _ ?_) (fun h=> ?_)
    ·unfold ZK Za;rw[if_pos qd];simp[h]
    ·unfold ZK Za;rw[if_pos qd];simp[h,q0]
  ·match hdw:dw (l.drop p),qd with
   |a::u,_=>
    have ha:=Zdt hdw
    subst ha
    rw[hdw]at htl j3
    simp at htl
    simp only[if_pos (show((p+m:Nat):Int)<(l.length:Int) by omega)]
    have hne:dw (l.drop p)≠[]:=by rw[hdw];simp
    refine j2 _ (fun h=> ?_) (fun h=> ?_)
    ·refine j3 _ (by omega) (fun hu=> ?_) (fun b v hu q1=> ?_) (fun v hu=> ?_)
     ·simp at hu
      unfold ZK Za;rw[if_neg hne,if_pos h,hdw,hu];simp[Zd]
     ·simp at hu
      unfold ZK Za;rw[if_neg hne,if_pos h,hdw,hu];simp[Zd,q1]
     ·simp at hu
      unfold ZK Za;rw[if_neg hne,if_pos h,hdw,hu,hm'];simp[Zd]
    ·unfold ZK Za;rw[if_neg hne];simp[h]
theorem Ze7{r:List Int}{a:Int}(h:a∈tw r):a≠13:=by
 have h1:=List.all_eq_true.1 (List.all_takeWhile (p:=fun c:Int=>decide (c≠13)) (l:=r)) a h
 simpa using h1
theorem Zbb(l:List Int)(p j:Nat)(X:Int×Int×Int)(hl:l.length≤1048576)(hp:p≤l.length)(hj5:j≤5)
  (h0:l.drop (p+j)=[]→Ev (fun k=>spec_l4Size.j1 k l (p:Int) ((p+j:Nat):Int)) X)(h1:∀u,l.drop (p+j)=13::u→Ev (fun k=>spec_l4Size.j1 k l (p:Int) ((p+j:Nat):Int)) X)(h5:j=5→Ev (fun k=>spec_l4Size.j1 k l (p:Int) ((p+j:Nat):Int)) X)
  (h2:∀a u,l.drop (p+j)=a::u→a≠13→j<5→Ev (fun k=>spec_l4Size.l0 k l (p:Int) ((p+(j+1):Nat):Int)) X):
  Ev (fun k=>spec_l4Size.l0 k l (p:Int) ((p+j:Nat):Int)) X:=by
 have hw5:wrap64 ((p:Int)+5)=((p+5:Nat):Int):=by rw[wrap_id (by omega) (by omega)];rfl
 apply ev_succ
 simp only[spec_l4Size.l0,hw5]
 refine ev_ite (fun q1=>ev_ite (fun q2=> ?_) (fun q2=>h5 (by omega))) (fun q1=>h0 (List.drop_eq_nil_iff.2 (by omega)))
 have q3:j<5:=by omega
 have q4:(0:Int)≤((p+j:Nat):Int):=by omega
 have hw1:wrap64 (((p+j:Nat):Int)+1)=((p+(j+1):Nat):Int):=by rw[wrap_id (by omega) (by omega)];omega
 have q5:¬l.length≤p+j:=by omega
 simp only[if_pos q4,hw1]
 match hd:l.drop (p+j)with
 |[]=>exact absurd (Zas hd) q5
 |a::u=>
  have g1:=(ZaI hd).1
  simp only[g1]
  refine ev_ite (fun q=> ?_) (fun q=>h2 a u hd q q3)
  exact h1 u (by rw[hd,q])
theorem ZcY(l:List Int)(hl:l.length≤1048576)(hr:∀x∈l,0≤x∧x<256)(p:Nat)(hp:p≤l.length):
  Ev (fun k=>spec_l4Size.f k l (p:Int)) (ZK p (l.drop p)):=by
 obtain⟨m,hm⟩:∃m,m=min 5 (tw (l.drop p)).length:=⟨_,rfl⟩
 have hj1:=ZcX l hl hr p m hm hp
 have h5:m≤5:=by omega
 have key:∀n j,j+n=m→Ev (fun k=>spec_l4Size.l0 k l (p:Int) ((p+j:Nat):Int)) (ZK p (l.drop p)):=by
  intro n
  induction n with
  |zero=>
   intro j hj
   obtain rfl:j=m:=by omega
   refine Zbb l p j _ hl hp h5 (fun _=>hj1) (fun _ _=>hj1) (fun _=>hj1) (fun a u h q q5=> ?_)
   have e2:l.drop (p+j)=dw (l.drop p):=by
    rw[←List.drop_drop,show j=(tw (l.drop p)).length by omega,ZcO]
   rw[e2]at h
   exact absurd (Zdt h) q
  |succ n ih=>
   intro j hj
   have hjt:j<(tw (l.drop p)).length:=by omega
   have e2:l.drop (p+j)=(tw (l.drop p)).drop j++dw (l.drop p):=by
    have e:= @List.drop_append_of_le_length _ (tw (l.drop p)) (dw (l.drop p)) j (by omega)
    rw[ZaA,List.drop_drop]at e
    exact e
   have hj6:j+1+n=m:=by omega
   have hj5:j≤5:=by omega
   have hj7:j≠5:=by omega
   match hd:(tw (l.drop p)).drop j with
   |[]=>exact absurd (Zas hd) (by omega)
   |a::u=>
    have ha:=Ze7 (List.mem_of_mem_drop (by rw[hd];simp:a∈(tw (l.drop p)).drop j))
    rw[hd]at e2
    refine Zbb l p j _ hl hp hj5 (fun h=> ?_) (fun v h=> ?_) (fun h=>absurd h hj7) (fun _ _ _ _ _=>ih (j+1) hj6)
    ·rw[e2]at h;simp at h
    ·rw[e2]at h;simp only[List.cons_append,List.cons.injEq]at h;exact absurd h.1 ha
 exact key m 0 (by omega)
theorem Zz(l:List Int)(x:BA)(n:Int)(s:BA)(c:Int)(hc:c≠0):Ev (fun k=>impl_GetChunks.j1 k l x n s c) ((⟨#[]⟩:BA),0,c):=by
 apply ev_succ
 simp only[impl_GetChunks.j1,if_neg hc]
 exact Ev.now _
theorem ZbT(t:List Int):0≤(phL 0 0 t).1∧(phL 0 0 t).1<65536:=Zcs t 0 0 (by omega) (by omega) (by simp)
theorem Zdw(r:List Int):(Za r).1=(phL 0 0 (tw r)).1:=by
 unfold Za
 split
 ·rfl
 ·split<;>rfl
theorem Z3{r:List Int}(h:(Za r).2.2=0):dw r=13::10::(Za r).2.1:=by
 unfold Za at h⊢
 by_cases q:dw r=[]
 ·rw[if_pos q]at h
  simp only at h
  split at h<;>omega
 ·rw[if_neg q]at h⊢
  by_cases q1:(phL 0 0 (tw r)).2=true
  ·rw[if_pos q1]at h⊢
   exact Zaz h
  ·rw[if_neg q1]at h
   simp at h
theorem ZdH(l:List Int)(hl:l.length≤1048576)(hr:∀x∈l,0≤x∧x<256)(q n:Nat)(hql:q≤l.length)(hn':n<65536)(x:BA)(hx:x.size≤200)
  (next:∀(y:BA),q+n+2≤l.length→y.size≤200→∃X,Ev (fun k=>impl_GetChunks.l0 k l y (strOfNums (l.drop (q+n+2))) 0) X∧Ev (fun k=>spec_GetChunks.l0 k l ((q+n+2:Nat):Int) y) X):
  ∃X,Ev (fun k=>if((x.size+n:Nat):Int)>200 then(impl_GetChunks.j1 k l x (n:Int) (strOfNums (l.drop q)) 413)else(if(n:Int)>((l.length-q:Nat):Int)then(impl_GetChunks.j1 k l x (n:Int) (strOfNums (l.drop q)) 1)else(if(0:Int)≤(n:Int)then(if(n:Int)≤((l.length-q:Nat):Int)then(if x.size+((strOfNums (l.drop q)).extract 0 n).size≤9223372036854775807 then((impl_chunks_end.f k ((strOfNums (l.drop q)).extract n (l.length-q)) 0).bind fun bt143=>(impl_GetChunks.j1 k l (x++((strOfNums (l.drop q)).extract 0 n)) (n:Int) bt143.1 bt143.2))else(none))else(none))else(none)))) X∧
   Ev (fun k=>if((x.size+n:Nat):Int)>200 then(some ((⟨#[]⟩:BA),0,413))else(if(n:Int)>((l.length-q:Nat):Int)then(some ((⟨#[]⟩:BA),0,1))else(if(0:Int)≤(q:Int)then(if(q:Int)≤((q+n:Nat):Int)then(if((q+n:Nat):Int)≤(l.length:Int)then(if x.size+(strOfNums ((l.take (q+n)).drop q)).size≤9223372036854775807 then((spec_l4End.f l ((q+n:Nat):Int)).bind fun t122=>(if t122=0 then(if(n:Int)=0 then(some (x++(strOfNums ((l.take (q+n)).drop q)),((q+n+2:Nat):Int),0))else(spec_GetChunks.l0 k l ((q+n+2:Nat):Int) (x++(strOfNums ((l.take (q+n)).drop q)))))else(some ((⟨#[]⟩:BA),0,t122))))else(none))else(none))else(none))else(none)))) X:=by
 by_cases q1:x.size+n>200
 ·have b1:((x.size+n:Nat):Int)>200:=by omega
  refine⟨((⟨#[]⟩:BA),0,413),?_,?_⟩
  ·simp only[if_pos b1];exact Zz _ _ _ _ _ (by decide)
  ·simp only[if_pos b1];exact Ev.now _
 have b1:¬((x.size+n:Nat):Int)>200:=by omega
 by_cases q2:n>l.length-q
 ·have b2:(n:Int)>((l.length-q:Nat):Int):=by omega
  refine⟨((⟨#[]⟩:BA),0,1),?_,?_⟩
  ·simp only[if_neg b1,if_pos b2];exact Zz _ _ _ _ _ (by decide)
  ·simp only[if_neg b1,if_pos b2];exact Ev.now _
 have b2:¬(n:Int)>((l.length-q:Nat):Int):=by omega
 have b3:(0:Int)≤(n:Int):=by omega
 have b4:(n:Int)≤((l.length-q:Nat):Int):=by omega
 have b5:x.size+n≤9223372036854775807:=by omega
 have b6:(0:Int)≤(q:Int):=by omega
 have b7:(q:Int)≤((q+n:Nat):Int):=by omega
 have b8:((q+n:Nat):Int)≤(l.length:Int):=by omega
 have b9:x.size+n≤200:=by omega
 have b10:q+n-q=n:=by omega
 have b11:l.length≤9223372036854775000:=by omega
 have b12:min n (l.length-q)=n:=by omega
 have b13:∀m:Nat,m≤l.length→wrap64 ((l.length:Int)-((l.length-m:Nat):Int))=(m:Int):=by
  intro m hm
  rw[wrap_id (by omega) (by omega)];omega
 have hlen:(l.drop q).length=l.length-q:=List.length_drop
 have hqr:∀z∈l.drop q,0≤z∧z<256:=fun z hz=>hr z (List.mem_of_mem_drop hz)
 have e1:(strOfNums (l.drop q)).extract 0 n=strOfNums ((l.drop q).take n):=by rw[ZcQ _ hqr];rfl
 have e2:(strOfNums (l.drop q)).extract n (l.length-q)=strOfNums (l.drop (q+n)):=by
  have:=Zbu _ hqr n
  rw[strOfNums_size,hlen,List.drop_drop]at this
  exact this
 have e3:(l.take (q+n)).drop q=(l.drop q).take n:=by rw[List.drop_take,b10]
 have hsz1:(strOfNums ((l.drop q).take n)).size=n:=by rw[strOfNums_size,List.length_take,hlen,b12]
 have hend:=ZcT (l.drop (q+n)) (fun z hz=>hr z (List.mem_of_mem_drop hz))
 have hsend:=Zel l (q+n) b11
 simp only[if_neg b1,if_neg b2,if_pos b3,if_pos b4,if_pos b6,if_pos b7,if_pos b8,e1,e2,e3,hsz1,if_pos b5,hsend,Option.bind_some]
 by_cases hc2:(Zd (l.drop (q+n))).1=0
 ·have hz:=Zaz hc2
  have hz2:l.drop (q+n+2)=(Zd (l.drop (q+n))).2:=by rw[←List.drop_drop,hz];rfl
  have hz3:q+n+2≤l.length:=by
   have h1:=congrArg List.length hz
   rw[List.length_drop,List.length_cons,List.length_cons]at h1
   revert h1
   generalize(Zd (l.drop (q+n))).2.length=z
   clear hz hz2 hc2 hend hsend
   intro h1
   omega
  rw[←hz2,hc2]at hend
  simp only[hc2,if_true]
  rcases Nat.eq_zero_or_pos n with hn0|hn0
  ·subst hn0
   refine⟨(x++strOfNums ((l.drop q).take 0),((q+0+2:Nat):Int),0),Ev.bind hend ?_,?_⟩
   ·apply ev_succ
    simp only[impl_GetChunks.j1,if_true,strOfNums_size,List.length_drop]
    rw[b13 _ hz3]
    exact Ev.now _
   ·exact Ev.now _
  ·have b14:¬(n:Int)=0:=by
    clear hz hz2 hc2 hend hsend
    omega
   obtain⟨X,hI,hS⟩:=next (x++strOfNums ((l.drop q).take n)) hz3 (by rw[ByteArray.size_append,hsz1];exact b9)
   refine⟨X,Ev.bind hend ?_,?_⟩
   ·apply ev_succ
    simp only[impl_GetChunks.j1,if_true,if_neg b14]
    exact hI
   ·simp only[if_neg b14];exact hS
 ·simp only[if_neg hc2]
  exact⟨((⟨#[]⟩:BA),0,(Zd (l.drop (q+n))).1),Ev.bind hend (Zz _ _ _ _ _ hc2),Ev.now _⟩
theorem ZbU(l:List Int)(hl:l.length≤1048576)(hr:∀x∈l,0≤x∧x<256)(p:Nat)(hp:p≤l.length)(x:BA)(hx:x.size≤200)
  (next:∀(q:Nat)(y:BA),p<q→q≤l.length→y.size≤200→∃X,Ev (fun k=>impl_GetChunks.l0 k l y (strOfNums (l.drop q)) 0) X∧Ev (fun k=>spec_GetChunks.l0 k l (q:Int) y) X):
  ∃X,Ev (fun k=>impl_GetChunks.l0 k l x (strOfNums (l.drop p)) 0) X∧Ev (fun k=>spec_GetChunks.l0 k l (p:Int) x) X:=by
 have hrr:∀z∈l.drop p,0≤z∧z<256:=fun z hz=>hr z (List.mem_of_mem_drop hz)
 have hsz:=Zdv (l.drop p) hrr (by rw[List.length_drop];omega)
 have hsp:=ZcY l hl hr p hp
 have hx':(x.size:Int)≤200:=by omega
 by_cases hc:(Za (l.drop p)).2.2=0
 ·have hgood:=Z3 hc
  have hn:=ZbT (tw (l.drop p))
  rw[←Zdw]at hn
  have hsX:ZK p (l.drop p)=((Za (l.drop p)).1,((p+(tw (l.drop p)).length+2:Nat):Int),0):=by unfold ZK;rw[if_pos hc]
  rw[hsX]at hsp
  have htl:=Zba (l.drop p)
  rw[hgood,List.length_drop]at htl
  simp only[List.length_cons]at htl
  obtain⟨q,hq⟩:∃q,q=p+(tw (l.drop p)).length+2:=⟨_,rfl⟩
  rw[←hq]at hsp
  have hrest:l.drop q=(Za (l.drop p)).2.1:=by
   have e:l.drop (p+(tw (l.drop p)).length)=13::10::(Za (l.drop p)).2.1:=by rw[←List.drop_drop,ZcO,hgood]
   rw[hq,show p+(tw (l.drop p)).length+2=(p+(tw (l.drop p)).length)+2 from rfl,←List.drop_drop,e];rfl
  obtain⟨n,hnn⟩:∃n:Nat,(Za (l.drop p)).1=(n:Int):=⟨(Za (l.drop p)).1.toNat,by omega⟩
  rw[hc,←hrest,hnn]at hsz
  rw[hnn]at hsp
  have hn':n<65536:=by omega
  have hql:q≤l.length:=by omega
  have hpq:p<q:=by omega
  have hlen:(l.drop q).length=l.length-q:=List.length_drop
  have hss:(strOfNums (l.drop q)).size=l.length-q:=by rw[strOfNums_size,hlen]
  have hqr:∀z∈l.drop q,0≤z∧z<256:=fun z hz=>hr z (List.mem_of_mem_drop hz)
  clear hrest hgood hsX htl hq hn hnn hrr hc hlen
  have hw:wrap64 ((x.size:Int)+(n:Int))=((x.size+n:Nat):Int):=by rw[wrap_id (by omega) (by omega)];omega
  have hwl:wrap64 ((l.length:Int)-(q:Int))=((l.length-q:Nat):Int):=by rw[wrap_id (by omega) (by omega)];omega
  have hwq:wrap64 ((q:Int)+(n:Int))=((q+n:Nat):Int):=by rw[wrap_id (by omega) (by omega)];omega
  have hwq2:wrap64 (((q+n:Nat):Int)+2)=((q+n+2:Nat):Int):=by rw[wrap_id (by omega) (by omega)];rfl
  have goI:∀X,Ev (fun k=>if(wrap64 ((x.size:Int)+(n:Int)))>200 then(impl_GetChunks.j1 k l x (n:Int) (strOfNums (l.drop q)) 413)else(if(n:Int)>((strOfNums (l.drop q)).size:Int)then(impl_GetChunks.j1 k l x (n:Int) (strOfNums (l.drop q)) 1)else(if(0:Int)≤(n:Int)then(if(n:Int)≤((strOfNums (l.drop q)).size:Int)then(if x.size+((strOfNums (l.drop q)).extract 0 (n:Int).toNat).size≤9223372036854775807 then((impl_chunks_end.f k ((strOfNums (l.drop q)).extract (n:Int).toNat (strOfNums (l.drop q)).size) 0).bind fun bt143=>(impl_GetChunks.j1 k l (x++((strOfNums (l.drop q)).extract 0 (n:Int).toNat)) (n:Int) bt143.1 bt143.2))else(none))else(none))else(none)))) X→Ev (fun k=>impl_GetChunks.l0 k l x (strOfNums (l.drop p)) 0) X:=by
   intro X h
   apply ev_succ
   simp only[impl_GetChunks.l0]
   refine Ev.bind hsz ?_
   simp only[if_true]
   exact h
  have goS:∀X,Ev (fun k=>if(wrap64 ((x.size:Int)+(n:Int)))>200 then(some ((⟨#[]⟩:BA),0,413))else(if(n:Int)>(wrap64 ((l.length:Int)-(q:Int)))then(some ((⟨#[]⟩:BA),0,1))else(if(0:Int)≤(q:Int)then(if(q:Int)≤(wrap64 ((q:Int)+(n:Int)))then(if(wrap64 ((q:Int)+(n:Int)))≤(l.length:Int)then(if x.size+(strOfNums ((l.take ((wrap64 ((q:Int)+(n:Int))):Int).toNat).drop (q:Int).toNat)).size≤9223372036854775807 then((spec_l4End.f l (wrap64 ((q:Int)+(n:Int)))).bind fun t122=>(if t122=0 then(if(n:Int)=0 then(some (x++(strOfNums ((l.take ((wrap64 ((q:Int)+(n:Int))):Int).toNat).drop (q:Int).toNat)),wrap64 ((wrap64 ((q:Int)+(n:Int)))+2),0))else(spec_GetChunks.l0 k l (wrap64 ((wrap64 ((q:Int)+(n:Int)))+2)) (x++(strOfNums ((l.take ((wrap64 ((q:Int)+(n:Int))):Int).toNat).drop (q:Int).toNat)))))else(some ((⟨#[]⟩:BA),0,t122))))else(none))else(none))else(none))else(none)))) X→Ev (fun k=>spec_GetChunks.l0 k l (p:Int) x) X:=by
   intro X h
   apply ev_succ
   simp only[spec_GetChunks.l0,if_pos hx']
   refine Ev.bind hsp ?_
   simp only[if_true]
   exact h
  simp only[hw,hwl,hwq,hwq2,hss,Int.toNat_natCast]at goI goS
  clear hw hwl hwq hwq2 hss
  have b:p<q+n+2:=Nat.lt_of_lt_of_le hpq (by rw[Nat.add_assoc];exact Nat.le_add_right _ _)
  obtain⟨X,hI,hS⟩:=ZdH l hl hr q n hql hn' x hx (fun y h1 h2=>next _ y b h1 h2)
  exact⟨X,goI X hI,goS X hS⟩
 ·refine⟨((⟨#[]⟩:BA),0,(Za (l.drop p)).2.2),?_,?_⟩
  ·apply ev_succ
   simp only[impl_GetChunks.l0]
   refine Ev.bind hsz ?_
   simp only[if_neg hc]
   exact Zz _ _ _ _ _ hc
  ·have hsX:ZK p (l.drop p)=(0,0,(Za (l.drop p)).2.2):=by unfold ZK;rw[if_neg hc]
   rw[hsX]at hsp
   apply ev_succ
   simp only[spec_GetChunks.l0,if_pos hx']
   refine Ev.bind hsp ?_
   simp only[if_neg hc]
   exact Ev.now _
theorem Zct(l:List Int)(hl:l.length≤1048576)(hr:∀x∈l,0≤x∧x<256):∀(n p:Nat)(x:BA),p≤l.length→l.length-p≤n→x.size≤200→
  ∃X,Ev (fun k=>impl_GetChunks.l0 k l x (strOfNums (l.drop p)) 0) X∧Ev (fun k=>spec_GetChunks.l0 k l (p:Int) x) X
 |0,p,x,hp,hn,hx=>ZbU l hl hr p hp x hx (fun q y h1 h2 _=>by omega)
 |n+1,p,x,hp,hn,hx=>ZbU l hl hr p hp x hx (fun q y h1 h2 h3=>Zct l hl hr n q y h2 (by omega) h3)
theorem ZcZ(l:List Int)(hl:l.length≤1048576)(hr:∀x∈l,0≤x∧x<256)(p:Int):∃X,Ev (fun k=>impl_GetChunks.f k l p) X∧Ev (fun k=>spec_GetChunks.f k l p) X:=by
 unfold impl_GetChunks.f spec_GetChunks.f
 simp only[Zx,ZcN,Option.bind_some]
 by_cases q:0≤p∧p≤(l.length:Int)
 ·obtain⟨X,h1,h2⟩:=Zct l hl hr l.length p.toNat (⟨#[]⟩:BA) (by omega) (by omega) (by decide)
  rw[Int.toNat_of_nonneg q.1]at h2
  simp only[decide_eq_true q.1,decide_eq_true q.2,Bool.and_self,if_true,if_pos q.1,if_pos q.2]
  exact⟨X,h1,h2⟩
 ·have:(decide (0≤p)&&decide (p≤(l.length:Int)))=false:=by
   rw[Bool.and_eq_false_iff]
   rcases Classical.not_and_iff_not_or_not.1 q with h|h
   ·exact .inl (decide_eq_false h)
   ·exact .inr (decide_eq_false h)
  simp only[this,Bool.false_eq_true,if_false]
  exact⟨_,Ev.now _,Ev.now _⟩
def chR:Nat→List Int→List Int→List Int×List Int×Int
 |0,_,_=>([],[],1)
 |n+1,r,x=>
  if(Za r).2.2≠0 then([],[],(Za r).2.2)
  else if 200<x.length+(Za r).1.toNat then([],[],413)
  else if(Za r).2.1.length<(Za r).1.toNat then([],[],1)
  else if(Zd ((Za r).2.1.drop (Za r).1.toNat)).1≠0 then([],[],(Zd ((Za r).2.1.drop (Za r).1.toNat)).1)
  else if(Za r).1.toNat=0 then(x,(Zd ((Za r).2.1.drop (Za r).1.toNat)).2,0)
  else chR n (Zd ((Za r).2.1.drop (Za r).1.toNat)).2 (x++(Za r).2.1.take (Za r).1.toNat)
theorem Zc0(r y:List Int):((Zd r).1=0→Zd (r++y)=(0,(Zd r).2++y))∧((Zd r).1=400→(Zd (r++y)).1=400)∧((Zd r).1=0∨(Zd r).1=1∨(Zd r).1=400):=by
 match r with
 |[]=>exact⟨fun h=>by simp[Zd]at h,fun h=>by simp[Zd]at h,.inr (.inl rfl)⟩
 |[a]=>
  by_cases q:a=13
  ·exact⟨fun h=>by simp[Zd,q]at h,fun h=>by simp[Zd,q]at h,.inr (.inl (by simp[Zd,q]))⟩
  ·exact⟨fun h=>by simp[Zd,q]at h,fun _=>by simp[Zd,q],.inr (.inr (by simp[Zd,q]))⟩
 |a::b::u=>
  by_cases q:a=13
  ·by_cases q1:b=10
   ·exact⟨fun _=>by simp[Zd,q,q1],fun h=>by simp[Zd,q,q1]at h,.inl (by simp[Zd,q,q1])⟩
   ·exact⟨fun h=>by simp[Zd,q,q1]at h,fun _=>by simp[Zd,q,q1],.inr (.inr (by simp[Zd,q,q1]))⟩
  ·exact⟨fun h=>by simp[Zd,q]at h,fun _=>by simp[Zd,q],.inr (.inr (by simp[Zd,q]))⟩
theorem Zcu{r:List Int}(h:(Zd r).1=1):r.length≤1:=by
 match r,h with
 |[],_=>simp
 |[a],_=>simp
 |a::b::u,h=>
  by_cases q:a=13
  ·by_cases q1:b=10<;>simp[Zd,q,q1]at h
  ·simp[Zd,q]at h
theorem Z8{r:List Int}(h:(Zd r).1=0):r.length=(Zd r).2.length+2:=by
 have:=congrArg List.length (Zaz h)
 simpa using this
theorem Zdx:∀(t y:List Int)(i:Nat)(n:Int),t≠[]→(phL i n t).2=false→(phL i n (t++y)).2=false
 |[],_,_,_,h,_=>absurd rfl h
 |c::t,y,i,n,_,h=>by
  rw[List.cons_append,phL]
  rw[phL]at h
  by_cases q:ZZ c<0
  ·rw[if_pos q]
  rw[if_neg q]at h⊢
  by_cases q1:i≥4
  ·rw[if_pos q1]
  rw[if_neg q1]at h⊢
  cases t with
  |nil=>simp[phL]at h
  |cons d u=>exact Zdx (d::u) y (i+1) _ (by simp) h
theorem ZdZ(r y:List Int):(dw r=[]→tw (r++y)=tw r++tw y∧tw r=r∧dw (r++y)=dw y)∧(dw r≠[]→tw (r++y)=tw r∧dw (r++y)=dw r++y):=by
 induction r with
 |nil=>simp[tw,dw]
 |cons c r ih=>
  by_cases q:c=13
  ·simp[tw,dw,q]
  ·have e1:∀z:List Int,tw (c::z)=c::tw z:=fun z=>by simp[tw,q]
   have e2:∀z:List Int,dw (c::z)=dw z:=fun z=>by simp[dw,q]
   simp only[List.cons_append,e1,e2]
   refine⟨fun h=> ?_,fun h=> ?_⟩
   ·obtain⟨h1,h2,h3⟩:=ih.1 h
    exact⟨by rw[h1],by rw[h2],h3⟩
   ·obtain⟨h1,h2⟩:=ih.2 h
    exact⟨by rw[h1],h2⟩
theorem Zd0(r y:List Int):((Za r).2.2=0→Za (r++y)=((Za r).1,(Za r).2.1++y,0))∧((Za r).2.2=400→(Za (r++y)).2.2=400)∧((Za r).2.2=0∨(Za r).2.2=1∨(Za r).2.2=400):=by
 obtain⟨t1,t2⟩:=ZdZ r y
 by_cases q:dw r=[]
 ·obtain⟨h1,h2,h3⟩:=t1 q
  have e:Za r=((phL 0 0 (tw r)).1,r,if tw r=[]∨(phL 0 0 (tw r)).2=true then 1 else 400):=by unfold Za;rw[if_pos q]
  rw[e]
  simp only[]
  by_cases q1:tw r=[]∨(phL 0 0 (tw r)).2=true
  ·rw[if_pos q1]
   exact⟨fun h=>absurd h (by decide),fun h=>absurd h (by decide),.inr (.inl rfl)⟩
  ·rw[if_neg q1]
   refine⟨fun h=>absurd h (by decide),fun _=> ?_,.inr (.inr rfl)⟩
   rw[not_or]at q1
   have hb:=Zdx (tw r) (tw y) 0 0 q1.1 (by simpa using q1.2)
   rw[←h1]at hb
   unfold Za
   have hne:tw (r++y)≠[]:=by rw[h1];simp[q1.1]
   split
   ·simp only[]
    rw[if_neg (by rw[hb];simp[hne])]
   ·rw[if_neg (by rw[hb];simp)]
 ·obtain⟨h1,h2⟩:=t2 q
  obtain⟨a1,a2,a3⟩:=Zc0 (dw r) y
  have q':¬dw (r++y)=[]:=by rw[h2];simp[q]
  by_cases q1:(phL 0 0 (tw r)).2=true
  ·have e:Za r=((phL 0 0 (tw r)).1,(Zd (dw r)).2,(Zd (dw r)).1):=by unfold Za;rw[if_neg q,if_pos q1]
   have e':Za (r++y)=((phL 0 0 (tw r)).1,(Zd (dw r++y)).2,(Zd (dw r++y)).1):=by unfold Za;rw[if_neg q',h1,if_pos q1,h2]
   rw[e,e']
   simp only[]
   refine⟨fun h=>by rw[a1 h],a2,a3⟩
  ·have e:Za r=((phL 0 0 (tw r)).1,r,400):=by unfold Za;rw[if_neg q,if_neg q1]
   have e':Za (r++y)=((phL 0 0 (tw r)).1,r++y,400):=by unfold Za;rw[if_neg q',h1,if_neg q1]
   rw[e,e']
   exact⟨fun h=>absurd (show(400:Int)=0 from h) (by decide),fun _=>rfl,.inr (.inr rfl)⟩
theorem Zbc{r:List Int}(h:(Za r).2.2=0):(Za r).2.1.length+2≤r.length:=by
 have h1:=congrArg List.length (Z3 h)
 have h2:=Zba r
 simp only[List.length_cons]at h1
 omega
theorem ZdI{r y:List Int}(h:(Za r).2.2=1)(h0:(Za (r++y)).2.2=0):(Za (r++y)).2.1.length<y.length:=by
 obtain⟨t1,t2⟩:=ZdZ r y
 by_cases q:dw r=[]
 ·obtain⟨h1,h2,h3⟩:=t1 q
  have hg:=Z3 h0
  rw[h3]at hg
  have h5:=congrArg List.length hg
  have h6:=Zba y
  simp only[List.length_cons]at h5
  omega
 ·obtain⟨h1,h2⟩:=t2 q
  have q':¬dw (r++y)=[]:=by rw[h2];simp[q]
  by_cases q1:(phL 0 0 (tw r)).2=true
  ·have e:Za r=((phL 0 0 (tw r)).1,(Zd (dw r)).2,(Zd (dw r)).1):=by unfold Za;rw[if_neg q,if_pos q1]
   rw[e]at h
   have h5:=Zcu h
   have hg:=Z3 h0
   rw[h2]at hg
   have h6:=congrArg List.length hg
   simp only[List.length_append,List.length_cons]at h6
   omega
  ·have e:Za r=((phL 0 0 (tw r)).1,r,400):=by unfold Za;rw[if_neg q,if_neg q1]
   rw[e]at h
   exact absurd (show(400:Int)=1 from h) (by decide)
theorem Zap:∀(n:Nat)(r x:List Int),(chR n r x).2.2=0→(chR n r x).2.1.length≤r.length
 |0,r,x,h=>by simp[chR]at h
 |n+1,r,x,h=>by
  rw[chR]at h⊢
  by_cases c0:(Za r).2.2=0
  ·have el:=Zbc c0
   rw[if_neg (fun h=>h c0)]at h⊢
   generalize(Za r).1.toNat=k at h⊢
   generalize(Za r).2.1=t at h el⊢
   by_cases c1:200<x.length+k
   ·rw[if_pos c1]at h;exact absurd h (by decide)
   rw[if_neg c1]at h⊢
   by_cases c2:t.length<k
   ·rw[if_pos c2]at h;exact absurd h (by decide)
   rw[if_neg c2]at h⊢
   by_cases c4:(Zd (t.drop k)).1=0
   ·rw[if_neg (fun h=>h c4)]at h⊢
    have h5:=Z8 c4
    rw[List.length_drop]at h5
    by_cases c6:k=0
    ·rw[if_pos c6];simp only[];omega
    ·rw[if_neg c6]at h⊢
     have:=Zap n _ _ h
     omega
   ·rw[if_pos c4]at h;exact absurd h c4
  ·rw[if_pos c0]at h;exact absurd h c0
theorem Zdy:∀(n m:Nat)(r x y:List Int),r.length<n→(r++y).length<m→
  ((chR n r x).2.2=0→chR m (r++y) x=((chR n r x).1,(chR n r x).2.1++y,0))∧
  ((chR n r x).2.2≠0→(chR n r x).2.2≠1→(chR m (r++y) x).2.2=(chR n r x).2.2)∧
  ((chR n r x).2.2=1→(chR m (r++y) x).2.2=0→(chR m (r++y) x).2.1.length<y.length)
 |0,_,r,_,_,h,_=>by omega
 |_+1,0,r,_,y,_,h=>by omega
 |n+1,m+1,r,x,y,hn,hm=>by
  obtain⟨s0,s4,sc⟩:=Zd0 r y
  rw[chR,chR]
  by_cases c0:(Za r).2.2=0
  ·rw[if_neg (fun h=>h c0)]
   have e:=s0 c0
   have el:=Zbc c0
   rw[e]
   simp only[ne_eq,not_true_eq_false,if_false]
   generalize(Za r).1.toNat=k
   generalize hT:(Za r).2.1=t at el
   clear s0 s4 sc c0 e hT
   by_cases c1:200<x.length+k
   ·rw[if_pos c1,if_pos c1]
    exact⟨fun h=>absurd h (by decide),fun _ _=>rfl,fun h=>absurd h (by decide)⟩
   rw[if_neg c1,if_neg c1]
   by_cases c2:t.length<k
   ·rw[if_pos c2]
    refine⟨fun h=>absurd h (by decide),fun _ h=>absurd rfl h,fun _=> ?_⟩
    by_cases c3:(t++y).length<k
    ·rw[if_pos c3];exact fun h=>absurd h (by decide)
    rw[if_neg c3]
    have ed:(t++y).drop k=y.drop (k-t.length):=by rw[List.drop_append,List.drop_eq_nil_of_le (by omega)];rfl
    rw[ed]
    by_cases c4:(Zd (y.drop (k-t.length))).1=0
    ·rw[if_neg (fun h=>h c4)]
     have h5:=Z8 c4
     rw[List.length_drop]at h5
     rw[List.length_append]at c3
     by_cases c6:k=0
     ·omega
     rw[if_neg c6]
     intro h7
     have h8:=(Zap m (Zd (y.drop (k-t.length))).2 (x++(t++y).take k) h7)
     omega
    ·rw[if_pos c4];intro h;exact absurd h c4
   have c3:¬(t++y).length<k:=by rw[List.length_append];omega
   rw[if_neg c2,if_neg c3]
   have ed:(t++y).drop k=t.drop k++y:=by rw[List.drop_append_of_le_length (by omega)]
   have et:(t++y).take k=t.take k:=by rw[List.take_append_of_le_length (by omega)]
   rw[ed,et]
   obtain⟨a0,a4,ac⟩:=Zc0 (t.drop k) y
   by_cases c4:(Zd (t.drop k)).1=0
   ·have h5:=Z8 c4
    rw[List.length_drop]at h5
    rw[if_neg (fun h=>h c4),a0 c4]
    simp only[ne_eq,not_true_eq_false,if_false]
    by_cases c6:k=0
    ·rw[if_pos c6,if_pos c6]
     exact⟨fun _=>rfl,fun h=>absurd rfl h,fun h=>absurd (show(0:Int)=1 from h) (by decide)⟩
    ·rw[if_neg c6,if_neg c6]
     have hm':((Zd (t.drop k)).2++y).length<m:=by rw[List.length_append]at hm⊢;omega
     exact Zdy n m (Zd (t.drop k)).2 (x++t.take k) y (by omega) hm'
   ·rw[if_pos c4]
    refine⟨fun h=>absurd h c4,fun h0 h1=> ?_,fun h=> ?_⟩
    ·have h4:(Zd (t.drop k)).1=400:=by simp only[]at h0 h1;omega
     rw[if_pos (by rw[a4 h4];decide),a4 h4,h4]
    ·have h6:=Zcu h
     rw[List.length_drop]at h6
     by_cases c5:(Zd (t.drop k++y)).1=0
     ·rw[if_neg (fun h=>h c5)]
      have h7:=Z8 c5
      rw[List.length_append,List.length_drop]at h7
      by_cases c6:k=0
      ·rw[if_pos c6];intro _;simp only[];omega
      ·rw[if_neg c6]
       intro h8
       have h9:=Zap m _ _ h8
       omega
     ·rw[if_pos c5];intro h8;exact absurd h8 c5
  ·rw[if_pos c0]
   refine⟨fun h=>absurd h c0,fun h0 h1=> ?_,fun h=> ?_⟩
   ·have h4:(Za r).2.2=400:=by simp only[]at h1;omega
    rw[if_pos (by rw[s4 h4];decide),s4 h4,h4]
   ·by_cases c5:(Za (r++y)).2.2=0
    ·have h6:=ZdI h c5
     rw[if_neg (fun h=>h c5)]
     generalize(Za (r++y)).1.toNat=k
     generalize(Za (r++y)).2.1=t at h6
     split
     ·intro h;exact absurd h (by decide)
     ·split
      ·intro h;exact absurd h (by decide)
      ·by_cases c7:(Zd (t.drop k)).1=0
       ·rw[if_neg (fun h=>h c7)]
        have h7:=Z8 c7
        rw[List.length_drop]at h7
        split
        ·intro _;simp only[];omega
        ·intro h8
         have h9:=Zap m _ _ h8
         omega
       ·rw[if_pos c7];intro h8;exact absurd h8 c7
    ·rw[if_pos c5];intro h8;exact absurd h8 c5
def chV(l:List Int)(r:List Int×List Int×Int):BA×Int×Int:=if r.2.2=0 then(strOfNums r.1,(l.length:Int)-(r.2.1.length:Int),0)else((⟨#[]⟩:BA),0,r.2.2)
theorem ZaJ(l a b:List Int){c:Int}(h:c≠0):chV l (a,b,c)=((⟨#[]⟩:BA),0,c):=by unfold chV;rw[if_neg h]
theorem Zc1(l a b:List Int):chV l (a,b,0)=(strOfNums a,(l.length:Int)-(b.length:Int),0):=by unfold chV;rw[if_pos rfl]
theorem ZeT(a b:List Int)(ha:∀x∈a,0≤x∧x<256)(hb:∀x∈b,0≤x∧x<256):strOfNums a++strOfNums b=strOfNums (a++b):=by
 apply bytesOf_inj
 rw[bytesOf_append,bytesOf_strOfNums a ha,bytesOf_strOfNums b hb,bytesOf_strOfNums (a++b) (fun x hx=>(List.mem_append.1 hx).elim (ha x) (hb x))]
theorem ZbA(l:List Int)(hl:l.length≤1048576):∀(n:Nat)(R x:List Int),R.length<n→R.length≤l.length→(∀z∈R,0≤z∧z<256)→(∀z∈x,0≤z∧z<256)→x.length≤200→Ev (fun k=>impl_GetChunks.l0 k l (strOfNums x) (strOfNums R) 0) (chV l (chR n R x))
 |0,R,x,h,_,_,_,_=>by omega
 |n+1,R,x,hn,hR,hr,hxr,hx=>by
  have hsz:=Zdv R hr (by omega)
  rw[chR]
  apply ev_succ
  simp only[impl_GetChunks.l0]
  refine Ev.bind hsz ?_
  by_cases hc:(Za R).2.2=0
  ·rw[if_neg (fun h=>h hc)]
   have hlen:=Zbc hc
   have hn0:=ZbT (tw R)
   rw[←Zdw]at hn0
   have htr:∀z∈(Za R).2.1,0≤z∧z<256:=fun z hz=>ZcU hr z (by rw[Z3 hc];simp[hz])
   obtain⟨m,hm⟩:∃m:Nat,(Za R).1=(m:Int):=⟨(Za R).1.toNat,by omega⟩
   simp only[hc,if_true,hm,Int.toNat_natCast]
   rw[hm]at hn0
   generalize(Za R).2.1=t at hlen htr
   clear hsz hc hm
   have hw:wrap64 (((strOfNums x).size:Int)+(m:Int))=((x.length+m:Nat):Int):=by rw[strOfNums_size,wrap_id (by omega) (by omega)];omega
   have hwl:∀u:List Int,u.length≤l.length→wrap64 ((l.length:Int)-((strOfNums u).size:Int))=(l.length:Int)-(u.length:Int):=by
    intro u hu;rw[strOfNums_size,wrap_id (by omega) (by omega)]
   have hts:(strOfNums t).size=t.length:=strOfNums_size t
   have hxs:(strOfNums x).size=x.length:=strOfNums_size x
   simp only[hw,hts]
   by_cases q1:200<x.length+m
   ·rw[if_pos q1,ZaJ _ _ _ (by decide)]
    simp only[if_pos (show((x.length+m:Nat):Int)>200 by omega)]
    exact Zz _ _ _ _ _ (by decide)
   rw[if_neg q1]
   simp only[if_neg (show¬((x.length+m:Nat):Int)>200 by omega)]
   by_cases q2:t.length<m
   ·rw[if_pos q2,ZaJ _ _ _ (by decide)]
    simp only[if_pos (show(m:Int)>(t.length:Int) by omega)]
    exact Zz _ _ _ _ _ (by decide)
   rw[if_neg q2]
   have e1:(strOfNums t).extract 0 m=strOfNums (t.take m):=by rw[ZcQ _ htr];rfl
   have e2:(strOfNums t).extract m t.length=strOfNums (t.drop m):=by
    have:=Zbu _ htr m
    rw[strOfNums_size]at this
    exact this
   have hsz1:(strOfNums (t.take m)).size=m:=by rw[strOfNums_size,List.length_take];omega
   have hend:=ZcT (t.drop m) (fun z hz=>htr z (List.mem_of_mem_drop hz))
   simp only[if_neg (show¬(m:Int)>(t.length:Int) by omega),if_pos (show(0:Int)≤(m:Int) by omega),if_pos (show(m:Int)≤(t.length:Int) by omega),e1,e2,hsz1,hxs,if_pos (show x.length+m≤9223372036854775807 by omega)]
   refine Ev.bind hend ?_
   have e3:strOfNums x++strOfNums (t.take m)=strOfNums (x++t.take m):=ZeT _ _ hxr (fun z hz=>htr z (List.mem_of_mem_take hz))
   simp only[e3]
   by_cases q3:(Zd (t.drop m)).1=0
   ·rw[if_neg (fun h=>h q3)]
    have h5:=Z8 q3
    have hz:=Zaz q3
    have hur:∀z∈(Zd (t.drop m)).2,0≤z∧z<256:=fun z hz'=>htr z (List.mem_of_mem_drop (i:=m) (by rw[hz];simp[hz']))
    rw[List.length_drop]at h5
    rw[q3]
    generalize(Zd (t.drop m)).2=u at h5 hur
    clear hend hz q3
    apply ev_succ
    simp only[impl_GetChunks.j1,if_true]
    by_cases q4:m=0
    ·rw[if_pos q4,Zc1]
     subst q4
     simp only[if_pos (show((0:Nat):Int)=0 from rfl),List.take_zero,List.append_nil]
     rw[hwl u (by omega)]
     exact Ev.now _
    ·rw[if_neg q4]
     simp only[if_neg (show¬(m:Int)=0 by omega)]
     refine ZbA l hl n u (x++t.take m) (by omega) (by omega) hur ?_ (by rw[List.length_append,List.length_take];omega)
     intro z hz
     rcases List.mem_append.1 hz with hz|hz
     ·exact hxr z hz
     ·exact htr z (List.mem_of_mem_take hz)
   ·rw[if_pos q3,ZaJ _ _ _ q3]
    exact Zz _ _ _ _ _ q3
  ·rw[if_pos hc,ZaJ _ _ _ hc]
   simp only[if_neg hc]
   exact Zz _ _ _ _ _ hc
theorem ZaK(l:List Int)(hl:l.length≤1048576)(hr:∀x∈l,0≤x∧x<256)(p:Nat)(hp:p≤l.length)(n:Nat)(hn:(l.drop p).length<n):Ev (fun k=>impl_GetChunks.f k l (p:Int)) (chV l (chR n (l.drop p) [])):=by
 unfold impl_GetChunks.f
 simp only[ZcN,Option.bind_some,decide_eq_true (show(0:Int)≤(p:Int) by omega),decide_eq_true (show(p:Int)≤(l.length:Int) by omega),Bool.and_self,if_true,if_pos (show(0:Int)≤(p:Int) by omega),if_pos (show(p:Int)≤(l.length:Int) by omega),Int.toNat_natCast]
 exact ZbA l hl n (l.drop p) [] hn (by rw[List.length_drop];omega) (fun z hz=>hr z (List.mem_of_mem_drop hz)) (by simp) (by simp)
theorem Zdk(s:BA):s.data.toList=(bytesOf s).map fun n=>UInt8.ofNat n.toNat:=by
 have h:=congrArg (fun b:BA=>b.data.toList) (strOfNums_bytesOf s)
 simp only[strOfNums_data]at h
 exact h.symm
def Zv:List Int→List Int→List (List Int)
 |cur,[]=>[cur]
 |cur,[c]=>[cur++[c]]
 |cur,c::d::r=>if c=13∧d=10 then cur::Zv [] r else Zv (cur++[c]) (d::r)
def Zf(l:List Int):List BA:=(Zv [] l).map strOfNums
def ZT:List Int→Option Nat
 |[]=>none
 |[_]=>none
 |c::d::r=>if c=13∧d=10 then some 0 else(ZT (d::r)).map (·+1)
theorem Zc2:∀(l cur:List Int),Zv cur l=match ZT l with
  |none=>[cur++l]
  |some i=>(cur++l.take i)::Zv [] (l.drop (i+2))
 |[],cur=>by simp[Zv,ZT]
 |[c],cur=>by simp[Zv,ZT]
 |c::d::r,cur=>by
  rw[Zv,ZT]
  by_cases q:c=13∧d=10
  ·rw[if_pos q,if_pos q];simp
  ·rw[if_neg q,if_neg q,Zc2 (d::r) (cur++[c])]
   cases h:ZT (d::r)with
   |none=>simp
   |some i=>simp
theorem Zdz:∀(l:List Int)(i:Nat),ZT l=some i→i+2≤l.length
 |[],i,h=>by simp[ZT]at h
 |[c],i,h=>by simp[ZT]at h
 |c::d::r,i,h=>by
  rw[ZT]at h
  split at h
  ·injection h with h;subst h;simp
  ·cases h2:ZT (d::r)with
   |none=>rw[h2]at h;cases h
   |some j=>
    rw[h2]at h
    simp only[Option.map_some,Option.some.injEq]at h
    have h3:=Zdz (d::r) j h2
    simp only[List.length_cons]at h3⊢
    omega
theorem ZeU(t:List Int)(hr:∀x∈t,0≤x∧x<256):([13,10]:List UInt8).isPrefixOf (t.map fun n=>UInt8.ofNat n.toNat)=decide (t.take 2=[13,10]):=by
 match t,hr with
 |[],_=>rfl
 |[a],_=>simp[List.isPrefixOf]
 |a::b::r,hr=>
  have ha:=hr a (by simp);have hb:=hr b (by simp)
  have e1:=ZaT ha.1 ha.2 13 (by omega);have e2:=ZaT hb.1 hb.2 10 (by omega)
  simp only[List.map_cons,List.isPrefixOf,Bool.and_true]
  have c13:(13:UInt8)=UInt8.ofNat 13:=rfl
  have c10:(10:UInt8)=UInt8.ofNat 10:=rfl
  rw[c13,c10,e1,e2]
  rw[Bool.eq_iff_iff]
  simp
theorem ZbV:∀(t:List Int),(∀x∈t,0≤x∧x<256)→Lib.index (t.map fun n=>UInt8.ofNat n.toNat) [13,10]=match ZT t with
  |none=>(-1:Int)
  |some i=>(i:Int)
 |[],_=>rfl
 |[c],hr=>by
  have hp:=ZeU [c] hr
  simp only[List.map_cons,List.map_nil]at hp⊢
  rw[Lib.index,hp]
  simp[ZT,Lib.index]
 |c::d::r,hr=>by
  have hp:=ZeU (c::d::r) hr
  have ih:=ZbV (d::r) (fun x hx=>hr x (by simp[hx]))
  rw[List.map_cons]at hp⊢
  rw[Lib.index,hp,ZT,ih]
  by_cases q:c=13∧d=10
  ·rw[if_pos q,q.1,q.2];rfl
  ·rw[if_neg q,decide_eq_false (by simpa using q)]
   cases h:ZT (d::r)with
   |none=>rfl
   |some i=>
    simp only[Option.map_some,Bool.false_eq_true,if_false]
    rw[if_neg (by simp only[beq_iff_eq];omega)]
    simp
theorem Zd1(s:BA):Lib.indexB s ⟨#[13,10]⟩=match ZT (bytesOf s)with
  |none=>(-1:Int)
  |some i=>(i:Int):=by
 show Lib.index s.data.toList [13,10]=_
 rw[Zdk,ZbV _ (bytesOf_range s)]
theorem ZcF:∀(n:Nat)(s:BA),s.size≤n→Lib.splitB ⟨#[13,10]⟩ 0 (Lib.countB s ⟨#[13,10]⟩) s=Zf (bytesOf s):=by
 intro n
 induction n with
 |zero=>
  intro s h
  have h0:bytesOf s=[]:=List.eq_nil_of_length_eq_zero (by rw[bytesOf_length];omega)
  have hi:Lib.indexB s ⟨#[13,10]⟩= -1:=by rw[Zd1,h0];rfl
  rw[Lib.splitB_miss _ _ _ _ hi]
  unfold Zf
  rw[h0]
  have:s=strOfNums []:=by rw[←h0,strOfNums_bytesOf]
  rw[this];rfl
 |succ n ih=>
  intro s h
  have hi:=Zd1 s
  unfold Zf
  rw[Zc2]
  cases q:ZT (bytesOf s)with
  |none=>
   rw[q]at hi
   rw[Lib.splitB_miss _ _ _ _ hi]
   simp[strOfNums_bytesOf]
  |some i=>
   rw[q]at hi
   simp only[]at hi⊢
   have hle:=Zdz _ _ q
   rw[bytesOf_length]at hle
   have h1:1≤(⟨#[13,10]⟩:BA).size:=by decide
   rw[Lib.countB_hit s ⟨#[13,10]⟩ _ h1 hi,Nat.add_comm,Lib.splitB_hit _ _ _ _ _ hi]
   have e1:bytesOf (s.extract (i+(⟨#[13,10]⟩:BA).size) s.size)=(bytesOf s).drop (i+2):=by
    rw[bytesOf_extract,List.take_of_length_le (by rw[bytesOf_length];exact Nat.le_refl _)]
    rfl
   have e2:s.extract 0 (i+0)=strOfNums ((bytesOf s).take i):=by
    apply bytesOf_inj
    rw[bytesOf_extract,Nat.add_zero,List.drop_zero,bytesOf_strOfNums]
    intro x hx
    exact bytesOf_range s x (List.mem_of_mem_take hx)
   have hsz:(s.extract (i+(⟨#[13,10]⟩:BA).size) s.size).size≤n:=by
    rw[size_len,e1,List.length_drop,bytesOf_length];omega
   rw[ih _ hsz,e1,e2]
   simp[Zf]
theorem ZdJ{l:List Int}{i st:Nat}{c:Int}{r:List Int}(h:l.drop i=c::r)(hs:st≤i):(l.take (i+1)).drop st=(l.take i).drop st++[c]:=by
 obtain⟨_,h2,_,h4⟩:=l_drop h
 rw[List.take_add_one,h4,Option.toList_some,List.drop_append_of_le_length (by rw[List.length_take];omega)]
theorem Zfe(t:List Int)(hr:∀x∈t,0≤x∧x<256):([13,10,13,10]:List UInt8).isPrefixOf (t.map fun n=>UInt8.ofNat n.toNat)=decide (t.take 4=[13,10,13,10]):=by
 match t,hr with
 |[],_=>rfl
 |[a],_=>simp[List.isPrefixOf]
 |[a,b],_=>simp[List.isPrefixOf]
 |[a,b,c],_=>simp[List.isPrefixOf]
 |a::b::c::d::r,hr=>
  have ha:=hr a (by simp);have hb:=hr b (by simp);have hc:=hr c (by simp);have hd:=hr d (by simp)
  have e1:=ZaT ha.1 ha.2 13 (by omega);have e2:=ZaT hb.1 hb.2 10 (by omega);have e3:=ZaT hc.1 hc.2 13 (by omega);have e4:=ZaT hd.1 hd.2 10 (by omega)
  simp only[List.map_cons,List.isPrefixOf,Bool.and_true]
  have c13:(13:UInt8)=UInt8.ofNat 13:=rfl
  have c10:(10:UInt8)=UInt8.ofNat 10:=rfl
  rw[c13,c10,e1,e2,e3,e4]
  rw[Bool.eq_iff_iff]
  simp
def Zr:Nat→List Int→Int
 |_,[]=> -1
 |i,c::r=>if(c::r).take 4=[13,10,13,10]then(i:Int)+4 else Zr (i+1) r
theorem Zal:∀(t:List Int)(i:Nat),t.length<4→Zr i t= -1
 |[],_,_=>rfl
 |c::r,i,h=>by
  rw[Zr,if_neg,Zal r (i+1) (by simp at h;omega)]
  intro e
  have:=congrArg List.length e
  simp at this h
  omega
theorem Zam:∀(t:List Int)(i:Nat),Zr i t≤i+t.length∧-1≤Zr i t
 |[],_=>by simp[Zr]
 |c::r,i=>by
  rw[Zr]
  split
  ·rename_i e
   have:=congrArg List.length e
   simp at this
   simp;omega
  ·have:=Zam r (i+1)
   simp;omega
theorem ZbW:∀(t:List Int)(i:Nat),(∀x∈t,0≤x∧x<256)→(if Lib.index (t.map fun n=>UInt8.ofNat n.toNat) [13,10,13,10]<0 then(-1:Int)else i+Lib.index (t.map fun n=>UInt8.ofNat n.toNat) [13,10,13,10]+4)=Zr i t
 |[],i,_=>rfl
 |c::r,i,hr=>by
  have hp:=Zfe (c::r) hr
  have ih:=ZbW r (i+1) (fun x hx=>hr x (by simp[hx]))
  have hg:=Lib.index_ge (r.map fun n=>UInt8.ofNat n.toNat) [13,10,13,10]
  rw[List.map_cons]at hp⊢
  rw[Lib.index,hp,Zr]
  by_cases q:(c::r).take 4=[13,10,13,10]
  ·rw[if_pos q,decide_eq_true q];simp
  ·rw[if_neg q,decide_eq_false q,←ih]
   simp only[Bool.false_eq_true,if_false,beq_iff_eq]
   by_cases q1:Lib.index (r.map fun n=>UInt8.ofNat n.toNat) [13,10,13,10]= -1
   ·rw[if_pos q1,q1];rfl
   ·rw[if_neg q1,if_neg (by omega),if_neg (by omega)]
    rw[show((i+1:Nat):Int)=i+1 from rfl];omega
def Zb(l:List Int):Int:=Zr 0 (l.take 400)
theorem ZeV(l:List Int):mn (l.length:Int) 400=((min l.length 400:Nat):Int):=by unfold mn;split<;>omega
theorem Zen(l:List Int):l.take (min l.length 400)=l.take 400:=by
 rcases Nat.le_total l.length 400 with h|h
 ·rw[Nat.min_eq_left h,List.take_of_length_le (Nat.le_refl _),List.take_of_length_le h]
 ·rw[Nat.min_eq_right h]
theorem ZbX(l:List Int)(hr:∀x∈l,0≤x∧x<256):impl_HeadEnd.f l=some (Zb l):=by
 unfold impl_HeadEnd.f
 have hm:=ZeV l
 rw[hm,if_pos (by omega),if_pos (by omega),Int.toNat_natCast,Zen]
 have hsz:(strOfNums (l.take 400)).size≤400:=by rw[strOfNums_size,List.length_take];omega
 unfold strings_Index.f
 rw[if_pos (by omega),Option.bind_some,strOfNums_data]
 have h0:=ZbW (l.take 400) 0 (fun x hx=>hr x (List.mem_of_mem_take hx))
 have hg:=Lib.index_ge ((l.take 400).map fun n=>UInt8.ofNat n.toNat) [13,10,13,10]
 have hl:=Lib.index_le ((l.take 400).map fun n=>UInt8.ofNat n.toNat) [13,10,13,10]
 rw[List.length_map,List.length_take]at hl
 unfold Zb
 rw[←h0]
 change (if Lib.index ((l.take 400).map fun n=>UInt8.ofNat n.toNat) [13,10,13,10]<0 then some (-1)else some (wrap64 (Lib.index ((l.take 400).map fun n=>UInt8.ofNat n.toNat) [13,10,13,10]+4)))=_
 by_cases q:Lib.index ((l.take 400).map fun n=>UInt8.ofNat n.toNat) [13,10,13,10]<0
 ·rw[if_pos q,if_pos q]
 ·rw[if_neg q,if_neg q,wrap_id (by omega) (by omega)];congr 1;simp
theorem ZbY(l:List Int)(hl:l.length≤9223372036854775000)(hr:∀x∈l,0≤x∧x<256):Ev (fun k=>spec_HeadEnd.f k l) (Zb l):=by
 have key:∀(n i:Nat),i+n=400→Ev (fun k=>spec_HeadEnd.l0 k l (i:Int)) (Zr i ((l.take 400).drop i)):=by
  intro n
  induction n with
  |zero=>
   intro i hi
   have e0:(l.take 400).drop i=[]:=List.drop_eq_nil_of_le (by rw[List.length_take];omega)
   rw[e0,Zr]
   apply ev_succ
   simp only[spec_HeadEnd.l0]
   refine ev_ite (fun _=> ?_) (fun _=> ?_)
   ·rw[decide_eq_false (by unfold wrap64;omega)]
    apply ev_succ;simp only[spec_HeadEnd.j1,Bool.false_eq_true,if_false];exact Ev.now _
   ·apply ev_succ;simp only[spec_HeadEnd.j1,Bool.false_eq_true,if_false];exact Ev.now _
  |succ n ih=>
   intro i hi
   rcases Nat.lt_or_ge i 400 with hlt|hge
   ·have hw3:wrap64 ((i:Int)+3)=((i+3:Nat):Int):=by rw[wrap_id (by omega) (by omega)];rfl
    have hw4:wrap64 ((i:Int)+4)=((i+4:Nat):Int):=by rw[wrap_id (by omega) (by omega)];rfl
    have hw1:wrap64 ((i:Int)+1)=((i+1:Nat):Int):=by rw[wrap_id (by omega) (by omega)];rfl
    have jf:Ev (fun k=>spec_HeadEnd.j1 k l (i:Int) false) (-1):=by
     apply ev_succ;simp only[spec_HeadEnd.j1,Bool.false_eq_true,if_false];exact Ev.now _
    apply ev_succ
    simp only[spec_HeadEnd.l0,hw3]
    refine ev_ite (fun q=> ?_) (fun q=> ?_)
    ·by_cases q1:((i+3:Nat):Int)<400
     ·rw[decide_eq_true q1]
      have hL:i<(l.take 400).length:=by rw[List.length_take];omega
      have ht:((l.take 400).drop i)=(l.take 400)[i]::(l.take 400).drop (i+1):=List.drop_eq_getElem_cons hL
      have h4:((l.take 400).drop i).take 4=(l.take (i+4)).drop i:=by
       rw[List.take_drop,List.take_take,show min (i+4) 400=i+4 by omega]
      apply ev_succ
      simp only[spec_HeadEnd.j1,if_true,hw4,hw1,if_pos (show(0:Int)≤(i:Int) by omega),if_pos (show(i:Int)≤((i+4:Nat):Int) by omega),if_pos (show((i+4:Nat):Int)≤l.length by omega),Int.toNat_natCast]
      have hc:((strOfNums ((l.take (i+4)).drop i)).toList=([13,10,13,10]:List UInt8))↔(l.take (i+4)).drop i=[13,10,13,10]:=by
       rw[Lib.toList_data,strOfNums_data]
       have hb:=bytesOf_strOfNums ((l.take (i+4)).drop i) (fun x hx=>hr x (List.mem_of_mem_take (List.mem_of_mem_drop hx)))
       unfold bytesOf at hb
       rw[strOfNums_data]at hb
       constructor
       ·intro h;rw[h]at hb;rw[←hb];rfl
       ·intro h;rw[h];rfl
      rw[ht,Zr,←ht,h4]
      refine ev_ite (fun q2=> ?_) (fun q2=> ?_)
      ·rw[if_pos (hc.mp q2)];exact Ev.now _
      ·rw[if_neg (fun h=>q2 (hc.mpr h))];exact ih (i+1) (by omega)
     ·rw[decide_eq_false q1,Zal _ _ (by rw[List.length_drop,List.length_take];omega)];exact jf
    ·rw[Zal _ _ (by rw[List.length_drop,List.length_take];omega)];exact jf
   ·omega
 exact key 400 0 rfl
def Zo(u:Nat):List Int:=(Lib.decDigits u).map fun b=>(b.toNat:Int)
theorem ZF(u:Nat)(h:9<u):Zo u=Zo (u/10)++[48+((u%10:Nat):Int)]:=by
 unfold Zo
 rw[Lib.decDigits,dif_neg (by omega),List.map_append]
 congr 1
 simp only[List.map_cons,List.map_nil,List.cons.injEq,and_true]
 rw[show(UInt8.ofNat (48+u%10)).toNat=48+u%10 from by simp;omega]
 omega
theorem Zs(u:Nat)(h:u≤9):Zo u=[48+(u:Int)]:=by
 unfold Zo
 rw[Lib.decDigits,dif_pos (by omega)]
 simp only[List.map_cons,List.map_nil,List.cons.injEq,and_true]
 rw[show(UInt8.ofNat (48+u)).toNat=48+u from by simp;omega]
 omega
theorem ZaU(u:Nat):∀x∈Zo u,0≤x∧x<256:=by
 intro x hx
 obtain⟨b,_,rfl⟩:=List.mem_map.1 hx
 have:=b.toNat_lt
 omega
theorem ZeW(u:Nat):(⟨(Lib.decDigits u).toArray⟩:BA)=strOfNums (Zo u):=by
 apply bytesOf_inj
 rw[bytesOf_strOfNums _ (ZaU u),bytesOf_mk];rfl
theorem ZbH:∀(k u:Nat),u<10^(k+1)→(Zo u).length≤k+1
 |0,u,h=>by rw[Zs u (by simpa using Nat.le_of_lt_succ h)];simp
 |k+1,u,h=>by
  rcases Nat.lt_or_ge 9 u with h9|h9
  ·rw[ZF u h9,List.length_append]
   have:=ZbH k (u/10) (by rw[Nat.pow_succ]at h;omega)
   simp;omega
  ·rw[Zs u h9];simp
theorem ZbZ(u:Nat)(hu:u≤9223372036854775807):wrap64 (48+Int.tmod (u:Int) 10)%256=48+((u%10:Nat):Int):=by
 have e:Int.tmod (u:Int) 10=((u%10:Nat):Int):=by rw[Int.tmod_eq_emod_of_nonneg (by omega)];omega
 rw[e,wrap_id (by omega) (by omega)]
 omega
theorem Zeo(u:Nat)(hu:u≤9223372036854775807):wrap64 (Int.tdiv (u:Int) 10)=((u/10:Nat):Int):=by
 rw[Int.tdiv_eq_ediv_of_nonneg (by omega),wrap_id (by omega) (by omega)]
 omega
def ZA:Int→List Int→Option Int
 |a,[]=>some a
 |a,c::r=>if 48≤c∧c≤57 then ZA (a*10+(c-48)) r else none
theorem Zcv:∀(l:List UInt8)(acc:Nat),ZA (acc:Int) (l.map fun b=>(b.toNat:Int))=(Lib.decFrom acc l).map fun m=>(m:Int)
 |[],_=>rfl
 |c::r,acc=>by
  simp only[List.map_cons,ZA,Lib.decFrom,Lib.digitVal]
  by_cases h:48≤c.toNat∧c.toNat≤57
  ·rw[if_pos h,if_pos (by omega),←Zcv r]
   congr 1;omega
  ·rw[if_neg h,if_neg (by omega)];rfl
theorem Zbd:∀(l:List Int)(a c:Int),ZA a (l++[c])=(ZA a l).bind fun m=>if 48≤c∧c≤57 then some (m*10+(c-48))else none
 |[],a,c=>by simp[ZA]
 |d::r,a,c=>by
  simp only[List.cons_append,ZA]
  split
  ·exact Zbd r _ c
  ·rfl
theorem ZaL:∀(l:List Int)(a m:Int),0≤a→ZA a l=some m→0≤m∧m<(a+1)*10^l.length
 |[],a,m,ha,h=>by simp only[ZA,Option.some.injEq]at h;subst h;simp;omega
 |c::r,a,m,ha,h=>by
  simp only[ZA]at h
  split at h
  ·have:=ZaL r _ m (by omega) h
   refine⟨this.1,Int.lt_of_lt_of_le this.2 ?_⟩
   rw[List.length_cons,Int.pow_succ,Int.mul_comm (10^r.length) 10,←Int.mul_assoc]
   exact Int.mul_le_mul_of_nonneg_right (by omega) (Int.le_of_lt (Int.pow_pos (by decide)))
  ·cases h
theorem Zch(u:Nat):Zo u≠[]:=by
 rcases Nat.lt_or_ge 9 u with h9|h9
 ·rw[ZF u h9];simp
 ·rw[Zs u h9];simp
theorem Zbe(u:Nat):ZA 0 (Zo u)=some (u:Int):=by
 induction u using Nat.strongRecOn with
 |_ u ih=>
  rcases Nat.lt_or_ge 9 u with h9|h9
  ·rw[ZF u h9,Zbd,ih (u/10) (by omega),Option.bind_some,if_pos (by omega)]
   congr 1;omega
  ·rw[Zs u h9]
   simp only[ZA]
   rw[if_pos (by omega)]
   congr 1;omega
theorem ZeK(u:Nat):∀r,Zo u=48::r→u=0:=by
 induction u using Nat.strongRecOn with
 |_ u ih=>
  intro r h
  rcases Nat.lt_or_ge 9 u with h9|h9
  ·rw[ZF u h9]at h
   cases hd:Zo (u/10)with
   |nil=>have:=Zch (u/10);exact absurd hd this
   |cons c t=>
    rw[hd,List.cons_append]at h
    obtain⟨rfl,_⟩:=List.cons.inj h
    have:=ih (u/10) (by omega) t hd
    omega
  ·rw[Zs u h9]at h
   have:=(List.cons.inj h).1
   omega
theorem Zep(u:Nat):∀c∈Zo u,48≤c∧c≤57:=by
 induction u using Nat.strongRecOn with
 |_ u ih=>
  intro c h
  rcases Nat.lt_or_ge 9 u with h9|h9
  ·rw[ZF u h9,List.mem_append]at h
   rcases h with h|h
   ·exact ih (u/10) (by omega) c h
   ·simp at h;omega
  ·rw[Zs u h9]at h
   simp at h;omega
theorem Zc3:∀(n:Nat)(l:List Int)(m:Int),l.length=n+1→ZA 0 l=some m→(n=0∨∀r,l≠48::r)→Zo m.toNat=l
 |0,l,m,hl,h,_=>by
  obtain⟨c,rfl⟩:=List.length_eq_one_iff.1 hl
  simp only[ZA]at h
  split at h
  ·obtain rfl:=Option.some.inj h
   rw[Zs _ (by omega)]
   congr 1;omega
  ·cases h
 |n+1,l,m,hl,h,h0=>by
  replace h0:∀r,l≠48::r:=by
   rcases h0 with h0|h0
   ·omega
   ·exact h0
  obtain⟨l',c,rfl⟩:∃l' c,l=l'++[c]:=⟨l.dropLast,l.getLast (by intro e;subst e;simp at hl),(List.dropLast_concat_getLast _).symm⟩
  have hl':l'.length=n+1:=by simp at hl;omega
  rw[Zbd]at h
  obtain⟨m',hm',h⟩:=Option.bind_eq_some_iff.1 h
  split at h
  ·rename_i hc
   obtain rfl:=Option.some.inj h
   have hb:=ZaL l' 0 m' (by omega) hm'
   have h0':∀r,l'≠48::r:=fun r e=>h0 (r++[c]) (by rw[e];rfl)
   have ih:=Zc3 n l' m' hl' hm' (.inr h0')
   have h1:0<m'.toNat:=by
    rcases Nat.eq_zero_or_pos m'.toNat with e|e
    ·rw[e,Zs 0 (by omega)]at ih
     exact absurd ih.symm (h0' [])
    ·exact e
   rw[ZF _ (by omega),show(m'*10+(c-48)).toNat/10=m'.toNat from by omega,ih]
   congr 2;omega
  ·cases h
theorem ZaB(n:Int)(hn:n≤9223372036854775807):impl_NumText.f n=some (strOfNums (Zo n.toNat)):=by
 have e:mx n 0=((n.toNat:Nat):Int):=by unfold mx;split<;>omega
 unfold impl_NumText.f
 rw[e]
 unfold strconv_Itoa.f
 rw[if_pos (by omega),Option.bind_some]
 unfold Lib.itoa
 rw[if_neg (by omega),Int.toNat_natCast,ZeW]
def ZB(s:BA)(most:Int):Int×Bool:=
 match ZA 0 (bytesOf s)with
 |none=>(0,false)
 |some n=>if 1≤s.size∧s.size≤7∧¬(1<s.size∧(bytesOf s).head? =some 48)∧n≤most then(n,true)else(0,false)
theorem Zc4(s:BA)(most:Int)(u:Nat)(hu:bytesOf s=Zo u)(h7:s.size≤7)(hm:(u:Int)≤most):ZB s most=((u:Int),true):=by
 unfold ZB
 rw[hu,Zbe]
 have hne:=Zch u
 have hl:s.size=(Zo u).length:=by rw[←hu,bytesOf_length]
 have h1:1≤s.size:=by
  rcases Nat.eq_zero_or_pos s.size with e|e
  ·rw[e]at hl;exact absurd (List.length_eq_zero_iff.1 hl.symm) hne
  ·exact e
 refine if_pos ⟨h1,h7,?_,hm⟩
 rintro⟨h2,h3⟩
 cases hd:Zo u with
 |nil=>exact hne hd
 |cons c r=>
  rw[hd]at h3 hl
  simp only[List.head?_cons,Option.some.injEq]at h3
  subst h3
  have:=ZeK u r hd
  subst this
  rw[Zs 0 (by omega)]at hd
  obtain⟨_,rfl⟩:=List.cons.inj hd
  simp at hl;omega
theorem ZdA(s:BA)(most:Int)(h:∀u:Nat,bytesOf s=Zo u→s.size≤7→¬(u:Int)≤most):ZB s most=(0,false):=by
 unfold ZB
 cases hd:ZA 0 (bytesOf s)with
 |none=>rfl
 |some n=>
  refine if_neg ?_
  rintro⟨h1,h7,h0,hm⟩
  have hb:=ZaL _ 0 n (by omega) hd
  have hl:=bytesOf_length s
  have:=Zc3 (s.size-1) (bytesOf s) n (by omega) hd (by
   rcases Nat.eq_zero_or_pos (s.size-1)with e|e
   ·exact .inl e
   ·refine .inr fun r hr=>h0 ⟨by omega,by rw[hr];rfl⟩)
  exact h n.toNat this.symm h7 (by omega)
theorem ZbI(s:BA)(most:Int)(hs:s.size≤281474976710656):impl_ParseNum.f s most=some (ZB s most):=by
 unfold impl_ParseNum.f
 rw[if_pos hs]
 have hbs:bytesOf s=s.data.toList.map fun b=>(b.toNat:Int):=rfl
 by_cases hy:∃u:Nat,bytesOf s=Zo u∧s.size≤7∧(u:Int)≤most
 ·obtain⟨u,hu,h7,hm⟩:=hy
  rw[Zc4 s most u hu h7 hm]
  have hlen:s.data.toList.length≤18:=by have:=data_length s;omega
  have hdec:Lib.decFrom 0 s.data.toList=some u:=by
   have h1:=Zcv s.data.toList 0
   rw[←hbs,hu,show((0:Nat):Int)=0 from rfl,Zbe]at h1
   cases hd:Lib.decFrom 0 s.data.toList with
   |none=>rw[hd]at h1;cases h1
   |some m=>rw[hd]at h1;have h2:(u:Int)=(m:Int):=Option.some.inj h1;congr 1;omega
  have hat:Lib.atoiAll s.data.toList= .ok (u:Int):=by
   cases hl:s.data.toList with
   |nil=>rw[hl]at hbs;rw[hu]at hbs;exact absurd hbs (Zch u)
   |cons c r=>
    have hc:48≤(c.toNat:Int)∧(c.toNat:Int)≤57:=Zep u _ (by rw[←hu,hbs,hl];simp)
    rw[Lib.atoiAll_plain c r (by omega) (by omega),←hl,Lib.signless_short hlen]
    unfold Lib.decNat
    rw[if_neg (by rw[hl];simp),hdec]
    rfl
  have hn:=ZbH 6 u
  have hlt:(u:Int)<10000000:=by
   have:=(ZaL _ 0 _ (by omega) (Zbe u)).2
   rw[←hu,bytesOf_length]at this
   have h3:(10:Int)^s.size≤10^7:=by
    have:=Nat.pow_le_pow_right (n:=10) (by decide) h7
    exact_mod_cast this
   have e7:(10:Int)^7=10000000:=by decide
   omega
  rw[hat]
  (try simp only[])
  rw[if_neg (by omega),if_neg (by omega),if_neg (by omega),ZaB _ (by omega),Option.bind_some,Int.toNat_natCast]
  rw[if_pos]
  rw[←hu,strOfNums_bytesOf]
 ·rw[ZdA s most (fun u h1 h2 h3=>hy ⟨u,h1,h2,h3⟩)]
  cases hat:Lib.atoiAll s.data.toList with
  |range=>rfl
  |ok v=>
   have hb:=Lib.atoiAll_bounds hat
   (try simp only[])
   by_cases h1:v<0
   ·rw[if_pos h1]
   by_cases h2:most<v
   ·rw[if_neg h1,if_pos h2]
   by_cases h3:7<s.size
   ·rw[if_neg h1,if_neg h2,if_pos h3]
   rw[if_neg h1,if_neg h2,if_neg h3,ZaB _ hb.2,Option.bind_some]
   rw[if_neg]
   intro e
   refine hy ⟨v.toNat,?_,by omega,by omega⟩
   have:strOfNums (Zo v.toNat)=s:=(toList_iff _ _).1 e
   rw[←this,bytesOf_strOfNums _ (ZaU _)]
  |_=>rfl
def ZL(s:BA)(most n:Int):Int×Bool:=if 1≤s.size∧s.size≤7∧¬(1<s.size∧(bytesOf s).head? =some 48)∧n≤most then(n,true)else(0,false)
def Zae(s:BA)(most n:Int)(l:List Int):Int×Bool:=match ZA n l with
 |none=>(0,false)
 |some m=>ZL s most m
theorem Zb0(s:BA)(most n:Int)(h:7<s.size):ZL s most n=(0,false):=by
 unfold ZL;rw[if_neg (by omega)]
theorem Zdl(s:BA)(most n:Int)(l:List Int)(h:7<s.size):Zae s most n l=(0,false):=by
 unfold Zae
 cases ZA n l with
 |none=>rfl
 |some m=>exact Zb0 s most m h
theorem ZeL(s:BA)(h:0<s.size):(bytesOf s).head? =some (bt s 0):=by
 cases hb:bytesOf s with
 |nil=>have:=bytesOf_length s;rw[hb]at this;simp at this;omega
 |cons c r=>
  have:=(bt_drop (s:=s) (i:=0) (by rw[List.drop_zero];exact hb)).1
  rw[show((0:Nat):Int)=0 from rfl]at this
  rw[this];rfl
theorem Zat(s:BA)(most n i:Int):Ev (fun k=>spec_ParseNum.j1 k s most n i false) (ZL s most n):=by
 apply ev_succ
 simp only[spec_ParseNum.j1,Bool.false_eq_true,if_false,Zx,Option.bind_some]
 refine ev_iteB (fun q=> ?_) (fun q=> ?_)
 ·simp only[Bool.and_eq_true,decide_eq_true_eq]at q
  refine ev_ite (fun q1=> ?_) (fun q1=> ?_)
  ·rw[if_pos (show(0:Int)<(s.size:Int) by omega)]
   have hb:=ZeL s (by omega)
   by_cases q2:bt s 0=48
   ·rw[if_pos q2]
    have:ZL s most n=(0,false):=by
     unfold ZL
     rw[hb,q2,if_neg (fun h=>h.2.2.1 ⟨by omega,rfl⟩)]
    rw[this];exact Ev.now _
   ·rw[if_neg q2]
    have hq:¬(1<s.size∧(bytesOf s).head? =some 48):=fun h=>q2 (by have:=h.2;rw[hb]at this;exact Option.some.inj this)
    by_cases q3:n>most
    ·rw[if_pos q3]
     have:ZL s most n=(0,false):=by unfold ZL;rw[if_neg (by omega)]
     rw[this];exact Ev.now _
    ·rw[if_neg q3]
     have:ZL s most n=(n,true):=by unfold ZL;rw[if_pos ⟨by omega,by omega,hq,by omega⟩]
     rw[this];exact Ev.now _
  ·by_cases q3:n>most
   ·rw[if_pos q3]
    have:ZL s most n=(0,false):=by unfold ZL;rw[if_neg (by omega)]
    rw[this];exact Ev.now _
   ·rw[if_neg q3]
    have:ZL s most n=(n,true):=by unfold ZL;rw[if_pos ⟨by omega,by omega,fun h=>by omega,by omega⟩]
    rw[this];exact Ev.now _
 ·have:ZL s most n=(0,false):=by
   unfold ZL
   rw[if_neg]
   rintro⟨h1,h2,_⟩
   rw[decide_eq_true (by omega),decide_eq_true (by omega)]at q
   cases q
  rw[this];exact Ev.now _
theorem ZbJ(s:BA)(most:Int)(hs:s.size≤140737488351232):Ev (fun k=>spec_ParseNum.f k s most) (ZB s most):=by
 have:=str_loop_st s (fun i n k=>spec_ParseNum.l0 k s most n (i:Int)) (fun i n r=>Zae s most n r) (fun i n r=>i≤8∧0≤n∧n<10^i∧i+r.length=s.size) ?_ ?_ hs 0 0 ⟨by omega,by omega,by simp,by simp[bytesOf_length]⟩
 ·exact this
 ·intro i n ⟨h8,h0,hn,hl⟩ hi
  apply ev_succ
  simp only[spec_ParseNum.l0,if_neg (show¬(i:Int)<s.size by omega)]
  exact Zat s most n i
 ·intro i n c r ⟨h8,h0,hn,hl⟩ h hb hi hw hw1 ih
  have hc:=bytesOf_range s c (List.mem_of_mem_drop (by rw[h];simp:c∈(bytesOf s).drop i))
  apply ev_succ
  simp only[spec_ParseNum.l0,if_pos (show(i:Int)<s.size by omega)]
  rcases Nat.lt_or_ge i 8 with q8|q8
  ·rw[decide_eq_true (by omega)]
   apply ev_succ
   simp only[spec_ParseNum.j1,if_true,if_pos (show(0:Int)≤(i:Int) by omega),if_pos (show(i:Int)<s.size by omega),hb,ZaR c hw,Option.bind_some,hw1]
   have hp:(10:Int)^i≤10^7:=by
    have:=Nat.pow_le_pow_right (n:=10) (by decide) (show i≤7 by omega)
    exact_mod_cast this
   have e7:(10:Int)^7=10000000:=by decide
   by_cases qd:48≤c∧c≤57
   ·have hd:ZM c=true:=by simp only[ZM,Bool.and_eq_true,decide_eq_true_eq];exact qd
    simp only[hd,if_true]
    rw[wrap_id (x:=n*10) (by omega) (by omega),show(c-48)%256=c-48 by omega,wrap_id (x:=n*10+(c-48)) (by omega) (by omega)]
    have:=ih (n*10+(c-48)) ⟨by omega,by omega,by rw[Int.pow_succ];omega,by simp at hl⊢;omega⟩
    have e:Zae s most n (c::r)=Zae s most (n*10+(c-48)) r:=by
     unfold Zae;simp only[ZA,if_pos qd]
    rw[e];exact this
   ·have hd:ZM c=false:=by rw[←Bool.not_eq_true];simp only[ZM,Bool.and_eq_true,decide_eq_true_eq];exact qd
    simp only[hd,Bool.false_eq_true,if_false]
    have e:Zae s most n (c::r)=(0,false):=by
     unfold Zae;simp only[ZA,if_neg qd]
    rw[e];exact Ev.now _
  ·rw[decide_eq_false (by omega),Zdl s most n (c::r) (by simp at hl;omega)]
   have:=Zat s most n i
   rw[Zb0 s most n (by simp at hl;omega)]at this
   exact this
theorem ZdK(s:BA)(most:Int)(h:(ZB s most).2=true):0≤(ZB s most).1∧(ZB s most).1≤most∧∀c∈bytesOf s,48≤c∧c≤57:=by
 unfold ZB at *
 cases hd:ZA 0 (bytesOf s)with
 |none=>rw[hd]at h;cases h
 |some n=>
  rw[hd]at h
  simp only[]at h⊢
  split at h
  ·rename_i hq
   rw[if_pos hq]
   refine⟨(ZaL _ 0 n (by omega) hd).1,hq.2.2.2,?_⟩
   have key:∀(l:List Int)(a m:Int),ZA a l=some m→∀c∈l,48≤c∧c≤57:=by
    intro l
    induction l with
    |nil=>intro a m _ c hc;cases hc
    |cons d r ih=>
     intro a m hm c hc
     simp only[ZA]at hm
     split at hm
     ·rename_i hd
      rcases List.mem_cons.1 hc with rfl|hc
      ·exact hd
      ·exact ih _ m hm c hc
     ·cases hm
   exact key _ 0 n hd
  ·cases h
theorem ZaV:∀(l:List Int)(cur:List Int),(∀x∈l,0≤x∧x<256)→(∀x∈cur,0≤x∧x<256)→∀a∈Zv cur l,(∀x∈a,0≤x∧x<256)∧a.length≤cur.length+l.length
 |[],cur,_,hc,a,ha=>by
  rw[Zv,List.mem_singleton]at ha
  subst ha;exact⟨hc,by simp⟩
 |[c],cur,hl,hc,a,ha=>by
  rw[Zv,List.mem_singleton]at ha
  subst ha
  refine⟨fun x hx=> ?_,by simp⟩
  rcases List.mem_append.1 hx with h|h
  ·exact hc x h
  ·exact hl x h
 |c::d::r,cur,hl,hc,a,ha=>by
  rw[Zv]at ha
  split at ha
  ·rcases List.mem_cons.1 ha with h|h
   ·subst h;exact⟨hc,by omega⟩
   ·have:=ZaV r [] (fun x hx=>hl x (by simp[hx])) (by simp) a h
    refine⟨this.1,?_⟩
    have h2:=this.2
    simp only[List.length_nil,List.length_cons]at h2⊢
    omega
  ·have:=ZaV (d::r) (cur++[c]) (fun x hx=>hl x (List.mem_cons_of_mem _ hx)) (fun x hx=>by
    rcases List.mem_append.1 hx with h|h
    ·exact hc x h
    ·rw[List.mem_singleton]at h;subst h;exact hl x (by simp)) a ha
   refine⟨this.1,?_⟩
   have h2:=this.2
   simp only[List.length_append,List.length_cons,List.length_nil]at h2⊢
   omega
theorem ZaG{l:List Int}(hl:∀x∈l,0≤x∧x<256):∀s∈Zf l,s.size≤l.length:=by
 intro s hs
 obtain⟨a,ha,rfl⟩:=List.mem_map.1 hs
 have:=(ZaV l [] hl (by simp) a ha).2
 rw[strOfNums_size];simpa using this
theorem ZbK:∀(l cur:List Int),1≤(Zv cur l).length∧(Zv cur l).length≤l.length+1
 |[],cur=>by simp[Zv]
 |[c],cur=>by simp[Zv]
 |c::d::r,cur=>by
  rw[Zv]
  split
  ·have:=ZbK r []
   simp only[List.length_cons];omega
  ·have:=ZbK (d::r) (cur++[c])
   simp only[List.length_cons]at this⊢;omega
theorem ZaW(l:List Int):1≤(Zf l).length∧(Zf l).length≤l.length+1:=by
 unfold Zf;rw[List.length_map];exact ZbK l []
theorem Zbf:∀(t:List Int)(i:Nat),0≤Zr i t→(i:Int)+4≤Zr i t∧Zr i t≤i+t.length
 |[],i,h=>by simp[Zr]at h
 |c::r,i,h=>by
  rw[Zr]at h⊢
  by_cases q:(c::r).take 4=[13,10,13,10]
  ·rw[if_pos q]
   have:=congrArg List.length q
   simp at this
   simp only[List.length_cons]
   omega
  ·rw[if_neg q]at h⊢
   have:=Zbf r (i+1) h
   simp only[List.length_cons]
   omega
theorem Zdm(l:List Int)(hl:l.length≤1048576)(hr:∀x∈l,0≤x∧x<256):strings_Split.f (strOfNums l) (⟨#[13,10]⟩:BA)=some (Zf l):=by
 unfold strings_Split.f
 rw[if_pos ⟨by rw[strOfNums_size];omega,by decide⟩,ZcF _ _ (Nat.le_refl _),bytesOf_strOfNums l hr]
theorem ZE(s:BA)(l:List UInt8):s.toList=l↔bytesOf s=l.map fun b=>(b.toNat:Int):=by
 rw[Lib.toList_data]
 unfold bytesOf
 constructor
 ·intro h;rw[h]
 ·intro h;exact List.map_inj_right (fun x y hxy=>UInt8.toNat_inj.mp (by omega)) |>.mp h
theorem Za3:∀(l:List UInt8)(c:UInt8),0≤Lib.indexByte l c↔c∈l
 |[],c=>by simp[Lib.indexByte]
 |b::l,c=>by
  have ih:=Za3 l c
  have hg:=Lib.indexByte_ge l c
  simp only[Lib.indexByte]
  by_cases h:b=c
  ·subst h;simp
  ·have h':(b==c)=false:=by simpa using h
   have h2:¬c=b:=fun e=>h e.symm
   rw[h']
   simp only[Bool.false_eq_true,if_false,List.mem_cons,h2,false_or,←ih]
   by_cases q:Lib.indexByte l c= -1
   ·simp[q]
   ·have:(Lib.indexByte l c== -1)=false:=by simpa using q
    rw[this];simp only[Bool.false_eq_true,if_false];omega
theorem Zd2(s:BA)(c:UInt8):c∈s.data.toList↔(c.toNat:Int)∈bytesOf s:=by
 unfold bytesOf
 rw[List.mem_map]
 constructor
 ·intro h;exact⟨c,h,rfl⟩
 ·rintro⟨d,hd,he⟩
  have:d=c:=UInt8.toNat_inj.mp (by omega)
  rw[←this];exact hd
def tkC(c:Int)(r:List Int):List Int:=r.takeWhile fun x=>decide (x≠c)
def drC(c:Int)(r:List Int):List Int:=r.dropWhile fun x=>decide (x≠c)
theorem Zb1(c:Int)(r:List Int):tkC c r++drC c r=r:=List.takeWhile_append_dropWhile
theorem Zd3(c:Int):∀r,c∉tkC c r
 |[]=>by simp[tkC]
 |x::r=>by
  unfold tkC
  rw[List.takeWhile_cons]
  split
  ·rename_i h
   have h2:=Zd3 c r
   unfold tkC at h2
   simp only[decide_eq_true_eq]at h
   simp only[List.mem_cons,not_or]
   exact⟨fun e=>h e.symm,h2⟩
  ·simp
theorem Zeq{c:Int}{r:List Int}{a:Int}{u:List Int}(h:drC c r=a::u):a=c:=by
 have:=List.head_dropWhile_not (p:=fun x:Int=>decide (x≠c)) (l:=r) (by unfold drC at h;rw[h];simp)
 unfold drC at h
 simp only[h,List.head_cons]at this
 simpa using this
theorem ZaM(c:Int)(r:List Int):(tkC c r).length+(drC c r).length=r.length:=by rw[←List.length_append,Zb1]
theorem Zbg(c:UInt8):∀l:List UInt8,Lib.index l [c]=if(l.dropWhile fun x=>decide (x≠c))=[]then -1 else((l.takeWhile fun x=>decide (x≠c)).length:Int)
 |[]=>rfl
 |b::l=>by
  have ih:=Zbg c l
  rw[Lib.index]
  simp only[List.isPrefixOf,Bool.and_true]
  by_cases q:b=c
  ·subst q
   simp
  ·have q1:¬c=b:=fun e=>q e.symm
   have q2:(c==b)=false:=by simpa using q1
   rw[q2,if_neg (by simp),ih,List.dropWhile_cons,List.takeWhile_cons]
   simp only[ne_eq,q,not_false_iff,decide_true,if_true]
   by_cases q3:(l.dropWhile fun x=>decide (¬x=c))=[]
   ·simp only[ne_eq,q3,if_true];rfl
   ·simp only[ne_eq,if_neg q3]
    rw[if_neg (by simp only[beq_iff_eq];omega)]
    simp
theorem Zc5(c:UInt8)(l:List UInt8):Lib.cut l [c]=(l.takeWhile (fun x=>decide (x≠c)),(l.dropWhile fun x=>decide (x≠c)).tail,decide ((l.dropWhile fun x=>decide (x≠c))≠[])):=by
 have ha:=List.takeWhile_append_dropWhile (p:=fun x=>decide (x≠c)) (l:=l)
 unfold Lib.cut
 rw[Zbg]
 generalize(l.takeWhile fun x=>decide (x≠c))=t at ha
 generalize(l.dropWhile fun x=>decide (x≠c))=d at ha
 by_cases q:d=[]
 ·subst q
  rw[List.append_nil]at ha
  rw[if_pos rfl,if_neg (by decide),ha]
  rfl
 ·rw[if_neg q,if_pos (by omega)]
  subst ha
  simp only[Int.toNat_natCast,List.length_cons,List.length_nil,List.take_left,Nat.zero_add,decide_eq_true q,ne_eq,not_false_iff]
  cases d with
  |nil=>exact absurd rfl q
  |cons x u=>
   refine Prod.ext rfl (Prod.ext ?_ rfl)
   show List.drop (t.length+1) (t++x::u)=u
   rw[show t++x::u=(t++[x])++u by simp]
   exact List.drop_left' (by simp)
theorem Zd4(c:UInt8)(l:List UInt8):(l.takeWhile fun x=>decide (x≠c)).map (fun b=>(b.toNat:Int))=tkC (c.toNat:Int) (l.map fun b=>(b.toNat:Int)):=by
 unfold tkC
 rw[List.takeWhile_map]
 congr 2
 funext x
 simp only[Function.comp,decide_eq_decide]
 constructor
 ·intro h e;exact h (UInt8.toNat_inj.1 (by omega))
 ·intro h e;exact h (by rw[e])
theorem Zc6(c:UInt8)(l:List UInt8):(l.dropWhile fun x=>decide (x≠c)).map (fun b=>(b.toNat:Int))=drC (c.toNat:Int) (l.map fun b=>(b.toNat:Int)):=by
 unfold drC
 rw[List.dropWhile_map]
 congr 2
 funext x
 simp only[Function.comp,decide_eq_decide]
 constructor
 ·intro h e;exact h (UInt8.toNat_inj.1 (by omega))
 ·intro h e;exact h (by rw[e])
theorem ZeM(s:BA)(c:UInt8)(h:s.size<4294967281):∃a b,strings_Cut.f s (⟨#[c]⟩:BA)=some (a,b,decide (drC (c.toNat:Int) (bytesOf s)≠[]))∧bytesOf a=tkC (c.toNat:Int) (bytesOf s)∧bytesOf b=(drC (c.toNat:Int) (bytesOf s)).tail:=by
 have hb:bytesOf s=s.data.toList.map fun b=>(b.toNat:Int):=rfl
 refine⟨⟨(Lib.cut s.data.toList [c]).1.toArray⟩,⟨(Lib.cut s.data.toList [c]).2.1.toArray⟩,?_,?_,?_⟩
 ·unfold strings_Cut.f
  rw[if_pos h,show((⟨#[c]⟩:BA).data.toList)=[c]from rfl,Zc5]
  rw[hb,←Zc6]
  simp only[ne_eq,List.map_eq_nil_iff]
 ·rw[bytesOf_mk,Zc5,Zd4,hb]
 ·rw[bytesOf_mk,Zc5]
  show(List.dropWhile _ _).tail.map _=_
  rw[List.map_tail,Zc6]
  rfl
def Z4(c:Int):List Int→List Int→List (List Int)
 |cur,[]=>[cur]
 |cur,x::r=>if x=c then cur::Z4 c [] r else Z4 c (cur++[x]) r
def Zg(c:Int)(l:List Int):List BA:=(Z4 c [] l).map strOfNums
theorem Zc7(c:Int):∀(l cur:List Int),Z4 c cur l=if drC c l=[]then[cur++l]else(cur++tkC c l)::Z4 c [] (drC c l).tail
 |[],cur=>by simp[Z4,drC]
 |x::r,cur=>by
  by_cases q:x=c
  ·rw[Z4,if_pos q]
   have e1:drC c (x::r)=x::r:=by simp[drC,q]
   have e2:tkC c (x::r)=[]:=by simp[tkC,q]
   rw[e1,e2,if_neg (by simp)];simp
  ·have e1:drC c (x::r)=drC c r:=by simp[drC,q]
   have e2:tkC c (x::r)=x::tkC c r:=by simp[tkC,q]
   rw[Z4,if_neg q,Zc7 c r (cur++[x]),e1,e2]
   by_cases q1:drC c r=[]
   ·rw[if_pos q1,if_pos q1];simp
   ·rw[if_neg q1,if_neg q1];simp
theorem Zd5(c:UInt8)(s:BA):Lib.indexB s ⟨#[c]⟩=if drC (c.toNat:Int) (bytesOf s)=[]then -1 else((tkC (c.toNat:Int) (bytesOf s)).length:Int):=by
 show Lib.index s.data.toList [c]=_
 rw[Zbg]
 have hb:bytesOf s=s.data.toList.map fun b=>(b.toNat:Int):=rfl
 rw[hb,←Zc6,←Zd4]
 simp only[List.map_eq_nil_iff,List.length_map]
theorem ZcG(c:UInt8):∀(n:Nat)(s:BA),s.size≤n→Lib.splitB ⟨#[c]⟩ 0 (Lib.countB s ⟨#[c]⟩) s=Zg (c.toNat:Int) (bytesOf s):=by
 intro n
 induction n with
 |zero=>
  intro s h
  have h0:bytesOf s=[]:=List.eq_nil_of_length_eq_zero (by rw[bytesOf_length];omega)
  have hi:Lib.indexB s ⟨#[c]⟩= -1:=by rw[Zd5,h0];rfl
  rw[Lib.splitB_miss _ _ _ _ hi]
  unfold Zg
  rw[h0]
  have:s=strOfNums []:=by rw[←h0,strOfNums_bytesOf]
  rw[this];rfl
 |succ n ih=>
  intro s h
  have hi:=Zd5 c s
  unfold Zg
  rw[Zc7]
  by_cases q:drC (c.toNat:Int) (bytesOf s)=[]
  ·rw[if_pos q]at hi
   rw[Lib.splitB_miss _ _ _ _ hi,if_pos q]
   simp[strOfNums_bytesOf]
  ·rw[if_neg q]at hi
   have h1:1≤(⟨#[c]⟩:BA).size:=Nat.le_refl 1
   rw[if_neg q,Lib.countB_hit s ⟨#[c]⟩ _ h1 hi,Nat.add_comm,Lib.splitB_hit _ _ _ _ _ hi]
   have hl:=ZaM (c.toNat:Int) (bytesOf s)
   rw[bytesOf_length]at hl
   have hd:0<(drC (c.toNat:Int) (bytesOf s)).length:=List.length_pos_iff.2 q
   have e1:bytesOf (s.extract ((tkC (c.toNat:Int) (bytesOf s)).length+(⟨#[c]⟩:BA).size) s.size)=(drC (c.toNat:Int) (bytesOf s)).tail:=by
    rw[bytesOf_extract,List.take_of_length_le (by rw[bytesOf_length];exact Nat.le_refl _)]
    have h2:= @List.drop_left _ (tkC (c.toNat:Int) (bytesOf s)) (drC (c.toNat:Int) (bytesOf s))
    rw[Zb1]at h2
    show(bytesOf s).drop ((tkC (c.toNat:Int) (bytesOf s)).length+1)=_
    rw[←List.drop_drop,h2,List.drop_one]
   have e2:s.extract 0 ((tkC (c.toNat:Int) (bytesOf s)).length+0)=strOfNums (tkC (c.toNat:Int) (bytesOf s)):=by
    apply bytesOf_inj
    have h2:= @List.take_left _ (tkC (c.toNat:Int) (bytesOf s)) (drC (c.toNat:Int) (bytesOf s))
    rw[Zb1]at h2
    rw[bytesOf_extract,Nat.add_zero,h2,List.drop_zero,bytesOf_strOfNums]
    intro x hx
    exact bytesOf_range s x (by rw[←Zb1 (c.toNat:Int) (bytesOf s)];exact List.mem_append_left _ hx)
   have hsz:(s.extract ((tkC (c.toNat:Int) (bytesOf s)).length+(⟨#[c]⟩:BA).size) s.size).size≤n:=by
    rw[size_len,e1,List.length_tail];omega
   rw[ih _ hsz,e1,e2]
   simp[Zg]
theorem ZdL{l:List Int}{i st:Nat}{c:Int}{r:List Int}(h:l.drop i=c::r)(hs:st≤i):(l.take (i+1)).drop st=(l.take i).drop st++[c]:=by
 obtain⟨_,h2,_,h4⟩:=l_drop h
 rw[List.take_add_one,h4,Option.toList_some,List.drop_append_of_le_length (by rw[List.length_take];omega)]
theorem ZbL(z:Int)(s:BA)(hs:s.size≤1048576):Ev (fun k=>spec_l2Split.f k s z) (Zg z (bytesOf s)):=by
 have key:=str_loop_st s (fun i (x:List BA×Nat) k=>spec_l2Split.l0 k s z x.1 (x.2:Int) (i:Int)) (fun i x r=>x.1++(Z4 z (((bytesOf s).take i).drop x.2) r).map strOfNums) (fun i x r=>x.2≤i∧x.1.length≤i∧i+r.length=s.size) ?_ ?_ (by omega) 0 ([],0) ⟨Nat.le_refl _,by simp,by simp[bytesOf_length]⟩
 ·unfold spec_l2Split.f Zg
  simpa using key
 ·rintro i ⟨acc,st⟩ ⟨h1,h2,h3⟩ hi
  have hi':i=s.size:=by simpa using h3
  have hw:wrap64 ((i:Int)+1)=((i+1:Nat):Int):=by rw[wrap_id (by omega) (by omega)];rfl
  have a1:(i:Int)≤(s.size:Int):=by omega
  have a2:(i:Int)=(s.size:Int):=by omega
  have a3:(0:Int)≤(st:Int):=by omega
  have a4:(st:Int)≤(i:Int):=by simp at h1;omega
  have a5:acc.length<8796093022208:=by simp at h2;omega
  have a6:¬((i+1:Nat):Int)≤(s.size:Int):=by omega
  apply ev_succ
  simp only[spec_l2Split.l0,if_pos a1,if_pos a2,if_pos a3,if_pos a4,if_pos a5,hw,Int.toNat_natCast]
  apply ev_succ
  simp only[spec_l2Split.l0,if_neg a6]
  have e:s.extract st i=strOfNums (((bytesOf s).take i).drop st):=by rw[←bytesOf_extract,strOfNums_bytesOf]
  rw[e]
  exact Ev.now _
 ·rintro i ⟨acc,st⟩ c r ⟨h1,h2,h3⟩ h hb hi hw hw1 ih
  have a1:(i:Int)≤(s.size:Int):=by omega
  have a2:¬(i:Int)=(s.size:Int):=by omega
  have a3:(0:Int)≤(st:Int):=by omega
  have a4:(st:Int)≤(i:Int):=by simp at h1;omega
  have a5:acc.length<8796093022208:=by simp at h2;omega
  have a6:(i:Int)<(s.size:Int):=by omega
  have a7:(0:Int)≤(i:Int):=by omega
  have a8:i+1+r.length=s.size:=by simp at h3;omega
  have a9:st≤i:=h1
  have a10:acc.length≤i:=h2
  apply ev_succ
  simp only[spec_l2Split.l0,if_pos a1,if_neg a2,if_pos a6,if_pos a7,hb,hw1]
  refine ev_ite (fun q=> ?_) (fun q=> ?_)
  ·simp only[if_pos a3,if_pos a4,if_pos a5,Int.toNat_natCast]
   have:=ih (acc++[s.extract st i],i+1) ⟨Nat.le_refl _,by simp;exact a10,a8⟩
   have e:s.extract st i=strOfNums (((bytesOf s).take i).drop st):=by rw[←bytesOf_extract,strOfNums_bytesOf]
   have e2:((bytesOf s).take (i+1)).drop (i+1)=[]:=List.drop_eq_nil_of_le (by rw[List.length_take];exact Nat.min_le_left _ _)
   simp only[e2,e]at this
   rw[e]
   simp only[Z4,if_pos q,List.map_cons]
   simpa using this
  ·have:=ih (acc,st) ⟨Nat.le_succ_of_le a9,Nat.le_succ_of_le a10,a8⟩
   simp only[ZdL h a9]at this
   simp only[Z4,if_neg q]
   exact this
theorem Zb2(c:Int):impl_isLarge.f c=some (Z2 c):=by
 unfold impl_isLarge.f Z2;split<;>simp[*]<;>omega
def ZS(c:Int):Int:=if Z2 c=true then c+32 else c
def ZU(l:List Int):List Int:=l.map ZS
theorem ZdM{c:Int}(h:0≤c∧c<256):0≤ZS c∧ZS c<256:=by
 unfold ZS Z2
 split
 ·rename_i q
  simp at q
  omega
 ·exact h
theorem Zc8{c:Int}(h:0≤c∧c<256)(q:Z2 c=true):(c+32)%256=ZS c:=by
 have:=ZdM h
 unfold ZS at this⊢
 rw[if_pos q]at this⊢
 omega
def Zj(s:BA):BA:=strOfNums (ZU (bytesOf s))
theorem ZcH(l:List Int)(hl:l.length≤1048576)(hr:∀x∈l,0≤x∧x<256):∀n i,l.length-i=n→i≤l.length→Ev (fun k=>impl_Lower.l0 k ((ZU l).take i++l.drop i) (l.length:Int) (i:Int)) (strOfNums (ZU l)):=by
 intro n
 induction n with
 |zero=>
  intro i hn hi
  have h0:i=l.length:=by omega
  subst h0
  apply ev_succ;simp only[impl_Lower.l0,if_neg (show¬((l.length:Nat):Int)<(l.length:Int) by omega)]
  simpa[ZU,List.take_of_length_le]using Ev.now _
 |succ n ih=>
  intro i hn hi
  have hlt:i<l.length:=by omega
  have hll:(ZU l).length=l.length:=by simp[ZU]
  have htl:((ZU l).take i).length=i:=by rw[List.length_take];omega
  have hlen:((ZU l).take i++l.drop i).length=l.length:=by rw[List.length_append,htl,List.length_drop];omega
  have hw1:wrap64 ((i:Int)+1)=((i+1:Nat):Int):=by rw[wrap_id (by omega) (by omega)];rfl
  have hrd:rd ((ZU l).take i++l.drop i) (i:Int)=l[i]:=by
   rw[rd,Int.toNat_natCast,List.getD_eq_getElem?_getD,List.getElem?_append_right (by omega),htl,List.getElem?_drop]
   simp[hlt]
  have hc:=hr l[i] (List.getElem_mem _)
  have step:(ZU l).take (i+1)++l.drop (i+1)=(ZU l).take i++ZS l[i]::l.drop (i+1):=by
   rw[List.take_succ_eq_append_getElem (by omega)]
   simp[ZU]
  have hd:l.drop i=l[i]::l.drop (i+1):=List.drop_eq_getElem_cons hlt
  have ih':=ih (i+1) (by omega) (by omega)
  rw[step]at ih'
  apply ev_succ
  simp only[impl_Lower.l0,if_pos (show(i:Int)<(l.length:Int) by omega),if_pos (show(0:Int)≤i by omega),hlen,hrd,Zb2,Option.bind_some,hw1]
  refine ev_ite (fun q=> ?_) (fun q=> ?_)
  ·rw[Int.toNat_natCast,Zc8 hc q,List.set_append_right _ _ (by omega),htl,Nat.sub_self,hd,List.set_cons_zero]
   exact ih'
  ·rw[show ZS l[i]=l[i] by unfold ZS;rw[if_neg q],←hd]at ih'
   exact ih'
theorem Za4(s:BA)(hs:s.size≤1048576):Ev (fun k=>impl_Lower.f k s) (Zj s):=by
 unfold impl_Lower.f
 simp only[if_pos (show s.size<140737488355328 by omega),Option.bind_some]
 have:=ZcH (bytesOf s) (by rw[bytesOf_length];exact hs) (bytesOf_range s) _ 0 rfl (Nat.zero_le _)
 simpa[Zj]using this
def Zw(c:Int):Bool:=decide (c=32)||decide (c=9)
def Zu(l:List Int):List Int:=l.dropWhile Zw
def Zq(l:List Int):List Int:=(l.reverse.dropWhile Zw).reverse
theorem Zb3(c:Int)(r:List Int):Zq (c::r)=if Zq r=[]then(if Zw c=true then[]else[c])else c::Zq r:=by
 unfold Zq
 rw[List.reverse_cons,List.dropWhile_append]
 by_cases h:r.reverse.dropWhile Zw=[]
 ·rw[h]
  by_cases q:Zw c=true
  ·simp[q]
  ·simp[q]
 ·have:(r.reverse.dropWhile Zw).isEmpty=false:=by simpa using h
  rw[this]
  simp[h]
theorem Zcw:∀l:List Int,Zu (Zq l)=Zq (Zu l)
 |[]=>rfl
 |c::r=>by
  have ih:=Zcw r
  rw[Zb3]
  by_cases q:Zw c=true
  ·have e:Zu (c::r)=Zu r:=by unfold Zu;rw[List.dropWhile_cons_of_pos q]
   rw[e,←ih]
   by_cases h:Zq r=[]
   ·rw[if_pos h,if_pos q,h]
   ·rw[if_neg h]
    unfold Zu;rw[List.dropWhile_cons_of_pos q]
  ·have e:∀x:List Int,Zu (c::x)=c::x:=fun x=>by unfold Zu;rw[List.dropWhile_cons_of_neg q]
   rw[e,Zb3]
   by_cases h:Zq r=[]
   ·rw[if_pos h,if_neg q];exact e []
   ·rw[if_neg h];exact e _
def ZaX(s:BA):BA:=strOfNums (Zu (Zq (bytesOf s)))
theorem Zer{l:List Int}{x:Int}(h:x∈Zu (Zq l)):x∈l:=by
 unfold Zu Zq at h
 have h1:=(List.dropWhile_sublist _).subset h
 have h2:=(List.dropWhile_sublist _).subset (List.mem_reverse.1 h1)
 exact List.mem_reverse.1 h2
theorem Zb4(s:BA):bytesOf (ZaX s)=Zu (Zq (bytesOf s)):=bytesOf_strOfNums _ (fun x hx=>bytesOf_range s x (Zer hx))
theorem Zcx(s:BA):(ZaX s).size≤s.size:=by
 rw[size_len,Zb4,size_len]
 unfold Zu Zq
 have h1:=(List.dropWhile_sublist Zw (l:=((bytesOf s).reverse.dropWhile Zw).reverse)).length_le
 have h2:=(List.dropWhile_sublist Zw (l:=(bytesOf s).reverse)).length_le
 simp only[List.length_reverse]at h1 h2
 omega
theorem Z9{α β:Type}(f:α→β)(p:β→Bool):∀l:List α,(l.map f).dropWhile p=(l.dropWhile (fun x=>p (f x))).map f
 |[]=>rfl
 |x::r=>by
  rw[List.map_cons]
  by_cases q:p (f x)=true
  ·rw[List.dropWhile_cons_of_pos q,List.dropWhile_cons_of_pos (by exact q),Z9 f p r]
  ·rw[List.dropWhile_cons_of_neg q,List.dropWhile_cons_of_neg (by exact q),List.map_cons]
theorem Zes(b:UInt8):([32,9]:List UInt8).contains b=Zw (b.toNat:Int):=by
 have H:∀n:Fin 256,([32,9]:List UInt8).contains (UInt8.ofNat n.val)=Zw (n.val:Int):=by decide+kernel
 have:=H ⟨b.toNat,b.toNat_lt⟩
 simpa using this
theorem Zbh(s:BA)(hs:s.size≤140737488351232):impl_Trim.f s=some (ZaX s):=by
 unfold impl_Trim.f strings_Trim.f
 rw[if_pos ⟨by omega,by decide,by decide⟩]
 simp only[Option.bind_some]
 congr 1
 apply bytesOf_inj
 rw[Zb4,bytesOf_mk]
 unfold Lib.trimS Lib.trimLeftS Lib.trimRightS Zu Zq bytesOf
 have e:(fun x:UInt8=>([32,9]:List UInt8).contains x)=fun x=>Zw (x.toNat:Int):=funext Zes
 show List.map _ (List.dropWhile (fun x=>([32,9]:List UInt8).contains x) (List.dropWhile (fun x=>([32,9]:List UInt8).contains x) s.data.toList.reverse).reverse)=_
 rw[e,←List.map_reverse,Z9,←List.map_reverse,Z9]
theorem Zb5(c:Int):spec_l1Blank.f c=some (Zw c):=by
 unfold spec_l1Blank.f Zw
 by_cases h:c=32
 ·rw[if_pos h];simp[h]
 ·rw[if_neg h];simp[h];rfl
theorem Zdn{x:BA}{c:Int}{r:List Int}(h:bytesOf x=c::r):bt x 0=c∧bytesOf (x.extract 1 x.size)=r∧x.size=r.length+1:=by
 have hd:(bytesOf x).drop 0=c::r:=by simpa using h
 obtain⟨h1,h2,h3⟩:=bt_drop hd
 refine⟨by simpa using h1,?_,by rw[size_len,h];rfl⟩
 rw[bytesOf_extract,List.take_of_length_le (by rw[←size_len];exact Nat.le_refl _)]
 exact h3
theorem Zc9{x:BA}{c:Int}{r:List Int}(h:bytesOf x=r++[c]):bt x (r.length:Int)=c∧bytesOf (x.extract 0 r.length)=r∧x.size=r.length+1:=by
 have hd:(bytesOf x).drop r.length=[c]:=by rw[h];simp
 obtain⟨h1,h2,h3⟩:=bt_drop hd
 refine⟨h1,?_,by rw[size_len,h];simp⟩
 rw[bytesOf_extract,h]
 simp
theorem Zau:∀(l:List Int)(x:BA),bytesOf x=l.reverse→x.size≤1048576→Ev (fun k=>spec_Trim.l1 k x) (strOfNums (Zq (bytesOf x)))
 |[],x,h,hs=>by
  have h0:x.size=0:=by rw[size_len,h];rfl
  apply ev_succ;simp only[spec_Trim.l1,if_neg (show¬(x.size:Int)>0 by omega)]
  rw[h]
  have:x=strOfNums (Zq ([]:List Int).reverse):=by rw[←strOfNums_bytesOf x,h];rfl
  rw[←this];exact Ev.now _
 |c::r,x,h,hs=>by
  rw[List.reverse_cons]at h
  obtain⟨h1,h2,h3⟩:=Zc9 h
  rw[List.length_reverse]at h1 h2 h3
  apply ev_succ
  simp only[spec_Trim.l1,if_pos (show(x.size:Int)>0 by omega),show wrap64 ((x.size:Int)-1)=(r.length:Int)from by rw[wrap_id (by omega) (by omega)];omega,if_pos (show(0:Int)≤(r.length:Int) by omega),if_pos (show(r.length:Int)<(x.size:Int) by omega),if_pos (show(r.length:Int)≤(x.size:Int) by omega),h1,Zb5,Option.bind_some,Int.toNat_natCast]
  refine ev_iteB (fun q=> ?_) (fun q=> ?_)
  ·have ih:=Zau r (x.extract 0 r.length) h2 (by rw[size_len,h2,List.length_reverse];omega)
   have e:Zq (bytesOf x)=Zq (bytesOf (x.extract 0 r.length)):=by
    rw[h,h2]
    unfold Zq
    rw[List.reverse_append,List.reverse_reverse]
    show(List.dropWhile Zw (c::r)).reverse=_
    rw[List.dropWhile_cons_of_pos q]
   rw[e];exact ih
  ·have e:Zq (bytesOf x)=bytesOf x:=by
    rw[h]
    unfold Zq
    rw[List.reverse_append,List.reverse_reverse]
    show(List.dropWhile Zw (c::r)).reverse=_
    rw[List.dropWhile_cons_of_neg (by rw[q];simp),List.reverse_cons]
   rw[e,strOfNums_bytesOf];exact Ev.now _
theorem Zbi:∀(l:List Int)(x:BA),bytesOf x=l→x.size≤1048576→Ev (fun k=>spec_Trim.l0 k x) (strOfNums (Zq (Zu (bytesOf x))))
 |[],x,h,hs=>by
  have h0:x.size=0:=by rw[size_len,h];rfl
  apply ev_succ;simp only[spec_Trim.l0,if_neg (show¬(x.size:Int)>0 by omega)]
  apply ev_succ;simp only[spec_Trim.j1]
  have:=Zau [] x h hs
  rwa[show Zu (bytesOf x)=bytesOf x by rw[h];rfl]
 |c::r,x,h,hs=>by
  obtain⟨h1,h2,h3⟩:=Zdn h
  apply ev_succ
  simp only[spec_Trim.l0,if_pos (show(x.size:Int)>0 by omega),if_pos (show(0:Int)<(x.size:Int) by omega),if_pos (show(1:Int)≤(x.size:Int) by omega),h1,Zb5,Option.bind_some]
  refine ev_iteB (fun q=> ?_) (fun q=> ?_)
  ·have ih:=Zbi r (x.extract 1 x.size) h2 (by rw[size_len,h2];omega)
   have e:Zu (bytesOf x)=Zu (bytesOf (x.extract 1 x.size)):=by
    rw[h,h2]
    unfold Zu
    rw[List.dropWhile_cons_of_pos q]
   rw[e];exact ih
  ·have e:Zu (bytesOf x)=bytesOf x:=by
    rw[h]
    unfold Zu
    rw[List.dropWhile_cons_of_neg (by rw[q];simp)]
   rw[e]
   apply ev_succ;simp only[spec_Trim.j1]
   exact Zau (bytesOf x).reverse x (by rw[List.reverse_reverse]) hs
theorem Zbj(s:BA)(hs:s.size≤1048576):Ev (fun k=>spec_Trim.f k s) (ZaX s):=by
 unfold spec_Trim.f ZaX
 rw[Zcw]
 exact Zbi _ s rfl hs
def Zai(s:BA)(a b:Int):Bool:=decide (a≤(s.size:Int))&&decide ((s.size:Int)≤b)
theorem ZdN(c:Int):impl_isSmall.f c=some (ZbQ c):=by
 unfold impl_isSmall.f ZbQ;split<;>simp[*]<;>omega
theorem ZdO(c:Int)(h:wrap64 c=c):spec_l1Small.f c=some (ZbQ c):=by
 unfold spec_l1Small.f;rw[h,Zx];rfl
def snC(first:Bool)(c:Int):Bool:=ZbQ c||(!first&&(ZM c||decide (c=45)))
def snB:Nat→List Int→Bool
 |_,[]=>true
 |i,c::r=>snC (i==0) c&&snB (i+1) r
def ZG(s:BA):Bool:=snB 0 (bytesOf s)&&Zai s 1 20
theorem Zby(s:BA)(hs:s.size≤140737488351232):Ev (fun k=>impl_SmallName.f k s) (ZG s):=by
 refine str_loop_st s (fun i (_:Unit) k=>impl_SmallName.l0 k s (i:Int)) (fun i _ r=>snB i r&&Zai s 1 20) (fun _ _ _=>True) ?_ ?_ hs 0 () trivial
 ·intro i _ _ hi
  apply ev_succ;simp only[impl_SmallName.l0,if_neg (show¬(i:Int)<s.size by omega),ZcN,Option.bind_some];exact Ev.now _
 ·intro i _ c r _ h hb hi hw hw1 ih
  replace ih:=ih () trivial
  apply ev_succ
  simp only[impl_SmallName.l0,if_pos (show(i:Int)<s.size by omega),if_pos (show(0:Int)≤i by omega),hb,ZdN,ZbR,Option.bind_some,hw1]
  refine ev_iteB (fun q=> ?_) (fun q=>ev_ite (fun q0=> ?_) (fun q0=> ?_))
  ·simpa[snB,snC,q]using ih
  ·have:i=0:=by omega
   subst this;simpa[snB,snC,q]using Ev.now false
  ·have hi0:(i==0)=false:=by simp;omega
   refine ev_iteB (fun q1=> ?_) (fun q1=>ev_ite (fun q2=> ?_) (fun q2=> ?_))
   ·simpa[snB,snC,q,hi0,q1]using ih
   ·subst q2;simpa[snB,snC,q,hi0,q1]using ih
   ·simpa[snB,snC,q,hi0,q1,q2]using Ev.now false
theorem Zak(s:BA)(hs:s.size≤140737488351232):Ev (fun k=>spec_SmallName.f k s) (ZG s):=by
 refine str_loop_st s (fun i (_:Unit) k=>spec_SmallName.l0 k s (i:Int)) (fun i _ r=>snB i r&&Zai s 1 20) (fun _ _ _=>True) ?_ ?_ hs 0 () trivial
 ·intro i _ _ hi
  apply ev_succ;simp only[spec_SmallName.l0,if_neg (show¬(i:Int)<s.size by omega),Zx,Option.bind_some];exact Ev.now _
 ·intro i _ c r _ h hb hi hw hw1 ih
  replace ih:=ih () trivial
  apply ev_succ
  simp only[spec_SmallName.l0,if_pos (show(i:Int)<s.size by omega),if_pos (show(0:Int)≤i by omega),hb,ZdO c hw,ZaR c hw,Option.bind_some,hw1]
  refine ev_iteB (fun q=> ?_) (fun q=>ev_ite (fun q0=> ?_) (fun q0=> ?_))
  ·simpa[snB,snC,q]using ih
  ·have:i=0:=by omega
   subst this;simpa[snB,snC,q]using Ev.now false
  ·have hi0:(i==0)=false:=by simp;omega
   refine ev_iteB (fun q1=> ?_) (fun q1=>ev_ite (fun q2=> ?_) (fun q2=> ?_))
   ·simpa[snB,snC,q,hi0,q1]using ih
   ·subst q2;simpa[snB,snC,q,hi0,q1]using ih
   ·simpa[snB,snC,q,hi0,q1,q2]using Ev.now false
theorem ZeN(x y:S83):x=y↔x.f0=y.f0∧x.f1=y.f1:=by cases x;cases y;simp
theorem ZdP(c:Int):impl_isPlain.f c=some (ZX c):=by
 unfold impl_isPlain.f ZX;split<;>simp[*]<;>omega
def ZV(l:List Int):Bool:=l.all ZX
theorem Za5(s:BA)(hs:s.size≤140737488351232):Ev (fun k=>impl_Plain.f k s) (ZV (bytesOf s)):=by
 refine str_loop s (fun i k=>impl_Plain.l0 k s (i:Int)) ZV ?_ ?_ hs 0
 ·intro i hi
  apply ev_succ;simp only[impl_Plain.l0,if_neg (show¬(i:Int)<s.size by omega)];exact Ev.now _
 ·intro i c r h hb hi hw hw1 ih
  apply ev_succ
  simp only[impl_Plain.l0,if_pos (show(i:Int)<s.size by omega),if_pos (show(0:Int)≤i by omega),hb,ZdP,Option.bind_some,hw1]
  refine ev_ite (fun h=> ?_) (fun h=> ?_)
  ·simpa[ZV,h]using ih
  ·simpa[ZV,h]using Ev.now _
theorem ZcI(s:BA)(hs:s.size≤140737488351232):Ev (fun k=>spec_Plain.f k s) (ZV (bytesOf s)):=by
 refine str_loop s (fun i k=>spec_Plain.l0 k s (i:Int)) ZV ?_ ?_ hs 0
 ·intro i hi
  apply ev_succ;simp only[spec_Plain.l0,if_neg (show¬(i:Int)<s.size by omega)];exact Ev.now _
 ·intro i c r h hb hi hw hw1 ih
  apply ev_succ
  simp only[spec_Plain.l0,if_pos (show(i:Int)<s.size by omega),if_pos (show(0:Int)≤i by omega),hb,hw,Zx,Option.bind_some,hw1]
  refine ev_ite (fun h=> ?_) (fun h=> ?_)
  ·have:ZX c=true:=h
   simpa[ZV,this]using ih
  ·have:ZX c=false:=by simpa[ZX]using h
   simpa[ZV,this]using Ev.now _
def Z5(s:BA):Bool:=decide ((s.size:Int)≤60)&&(ZV (bytesOf s)&&((ZaX s).toList==s.toList))
def ZaY(s:BA):Bool:=decide (¬s.toList=([99,111,110,116,101,110,116,45,108,101,110,103,116,104]:List UInt8))&&decide (¬s.toList=([116,114,97,110,115,102,101,114,45,101,110,99,111,100,105,110,103]:List UInt8))
def ZaN(h:S83):Bool:=ZG h.f0&&(Z5 h.f1&&ZaY h.f0)
def Zt(l:List S83):Bool:=l.all ZaN
def ZdB(l:List S83):Bool:=Zt l&&decide ((l.length:Int)≤8)
theorem ZcJ(s:BA)(hs:s.size≤1048576):Ev (fun k=>impl_valOk.f k s) (Z5 s):=by
 unfold impl_valOk.f Z5
 refine ev_ite (fun q=> ?_) (fun q=> ?_)
 ·rw[decide_eq_true q,Bool.true_and]
  refine Ev.bind (Za5 s (by omega)) (ev_iteB (fun q1=> ?_) (fun q1=> ?_))
  ·rw[q1,Bool.true_and]
   simp only[Zbh s (by omega),Option.bind_some];exact Ev.now _
  ·rw[q1,Bool.false_and];exact Ev.now _
 ·rw[decide_eq_false q,Bool.false_and];exact Ev.now _
theorem Za6(s:BA)(hs:s.size≤1048576):Ev (fun k=>spec_l3Val.f k s) (Z5 s):=by
 unfold spec_l3Val.f Z5
 refine ev_ite (fun q=> ?_) (fun q=> ?_)
 ·rw[decide_eq_true q,Bool.true_and]
  refine Ev.bind (ZcI s (by omega)) (ev_iteB (fun q1=> ?_) (fun q1=> ?_))
  ·rw[q1,Bool.true_and]
   refine Ev.bind (Zbj s hs) ?_
   exact Ev.now _
  ·rw[q1,Bool.false_and];exact Ev.now _
 ·rw[decide_eq_false q,Bool.false_and];exact Ev.now _
theorem Zb6(l:List S83)(hl:l.length≤9223372036854775806)(hs:∀x∈l,x.f0.size≤1048576∧x.f1.size≤1048576):Ev (fun k=>spec_l3Heads.f k l) (ZdB l):=by
 refine list_loop_st l hl (fun i (_:Unit) k=>spec_l3Heads.l0 k l (i:Int)) (fun _ _ r=>Zt r&&decide ((l.length:Int)≤8)) (fun _ _ r=>∀x∈r,x.f0.size≤1048576∧x.f1.size≤1048576) ?_ ?_ 0 () hs
 ·intro i _ _ hi
  apply ev_succ;simp only[spec_l3Heads.l0,if_neg (show¬(i:Int)<l.length by omega)];exact Ev.now _
 ·intro i _ c r hr h hb hi hw1 ih
  have hbb:rd_T83 l (i:Int)=c:=hb _
  obtain⟨hc0,hc1⟩:=hr c (by simp)
  replace ih:=ih () (fun x hx=>hr x (by simp[hx]))
  apply ev_succ
  simp only[spec_l3Heads.l0,if_pos (show(i:Int)<l.length by omega),if_pos (show(0:Int)≤i by omega),hbb,hw1]
  refine Ev.bind (Zak c.f0 (by omega)) (ev_iteB (fun q1=> ?_) (fun q1=> ?_))
  ·refine Ev.bind (Za6 c.f1 (by omega)) (ev_iteB (fun q2=> ?_) (fun q2=> ?_))
   ·refine ev_ite (fun q3=> ?_) (fun q3=>ev_ite (fun q4=> ?_) (fun q4=> ?_))
    ·rw[show(Zt (c::r)&&decide ((l.length:Int)≤8))=false by simp[Zt,ZaN,ZaY,q3]];exact Ev.now _
    ·rw[show(Zt (c::r)&&decide ((l.length:Int)≤8))=false by simp[Zt,ZaN,ZaY,q4]];exact Ev.now _
    ·rw[show Zt (c::r)=Zt r by simp[Zt,ZaN,ZaY,q1,q2,q3,q4]];exact ih
   ·rw[show(Zt (c::r)&&decide ((l.length:Int)≤8))=false by simp[Zt,ZaN,q2]];exact Ev.now _
  ·rw[show(Zt (c::r)&&decide ((l.length:Int)≤8))=false by simp[Zt,ZaN,q1]];exact Ev.now _
def Zda(m p:BA)(l:List S83)(b:BA)(m' p':BA)(l':List S83)(b':BA):Prop:=m=m'∧p=p'∧l=l'∧b=b'
theorem Zb7(c:Int)(h:wrap64 c=c):spec_l1Large.f c=some (Z2 c):=by
 unfold spec_l1Large.f;rw[h,Zx];rfl
def Z1(c:Int):Bool:=decide (33≤c)&&decide (c≤126)
def Zm(p:BA):Bool:=Zai p 1 80&&(bytesOf p).all Z1
def ZI(m:BA):Bool:=(bytesOf m).all Z2&&Zai m 1 9
def ZdQ(m p:BA)(l:List S83)(b:BA):Bool:=ZI m&&(Zm p&&(ZdB l&&decide ((b.size:Int)≤200)))
theorem Zbk:∀l:List Int,l.all Z1=(ZV l&& !decide ((32:Int)∈l))
 |[]=>rfl
 |c::r=>by
  have ih:=Zbk r
  unfold ZV at ih⊢
  rw[List.all_cons,List.all_cons,ih]
  have e:decide ((32:Int)∈c::r)=(decide (c=32)||decide ((32:Int)∈r)):=by
   rw[Bool.eq_iff_iff,Bool.or_eq_true,decide_eq_true_iff,decide_eq_true_iff,decide_eq_true_iff,List.mem_cons];exact⟨fun h=>h.elim (fun e=> .inl e.symm) .inr,fun h=>h.elim (fun e=> .inl e.symm) .inr⟩
  rw[e]
  have h1:Z1 c=(ZX c&& !decide (c=32)):=by
   unfold Z1 ZX
   rw[Bool.eq_iff_iff];simp;omega
  rw[h1]
  cases ZX c<;>cases decide (c=32)<;>cases r.all ZX<;>cases decide ((32:Int)∈r)<;>rfl
theorem Zci(m p:BA)(hm:m.size≤1048576)(hp:p.size≤1048576):Ev (fun k=>impl_lineOk.f k m p) (ZI m&&Zm p):=by
 unfold ZI
 rw[Bool.and_assoc]
 refine str_loop m (fun i k=>impl_lineOk.l0 k m p (i:Int)) (fun r=>r.all Z2&&(Zai m 1 9&&Zm p)) ?_ ?_ (by omega) 0
 ·intro i hi
  apply ev_succ
  simp only[impl_lineOk.l0,if_neg (show¬(i:Int)<m.size by omega),ZcN,Option.bind_some]
  rw[List.all_nil,Bool.true_and]
  refine ev_iteB (fun q=> ?_) (fun q=> ?_)
  ·rw[show Zai m 1 9=true from q,Bool.true_and]
   refine ev_iteB (fun q1=> ?_) (fun q1=> ?_)
   ·rw[show Zm p=(bytesOf p).all Z1 by unfold Zm;rw[show Zai p 1 80=true from q1,Bool.true_and],Zbk]
    refine Ev.bind (Za5 p (by omega)) (ev_iteB (fun q2=> ?_) (fun q2=> ?_))
    ·rw[q2,Bool.true_and]
     have e0:strings_Contains.f p (⟨#[32]⟩:BA)=some (decide (0≤Lib.indexByte p.data.toList 32)):=rfl
     have e1:(0≤Lib.indexByte p.data.toList 32)↔(32:Int)∈bytesOf p:=(Za3 _ _).trans (Zd2 p 32)
     simp only[e0,Option.bind_some,decide_eq_decide.2 e1];exact Ev.now _
    ·rw[q2,Bool.false_and];exact Ev.now _
   ·rw[show Zm p=false by unfold Zm;rw[show Zai p 1 80=false from q1,Bool.false_and]];exact Ev.now _
  ·rw[show Zai m 1 9=false from q,Bool.false_and];exact Ev.now _
 ·intro i c r h hb hi hw hw1 ih
  apply ev_succ
  simp only[impl_lineOk.l0,if_pos (show(i:Int)<m.size by omega),if_pos (show(0:Int)≤i by omega),hb,Zb2,Option.bind_some,hw1]
  refine ev_iteB (fun q=> ?_) (fun q=> ?_)
  ·rw[List.all_cons,q,Bool.true_and];exact ih
  ·rw[List.all_cons,q,Bool.false_and,Bool.false_and];exact Ev.now _
theorem Zav(m:BA)(hm:m.size≤1048576):Ev (fun k=>spec_l3Method.f k m) (ZI m):=by
 refine str_loop m (fun i k=>spec_l3Method.l0 k m (i:Int)) (fun r=>r.all Z2&&Zai m 1 9) ?_ ?_ (by omega) 0
 ·intro i hi
  apply ev_succ
  simp only[spec_l3Method.l0,if_neg (show¬(i:Int)<m.size by omega),Zx,Option.bind_some]
  rw[List.all_nil,Bool.true_and];exact Ev.now _
 ·intro i c r h hb hi hw hw1 ih
  apply ev_succ
  simp only[spec_l3Method.l0,if_pos (show(i:Int)<m.size by omega),if_pos (show(0:Int)≤i by omega),hb,Zb7 c hw,Option.bind_some,hw1]
  refine ev_iteB (fun q=> ?_) (fun q=> ?_)
  ·rw[List.all_cons,q,Bool.true_and];exact ih
  ·rw[List.all_cons,q,Bool.false_and,Bool.false_and];exact Ev.now _
theorem Zaw(p:BA)(hp:p.size≤1048576):Ev (fun k=>spec_l3Target.f k p) (Zm p):=by
 unfold Zm
 rw[Bool.and_comm]
 refine str_loop p (fun i k=>spec_l3Target.l0 k p (i:Int)) (fun r=>r.all Z1&&Zai p 1 80) ?_ ?_ (by omega) 0
 ·intro i hi
  apply ev_succ
  simp only[spec_l3Target.l0,if_neg (show¬(i:Int)<p.size by omega),Zx,Option.bind_some]
  rw[List.all_nil,Bool.true_and];exact Ev.now _
 ·intro i c r h hb hi hw hw1 ih
  apply ev_succ
  simp only[spec_l3Target.l0,if_pos (show(i:Int)<p.size by omega),if_pos (show(0:Int)≤i by omega),hb,hw,Zx,Option.bind_some,hw1]
  refine ev_iteB (fun q=> ?_) (fun q=> ?_)
  ·rw[List.all_cons,show Z1 c=true from q,Bool.true_and];exact ih
  ·rw[List.all_cons,show Z1 c=false from q,Bool.false_and,Bool.false_and];exact Ev.now _
theorem ZcK(m p:BA)(l:List S83)(b:BA)(hm:m.size≤1048576)(hp:p.size≤1048576)(hl:l.length≤9223372036854775806)(hs:∀x∈l,x.f0.size≤1048576∧x.f1.size≤1048576):Ev (fun k=>spec_ReqOk.f k m p l b) (ZdQ m p l b):=by
 unfold spec_ReqOk.f ZdQ
 refine Ev.bind (Zav m hm) (ev_iteB (fun q=> ?_) (fun q=> ?_))
 ·rw[q,Bool.true_and]
  refine Ev.bind (Zaw p hp) (ev_iteB (fun q0=> ?_) (fun q0=> ?_))
  ·rw[q0,Bool.true_and]
   refine Ev.bind (Zb6 l hl hs) (ev_iteB (fun q1=> ?_) (fun q1=> ?_))
   ·rw[q1,Bool.true_and];exact Ev.now _
   ·rw[q1,Bool.false_and];exact Ev.now _
  ·rw[q0,Bool.false_and];exact Ev.now _
 ·rw[q,Bool.false_and];exact Ev.now _
abbrev Zk:=BA×BA×List S83×BA×BA×Bool×Int×Bool×Bool
def TEb:List Int:=[116,114,97,110,115,102,101,114,45,101,110,99,111,100,105,110,103]
def CLb:List Int:=[99,111,110,116,101,110,116,45,108,101,110,103,116,104]
def Zan(n v:BA):Zk→Zk:=fun(m,p,hs,b,co,ch,sz,td,bad)=>
 if(ch||td)=true then(m,p,hs,b,co,ch,sz,td,true)
 else if bytesOf n=TEb then(m,p,hs,b,v,true,sz,td,bad)
 else(m,p,hs,b,co,ch,(ZB v 9999999).1,true,bad|| !(ZB v 9999999).2)
def Ze(s:BA):BA:=Zj (strOfNums (tkC 58 (bytesOf s)))
def Zi(s:BA):BA:=ZaX (strOfNums (drC 58 (bytesOf s)).tail)
def ZW(s:BA):Zk→Zk:=fun(m,p,hs,b,co,ch,sz,td,bad)=>
 if drC 58 (bytesOf s)≠[]∧ZG (Ze s)=true∧Z5 (Zi s)=true then
  if bytesOf (Ze s)=CLb∨bytesOf (Ze s)=TEb then Zan (Ze s) (Zi s) (m,p,hs,b,co,ch,sz,td,bad)
  else(m,p,hs++[⟨Ze s,Zi s⟩],b,co,ch,sz,td,bad)
 else(m,p,hs,b,co,ch,sz,td,true)
theorem ZdR(n v m p:BA)(hs:List S83)(b co:BA)(ch:Bool)(sz:Int)(td bad:Bool)(hv:v.size≤1048576):
  Ev (fun k=>impl_reqHead_special.f k m p hs b co ch sz td bad n v) (Zan n v (m,p,hs,b,co,ch,sz,td,bad)):=by
 have hlit:(n.toList=([116,114,97,110,115,102,101,114,45,101,110,99,111,100,105,110,103]:List UInt8))↔bytesOf n=TEb:=ZE n _
 have hp:=ZbI v 9999999 (by omega)
 have j:∀x:Bool,x=(ch||td)→Ev (fun k=>impl_reqHead_special.j0 k n v x m p hs b co ch sz td bad) (Zan n v (m,p,hs,b,co,ch,sz,td,bad)):=by
  intro x hx
  apply ev_succ
  simp only[impl_reqHead_special.j0]
  unfold Zan
  simp only[]
  rw[←hx]
  cases x with
  |true=>simp only[if_true];exact Ev.now _
  |false=>
   simp only[Bool.false_eq_true,if_false]
   by_cases q:bytesOf n=TEb
   ·simp only[if_pos q,if_pos (hlit.2 q)];exact Ev.now _
   ·simp only[if_neg q,if_neg (fun h=>q (hlit.1 h)),hp,Option.bind_some]
    cases bad<;>simp<;>exact Ev.now _
 unfold impl_reqHead_special.f
 cases ch with
 |true=>simp only[if_true];exact j true rfl
 |false=>simp only[Bool.false_eq_true,if_false];exact j td rfl
theorem ZeO(s m p:BA)(hs:List S83)(b co:BA)(ch:Bool)(sz:Int)(td bad:Bool)(hz:s.size≤1048576)(hl:hs.length≤1048577):
  Ev (fun k=>impl_reqHead_line.f k m p hs b co ch sz td bad s) (ZW s (m,p,hs,b,co,ch,sz,td,bad)):=by
 obtain⟨a,v,e,ha,hv⟩:=ZeM s 58 (by omega)
 have ea:a=strOfNums (tkC 58 (bytesOf s)):=by rw[←strOfNums_bytesOf a,ha];rfl
 have ev:v=strOfNums (drC 58 (bytesOf s)).tail:=by rw[←strOfNums_bytesOf v,hv];rfl
 have hlen:=ZaM 58 (bytesOf s)
 rw[bytesOf_length]at hlen
 have sa:a.size≤1048576:=by rw[ea,strOfNums_size];omega
 have sv:v.size≤1048576:=by rw[ev,strOfNums_size,List.length_tail];omega
 have el:Zj a=Ze s:=by unfold Ze;rw[ea]
 have et:ZaX v=Zi s:=by unfold Zi;rw[ev]
 have sl:(Ze s).size≤1048576:=by rw[←el];unfold Zj ZU;rw[strOfNums_size,List.length_map,bytesOf_length];omega
 have st:(Zi s).size≤1048576:=by rw[←et];have:=Zcx v;omega
 have h1:=Za4 a sa
 have h2:=Zbh v (by omega)
 rw[el]at h1
 rw[et]at h2
 have h3:=Zby (Ze s) (by omega)
 have h4:=ZcJ (Zi s) st
 have jbad:Ev (fun k=>impl_reqHead_line.j0 k (Ze s) (Zi s) true m p hs b co ch sz td bad) (m,p,hs,b,co,ch,sz,td,true):=by
  apply ev_succ;simp only[impl_reqHead_line.j0,if_true];exact Ev.now _
 have hCL:((Ze s).toList=([99,111,110,116,101,110,116,45,108,101,110,103,116,104]:List UInt8))↔bytesOf (Ze s)=CLb:=ZE _ _
 have hTE:((Ze s).toList=([116,114,97,110,115,102,101,114,45,101,110,99,111,100,105,110,103]:List UInt8))↔bytesOf (Ze s)=TEb:=ZE _ _
 have hsp:=ZdR (Ze s) (Zi s) m p hs b co ch sz td bad st
 have jok:Ev (fun k=>impl_reqHead_line.j0 k (Ze s) (Zi s) false m p hs b co ch sz td bad) (if bytesOf (Ze s)=CLb∨bytesOf (Ze s)=TEb then Zan (Ze s) (Zi s) (m,p,hs,b,co,ch,sz,td,bad)else(m,p,hs++[⟨Ze s,Zi s⟩],b,co,ch,sz,td,bad)):=by
  apply ev_succ
  simp only[impl_reqHead_line.j0,Bool.false_eq_true,if_false]
  by_cases q1:bytesOf (Ze s)=CLb
  ·rw[if_pos (show bytesOf (Ze s)=CLb∨bytesOf (Ze s)=TEb from .inl q1)]
   simp only[if_pos (hCL.2 q1)]
   exact Ev.bind hsp (Ev.now _)
  ·simp only[if_neg (fun h=>q1 (hCL.1 h))]
   by_cases q2:bytesOf (Ze s)=TEb
   ·rw[if_pos (show bytesOf (Ze s)=CLb∨bytesOf (Ze s)=TEb from .inr q2)]
    simp only[if_pos (hTE.2 q2)]
    exact Ev.bind hsp (Ev.now _)
   ·rw[if_neg (show¬(bytesOf (Ze s)=CLb∨bytesOf (Ze s)=TEb)from fun h=>h.elim q1 q2)]
    simp only[if_neg (fun h=>q2 (hTE.1 h)),if_pos (show hs.length<4398046511104 by omega)]
    exact Ev.now _
 unfold impl_reqHead_line.f ZW
 simp only[e,Option.bind_some,decide_eq_true_iff]
 refine Ev.bind h1 ?_
 simp only[h2,Option.bind_some]
 have e58:((58:UInt8).toNat:Int)=58:=rfl
 simp only[e58]
 by_cases q0:drC 58 (bytesOf s)≠[]
 ·simp only[if_pos q0]
  refine Ev.bind h3 ?_
  by_cases q1:ZG (Ze s)=true
  ·simp only[if_pos q1]
   refine Ev.bind h4 ?_
   by_cases q2:Z5 (Zi s)=true
   ·rw[if_pos ⟨q0,q1,q2⟩,q2];exact jok
   ·rw[if_neg (fun h=>q2 h.2.2),Bool.not_eq_true _ |>.mp q2];exact jbad
  ·simp only[if_neg q1]
   rw[if_neg (fun h=>q1 h.2.1)];exact jbad
 ·simp only[if_neg q0]
  rw[if_neg (fun h=>q0 h.1)];exact jbad
def ZaZ(x:BA)(h:S83):BA:=x++((((h.f0)++(⟨#[58,32]⟩:BA))++h.f1)++(⟨#[13,10]⟩:BA))
def htL:BA→List S83→BA
 |x,[]=>x
 |x,c::r=>htL (ZaZ x c) r
def Za0(l:List S83):BA:=htL (⟨#[]⟩:BA) l
theorem ZeX:(⟨#[58,32]⟩:BA).size=2:=rfl
theorem ZeY:(⟨#[13,10]⟩:BA).size=2:=rfl
theorem Zb8(x:BA)(h:S83):(ZaZ x h).size=x.size+(h.f0.size+2+h.f1.size+2):=by
 unfold ZaZ;simp only[ByteArray.size_append,ZeX,ZeY]
theorem Zdb:∀(l:List S83)(x:BA),(∀y∈l,y.f0.size≤1048576∧y.f1.size≤1048576)→(htL x l).size≤x.size+l.length*2097156
 |[],x,_=>by simp[htL]
 |c::r,x,h=>by
  have h1:=Zdb r (ZaZ x c) (fun y hy=>h y (by simp[hy]))
  have h2:=h c (by simp)
  rw[Zb8]at h1
  simp only[htL,List.length_cons]
  omega
theorem ZcL(l:List S83)(hl:l.length≤1048576)(h:∀y∈l,y.f0.size≤1048576∧y.f1.size≤1048576):(Za0 l).size≤2199027449856:=by
 have:=Zdb l (⟨#[]⟩:BA) h
 rw[show(⟨#[]⟩:BA).size=0 from rfl]at this
 unfold Za0
 omega
theorem Zdo(x:BA)(h:S83):(((x++h.f0)++(⟨#[58,32]⟩:BA))++h.f1)++(⟨#[13,10]⟩:BA)=ZaZ x h:=by
 unfold ZaZ;simp only[ByteArray.append_assoc]
theorem Za9(l:List S83)(hl:l.length≤1048576)(hs:∀x∈l,x.f0.size≤1048576∧x.f1.size≤1048576):Ev (fun k=>spec_l3HeadsText.f k l) (Za0 l):=by
 refine list_loop_st l (by omega) (fun i x k=>spec_l3HeadsText.l0 k l x (i:Int)) (fun _ x r=>htL x r) (fun i x r=>x.size≤i*2097156∧∀y∈r,y.f0.size≤1048576∧y.f1.size≤1048576) ?_ ?_ 0 _ ⟨by rw[show(⟨#[]⟩:BA).size=0 from rfl];omega,hs⟩
 ·intro i x _ hi
  apply ev_succ;simp only[spec_l3HeadsText.l0,if_neg (show¬(i:Int)<l.length by omega)];exact Ev.now _
 ·intro i x c r ⟨hx,hr⟩ h hb hi hw1 ih
  have hbb:rd_T83 l (i:Int)=c:=hb _
  obtain⟨hc0,hc1⟩:=hr c (by simp)
  replace ih:=ih (ZaZ x c) ⟨by rw[Zb8];omega,fun y hy=>hr y (by simp[hy])⟩
  apply ev_succ
  simp only[spec_l3HeadsText.l0,if_pos (show(i:Int)<l.length by omega),if_pos (show(0:Int)≤i by omega),hbb,hw1,Zdo,ByteArray.size_append,ZeX,ZeY,if_pos (show x.size+c.f0.size≤9223372036854775807 by omega),if_pos (show x.size+c.f0.size+2≤9223372036854775807 by omega),if_pos (show x.size+c.f0.size+2+c.f1.size≤9223372036854775807 by omega),if_pos (show x.size+c.f0.size+2+c.f1.size+2≤9223372036854775807 by omega)]
  exact ih
theorem ZaC:∀(n u:Nat)(x:BA),u<10^(n+1)→u≤9223372036854775807→x.size≤1000-n→n≤20→bytesOf x=(Zo u).drop ((Zo u).length-1)++(bytesOf x).drop 1→Ev (fun k=>spec_NumText.l0 k (u:Int) x) (strOfNums (Zo u++(bytesOf x).drop 1))
 |0,u,x,h,hu,hx,hn,hb=>by
  have h9:u≤9:=by omega
  apply ev_succ
  simp only[spec_NumText.l0,if_neg (show¬(u:Int)>9 by omega)]
  rw[Zs u h9]at hb⊢
  simp only[List.length_cons,List.length_nil,List.drop_zero,Nat.zero_add,Nat.sub_self]at hb
  rw[←hb,strOfNums_bytesOf]
  exact Ev.now _
 |n+1,u,x,h,hu,hx,hn,hb=>by
  apply ev_succ
  rcases Nat.lt_or_ge 9 u with h9|h9
  ·have hy:bytesOf (strOfNums [48+((u/10%10:Nat):Int)])=[48+((u/10%10:Nat):Int)]:=bytesOf_strOfNums _ (by intro z hz;simp at hz;omega)
   have hs1:(strOfNums [48+((u/10%10:Nat):Int)]).size=1:=by rw[size_len,hy];rfl
   simp only[spec_NumText.l0,if_pos (show(u:Int)>9 by omega),Zeo u hu,ZbZ (u/10) (by omega),Option.bind_some,hs1,if_pos (show 1+x.size≤9223372036854775807 by omega)]
   have e:bytesOf (strOfNums [48+((u/10%10:Nat):Int)]++x)=(48+((u/10%10:Nat):Int))::bytesOf x:=by rw[bytesOf_append,hy];rfl
   have ih:=ZaC n (u/10) (strOfNums [48+((u/10%10:Nat):Int)]++x) (by rw[Nat.pow_succ]at h;omega) (by omega) (by rw[ByteArray.size_append,hs1];omega) (by omega) (by
    rw[e]
    simp only[List.drop_succ_cons,List.drop_zero]
    rcases Nat.lt_or_ge 9 (u/10)with h10|h10
    ·rw[ZF (u/10) h10]
     simp
    ·rw[Zs (u/10) h10,Nat.mod_eq_of_lt (by omega)]
     simp)
   rw[e]at ih
   simp only[List.drop_succ_cons,List.drop_zero]at ih
   rw[ZF u h9]at hb⊢
   simp only[List.length_append,List.length_cons,List.length_nil,Nat.zero_add,Nat.add_sub_cancel,List.drop_left]at hb
   rw[List.append_assoc,←hb]
   exact ih
  ·simp only[spec_NumText.l0,if_neg (show¬(u:Int)>9 by omega)]
   rw[Zs u h9]at hb⊢
   simp only[List.length_cons,List.length_nil,List.drop_zero,Nat.zero_add,Nat.sub_self]at hb
   rw[←hb,strOfNums_bytesOf]
   exact Ev.now _
theorem ZaD(u:Nat)(hu:u≤9223372036854775807):Ev (fun k=>spec_NumText.j0 k (u:Int)) (strOfNums (Zo u)):=by
 apply ev_succ
 simp only[spec_NumText.j0,ZbZ u hu]
 have hy:bytesOf (strOfNums [48+((u%10:Nat):Int)])=[48+((u%10:Nat):Int)]:=bytesOf_strOfNums _ (by intro z hz;simp at hz;omega)
 have hs1:(strOfNums [48+((u%10:Nat):Int)]).size=1:=by rw[size_len,hy];rfl
 have:=ZaC 18 u (strOfNums [48+((u%10:Nat):Int)]) (by omega) hu (by omega) (by omega) (by
  rw[hy]
  rcases Nat.lt_or_ge 9 u with h9|h9
  ·rw[ZF u h9];simp
  ·rw[Zs u h9,Nat.mod_eq_of_lt (by omega)];simp)
 rw[hy]at this
 simpa using this
theorem Zb9(n:Int)(hn:n≤9223372036854775807):Ev (fun k=>spec_NumText.f k n) (strOfNums (Zo n.toNat)):=by
 unfold spec_NumText.f
 refine ev_ite (fun h=> ?_) (fun h=> ?_)
 ·rw[show n.toNat=0 from by omega]
  exact ZaD 0 (by omega)
 ·have:=ZaD n.toNat (by omega)
  rwa[Int.toNat_of_nonneg (by omega)]at this
theorem Zcj:(⟨#[13,10]⟩:BA).size=2:=rfl
def Zck(b:BA):BA:=((⟨#[99,111,110,116,101,110,116,45,108,101,110,103,116,104,58,32]⟩:BA)++strOfNums (Zo b.size))++(⟨#[13,10]⟩:BA)
theorem ZeZ:(⟨#[99,111,110,116,101,110,116,45,108,101,110,103,116,104,58,32]⟩:BA).size=16:=rfl
theorem Zet(u:Nat)(h:u≤1048576):(strOfNums (Zo u)).size≤7:=by
 rw[size_len,bytesOf_strOfNums _ (ZaU u)]
 exact ZbH 6 u (by omega)
theorem ZR(l:List BA)(i:Nat):rdOf ByteArray.empty l (i:Int)=l.getD i ByteArray.empty:=by
 unfold rdOf;rw[Int.toNat_natCast]
def CHb:List Int:=[99,104,117,110,107,101,100]
def Zbl:List Int:=[72,84,84,80,47,49,46,49]
def ZN(st:Zk):List S83:=st.2.2.1
def ZbM(st:Zk):BA:=st.2.2.2.2.1
def Zbm(st:Zk):Bool:=st.2.2.2.2.2.1
def ZaH(st:Zk):Int:=st.2.2.2.2.2.2.1
def ZY(st:Zk):Bool:=st.2.2.2.2.2.2.2.2
def stZ:Zk:=(⟨#[]⟩,⟨#[]⟩,[],⟨#[]⟩,⟨#[]⟩,false,0,false,false)
def Zaf(st:Zk):Int:=if ZY st=true then 400 else if 8<(ZN st).length then 431 else if Zbm st=true∧bytesOf (Zj (ZbM st))≠CHb then 501 else if 200<ZaH st then 413 else 0
theorem Zcy(m p:BA)(hs:List S83)(b co:BA)(ch:Bool)(sz:Int)(td bad:Bool):Zaf (m,p,hs,b,co,ch,sz,td,bad)=if bad=true then 400 else if 8<hs.length then 431 else if ch=true∧bytesOf (Zj co)≠CHb then 501 else if 200<sz then 413 else 0:=rfl
def ZO(ls:List BA)(st:Zk):Zk:=ls.foldl (fun st s=>ZW s st) st
def rhS(l:List Int):Zk×Int:=
 if(Zg 32 (bytesOf ((Zf l).getD 0 ByteArray.empty))).length=3∧bytesOf ((Zg 32 (bytesOf ((Zf l).getD 0 ByteArray.empty))).getD 2 ByteArray.empty)=Zbl∧(ZI ((Zg 32 (bytesOf ((Zf l).getD 0 ByteArray.empty))).getD 0 ByteArray.empty)&&Zm ((Zg 32 (bytesOf ((Zf l).getD 0 ByteArray.empty))).getD 1 ByteArray.empty))=true then
  (ZO ((Zf l).drop 1) ((Zg 32 (bytesOf ((Zf l).getD 0 ByteArray.empty))).getD 0 ByteArray.empty,(Zg 32 (bytesOf ((Zf l).getD 0 ByteArray.empty))).getD 1 ByteArray.empty,[],⟨#[]⟩,⟨#[]⟩,false,0,false,false),
   Zaf (ZO ((Zf l).drop 1) ((Zg 32 (bytesOf ((Zf l).getD 0 ByteArray.empty))).getD 0 ByteArray.empty,(Zg 32 (bytesOf ((Zf l).getD 0 ByteArray.empty))).getD 1 ByteArray.empty,[],⟨#[]⟩,⟨#[]⟩,false,0,false,false)))
 else(stZ,400)
def ZcP(r:Zk×Int):BA×BA×List S83×BA×BA×Bool×Int×Bool×Bool×Int:=
 (r.1.1,r.1.2.1,r.1.2.2.1,r.1.2.2.2.1,r.1.2.2.2.2.1,r.1.2.2.2.2.2.1,r.1.2.2.2.2.2.2.1,r.1.2.2.2.2.2.2.2.1,r.1.2.2.2.2.2.2.2.2,r.2)
def StP(n:Nat)(st:Zk):Prop:=(ZN st).length≤n∧(∀x∈ZN st,x.f0.size≤1048576∧x.f1.size≤1048576)∧(ZbM st).size≤1048576∧0≤ZaH st
theorem ZeP(s:BA)(m:Int):0≤(ZB s m).1:=by
 by_cases h:(ZB s m).2=true
 ·exact(ZdK s m h).1
 ·have e:ZB s m=(0,false)∨(ZB s m).2=true:=by
   by_cases q:∃u:Nat,bytesOf s=Zo u∧s.size≤7∧(u:Int)≤m
   ·obtain⟨u,h1,h2,h3⟩:=q
    right;rw[Zc4 s m u h1 h2 h3]
   ·left;exact ZdA s m (fun u h1 h2 h3=>q ⟨u,h1,h2,h3⟩)
  rcases e with e|e
  ·rw[e];exact Int.le_refl 0
  ·exact absurd e h
theorem Zca(s:BA)(n:Nat)(h:s.size≤n):(Ze s).size≤n:=by
 have hlen:=ZaM 58 (bytesOf s)
 rw[bytesOf_length]at hlen
 have:=bytesOf_length (strOfNums (tkC 58 (bytesOf s)))
 unfold Ze Zj ZU;rw[strOfNums_size,List.length_map,bytesOf_length,strOfNums_size];omega
theorem Zcz(s:BA)(n:Nat)(h:s.size≤n):(Zi s).size≤n:=by
 have hlen:=ZaM 58 (bytesOf s)
 rw[bytesOf_length]at hlen
 have:=Zcx (strOfNums (drC 58 (bytesOf s)).tail)
 rw[strOfNums_size,List.length_tail]at this
 unfold Zi;omega
theorem ZdC{n:Nat}{st:Zk}{s:BA}(h:StP n st)(hs:s.size≤1048576):StP (n+1) (ZW s st):=by
 obtain⟨m,p,hs',b,co,ch,sz,td,bad⟩:=st
 obtain⟨h1,h2,h3,h4⟩:=h
 have hv:=Zcz s 1048576 hs
 have hn:=Zca s 1048576 hs
 simp only[ZN,ZbM,ZaH]at h1 h2 h3 h4
 unfold ZW
 simp only[]
 split
 ·split
  ·unfold Zan
   simp only[]
   split
   ·exact⟨by simp only[ZN];omega,h2,h3,h4⟩
   ·split
    ·exact⟨by simp only[ZN];omega,h2,hv,h4⟩
    ·exact⟨by simp only[ZN];omega,h2,h3,ZeP _ _⟩
  ·refine⟨by simp only[ZN,List.length_append,List.length_cons,List.length_nil];omega,fun x hx=> ?_,h3,h4⟩
   rcases List.mem_append.1 hx with hx|hx
   ·exact h2 x hx
   ·simp only[List.mem_cons,List.not_mem_nil,or_false]at hx
    subst hx;exact⟨hn,hv⟩
 ·exact⟨by simp only[ZN];omega,h2,h3,h4⟩
theorem Zd6:∀(ls:List BA)(n:Nat)(st:Zk),StP n st→(∀x∈ls,x.size≤1048576)→StP (n+ls.length) (ZO ls st)
 |[],n,st,h,_=>h
 |s::ls,n,st,h,hx=>by
  have:=Zd6 ls (n+1) (ZW s st) (ZdC h (hx s (by simp))) (fun x h=>hx x (by simp[h]))
  rw[List.length_cons,show n+(ls.length+1)=n+1+ls.length by omega]
  exact this
theorem Zdc(ls0 ls:List BA)(st:Zk)(i:Int)(hi:¬i<(ls.length:Int))(h:StP 1048577 st):
  Ev (fun k=>impl_readHead.l0 k ls0 ls (ls.length:Int) i st.1 st.2.1 st.2.2.1 st.2.2.2.1 st.2.2.2.2.1 st.2.2.2.2.2.1 st.2.2.2.2.2.2.1 st.2.2.2.2.2.2.2.1 st.2.2.2.2.2.2.2.2) (ZcP (st,Zaf st)):=by
 obtain⟨m,p,hs',b,co,ch,sz,td,bad⟩:=st
 obtain⟨h1,h2,h3,h4⟩:=h
 simp only[ZN,ZbM,ZaH]at h1 h2 h3 h4
 have hlow:=Za4 co h3
 have hlit:((Zj co).toList=([99,104,117,110,107,101,100]:List UInt8))↔bytesOf (Zj co)=CHb:=ZE _ _
 have j2:∀x:Bool,(x=true↔ch=true∧bytesOf (Zj co)≠CHb)→Ev (fun k=>impl_readHead.j2 k x m p hs' b co ch sz td bad) (m,p,hs',b,co,ch,sz,td,bad,if ch=true∧bytesOf (Zj co)≠CHb then 501 else if 200<sz then 413 else 0):=by
  intro x hx
  apply ev_succ
  simp only[impl_readHead.j2]
  by_cases q:x=true
  ·rw[if_pos (hx.1 q)];simp only[if_pos q];exact Ev.now _
  ·rw[if_neg (fun h=>q (hx.2 h))];simp only[if_neg q]
   by_cases q1:sz>200
   ·rw[if_pos (show 200<sz from q1)];simp only[if_pos q1];exact Ev.now _
   ·rw[if_neg (show¬200<sz from q1)];simp only[if_neg q1];exact Ev.now _
 show Ev _ (m,p,hs',b,co,ch,sz,td,bad,Zaf (m,p,hs',b,co,ch,sz,td,bad))
 rw[Zcy]
 apply ev_succ
 simp only[impl_readHead.l0,if_neg hi]
 by_cases c0:bad=true
 ·simp only[if_pos c0];exact Ev.now _
 simp only[if_neg c0]
 by_cases c1:(hs'.length:Int)>8
 ·simp only[if_pos c1,if_pos (show 8<hs'.length by omega)];exact Ev.now _
 simp only[if_neg c1,if_neg (show¬8<hs'.length by omega)]
 cases ch with
 |true=>
  simp only[if_true]
  refine Ev.bind hlow ?_
  have:=j2 ((Zj co).toList !=([99,104,117,110,107,101,100]:List UInt8)) (by
   rw[bne_iff_ne,Ne,hlit];simp)
  simpa using this
 |false=>
  simp only[Bool.false_eq_true,if_false]
  have:=j2 false (by simp)
  simpa using this
theorem ZbB(ls0 ls:List BA)(hx:∀x∈ls,x.size≤1048576)(hn:ls.length≤1048576):∀(m i:Nat)(st:Zk),ls.length-i=m→i≤ls.length→StP i st→
  Ev (fun k=>impl_readHead.l0 k ls0 ls (ls.length:Int) (i:Int) st.1 st.2.1 st.2.2.1 st.2.2.2.1 st.2.2.2.2.1 st.2.2.2.2.2.1 st.2.2.2.2.2.2.1 st.2.2.2.2.2.2.2.1 st.2.2.2.2.2.2.2.2) (ZcP (ZO (ls.drop i) st,Zaf (ZO (ls.drop i) st)))
 |0,i,st,hm,hi,h=>by
  have he:i=ls.length:=by omega
  subst he
  rw[List.drop_length]
  exact Zdc ls0 ls st _ (by omega) ⟨by have:=h.1;omega,h.2⟩
 |m+1,i,st,hm,hi,h=>by
  have hlt:i<ls.length:=by omega
  have hsz:=hx ls[i] (List.getElem_mem hlt)
  have ih:=ZbB ls0 ls hx hn m (i+1) (ZW ls[i] st) (by omega) (by omega) (ZdC h hsz)
  have hw1:wrap64 ((i:Int)+1)=((i+1:Nat):Int):=by rw[wrap_id (by omega) (by omega)];rfl
  have hgt:ls[i]? =some ls[i]:=List.getElem?_eq_getElem hlt
  have hrd:rdOf ByteArray.empty ls (i:Int)=ls[i]:=by rw[ZR,List.getD_eq_getElem?_getD,hgt];rfl
  have hd:ls.drop i=ls[i]::ls.drop (i+1):=List.drop_eq_getElem_cons hlt
  have hfold:ZO (ls.drop i) st=ZO (ls.drop (i+1)) (ZW ls[i] st):=by rw[hd];rfl
  rw[hfold]
  have hl:=h.1
  obtain⟨a0,a1,a2,a3,a4,a5,a6,a7,a8⟩:=st
  simp only[ZN]at hl
  have hline:=ZeO ls[i] a0 a1 a2 a3 a4 a5 a6 a7 a8 hsz (by omega)
  apply ev_succ
  simp only[impl_readHead.l0,if_pos (show(i:Int)<(ls.length:Int) by omega),if_pos (show(0:Int)≤(i:Int) by omega),hrd,hw1]
  exact Ev.bind hline ih
theorem Zd7(s:BA)(c:UInt8)(h:s.size≤1048576):strings_Split.f s (⟨#[c]⟩:BA)=some (Zg (c.toNat:Int) (bytesOf s)):=by
 unfold strings_Split.f
 rw[if_pos ⟨by omega,Nat.le_refl 1⟩,ZcG c s.size s (Nat.le_refl _)]
theorem Zbn(c:Int):∀(l cur:List Int),∀a∈Z4 c cur l,a.length≤cur.length+l.length
 |[],cur,a,h=>by simp[Z4]at h;subst h;simp
 |x::r,cur,a,h=>by
  rw[Z4]at h
  split at h
  ·simp only[List.mem_cons]at h
   rcases h with h|h
   ·subst h;omega
   ·have:=Zbn c r [] a h;simp only[List.length_nil,List.length_cons]at this⊢;omega
  ·have:=Zbn c r _ a h;simp only[List.length_append,List.length_cons,List.length_nil]at this⊢;omega
theorem ZbC(c:Int)(l:List Int)(i:Nat):((Zg c l).getD i ByteArray.empty).size≤l.length:=by
 rw[List.getD_eq_getElem?_getD]
 rcases Nat.lt_or_ge i (Zg c l).length with h|h
 ·rw[List.getElem?_eq_getElem h]
  show((Zg c l)[i]).size≤_
  obtain⟨a,ha,e⟩:=List.mem_map.1 (List.getElem_mem h)
  rw[←e,strOfNums_size]
  have:=Zbn c l [] a ha
  simpa using this
 ·rw[List.getElem?_eq_none h];exact Nat.zero_le _
theorem Zdp(l:List Int)(hl:l.length≤1048576)(hr:∀x∈l,0≤x∧x<256):Ev (fun k=>impl_readHead.f k (strOfNums l)) (ZcP (rhS l)):=by
 have hln:=ZaW l
 have hsz:=ZaG hr
 unfold impl_readHead.f rhS
 simp only[Zdm l hl hr,Option.bind_some]
 generalize Zf l=ls at hln hsz
 have h00:rdOf ByteArray.empty ls 0=ls.getD 0 ByteArray.empty:=ZR ls 0
 have hg:(ls.getD 0 ByteArray.empty).size≤1048576:=by
  rw[List.getD_eq_getElem?_getD,List.getElem?_eq_getElem (show 0<ls.length by omega)]
  have:=hsz ls[0] (List.getElem_mem _)
  show ls[0].size≤_
  omega
 simp only[if_pos (show(0:Int)<(ls.length:Int) by omega),h00,Zd7 _ 32 hg,Option.bind_some,show((32:UInt8).toNat:Int)=32 from rfl]
 have hps:=ZbC 32 (bytesOf (ls.getD 0 ByteArray.empty))
 rw[bytesOf_length]at hps
 generalize Zg 32 (bytesOf (ls.getD 0 ByteArray.empty))=ps at hps
 have g0:rdOf ByteArray.empty ps 0=ps.getD 0 ByteArray.empty:=ZR ps 0
 have g1:rdOf ByteArray.empty ps 1=ps.getD 1 ByteArray.empty:=ZR ps 1
 have g2:rdOf ByteArray.empty ps 2=ps.getD 2 ByteArray.empty:=ZR ps 2
 have hlit:((ps.getD 2 ByteArray.empty).toList=([72,84,84,80,47,49,46,49]:List UInt8))↔bytesOf (ps.getD 2 ByteArray.empty)=Zbl:=ZE _ _
 have jbad:Ev (fun k=>impl_readHead.j0 k ls ps true (⟨#[]⟩:BA) (⟨#[]⟩:BA) ([]:List S83) (⟨#[]⟩:BA) (⟨#[]⟩:BA) false 0 false false) (ZcP (stZ,400)):=by
  apply ev_succ;simp only[impl_readHead.j0,if_true];exact Ev.now _
 by_cases q0:ps.length=3
 ·simp only[if_pos (show(ps.length:Int)=3 by omega),if_pos (show(2:Int)<(ps.length:Int) by omega),g0,g1,g2]
  by_cases q1:bytesOf (ps.getD 2 ByteArray.empty)=Zbl
  ·simp only[if_pos (hlit.2 q1),if_pos (show(0:Int)<(ps.length:Int) by omega),if_pos (show(1:Int)<(ps.length:Int) by omega)]
   refine Ev.bind (Zci _ _ (Nat.le_trans (hps 0) hg) (Nat.le_trans (hps 1) hg)) ?_
   by_cases q2:(ZI (ps.getD 0 ByteArray.empty)&&Zm (ps.getD 1 ByteArray.empty))=true
   ·rw[if_pos ⟨q0,q1,q2⟩,q2]
    apply ev_succ
    simp only[impl_readHead.j0,Bool.not_true,Bool.false_eq_true,if_false,if_pos (show(0:Int)<(ps.length:Int) by omega),if_pos (show(1:Int)<(ps.length:Int) by omega),if_pos (show(1:Int)≤(ls.length:Int) by omega),Option.bind_some,g0,g1]
    have hd:∀x∈ls.drop 1,x.size≤1048576:=fun x hx=>by have:=hsz x (List.mem_of_mem_drop hx);omega
    exact ZbB ls (ls.drop 1) hd (by rw[List.length_drop];omega) _ 0 (ps.getD 0 ByteArray.empty,ps.getD 1 ByteArray.empty,[],⟨#[]⟩,⟨#[]⟩,false,0,false,false) rfl (Nat.zero_le _) ⟨Nat.le_refl 0,fun x hx=>absurd hx (by simp[ZN]),by simp only[ZbM];decide,Int.le_refl 0⟩
   ·rw[if_neg (fun h=>q2 h.2.2),Bool.not_eq_true _ |>.mp q2];exact jbad
  ·simp only[if_neg (fun h=>q1 (hlit.1 h))]
   rw[if_neg (fun h=>q1 h.2.1)];exact jbad
 ·simp only[if_neg (show¬(ps.length:Int)=3 by omega)]
  rw[if_neg (fun h=>q0 h.1)];exact jbad
abbrev Zdd:=BA×BA×List S83×BA×Int×Int
def Zcl(c:Int):Zdd:=(⟨#[]⟩,⟨#[]⟩,[],⟨#[]⟩,0,c)
def ZC(l:List Int)(e:Nat)(m p:BA)(hs:List S83)(ch:Bool)(sz:Int)(code:Int):Zdd:=
 if code≠0 then Zcl code
 else if ch=true then
  (if(chR (l.length+1) (l.drop e) []).2.2=0 then(m,p,hs,strOfNums (chR (l.length+1) (l.drop e) []).1,(l.length:Int)-((chR (l.length+1) (l.drop e) []).2.1.length:Int),0)else Zcl (chR (l.length+1) (l.drop e) []).2.2)
 else if l.length<e+sz.toNat then Zcl 1
 else(m,p,hs,strOfNums ((l.drop e).take sz.toNat),((e+sz.toNat:Nat):Int),0)
def Zc(l:List Int):Zdd:=
 if Zb l<0 then(if 400<l.length then Zcl 431 else Zcl 1)
 else ZC l (Zb l).toNat (rhS (l.take ((Zb l).toNat-4))).1.1 (rhS (l.take ((Zb l).toNat-4))).1.2.1 (ZN (rhS (l.take ((Zb l).toNat-4))).1) (Zbm (rhS (l.take ((Zb l).toNat-4))).1) (ZaH (rhS (l.take ((Zb l).toNat-4))).1) (rhS (l.take ((Zb l).toNat-4))).2
theorem ZdS(l:List Int)(hl:l.length≤1048575)(hr:∀x∈l,0≤x∧x<256):StP 1048577 (rhS l).1∧((rhS l).2=0→ZaH (rhS l).1≤200∧(ZN (rhS l).1).length≤8)∧(rhS l).2≠1:=by
 unfold rhS
 split
 ·have hsz:=ZaG hr
  have hln:=ZaW l
  have h:=Zd6 ((Zf l).drop 1) 0 ((Zg 32 (bytesOf ((Zf l).getD 0 ByteArray.empty))).getD 0 ByteArray.empty,(Zg 32 (bytesOf ((Zf l).getD 0 ByteArray.empty))).getD 1 ByteArray.empty,[],⟨#[]⟩,⟨#[]⟩,false,0,false,false)
   ⟨Nat.le_refl 0,fun x hx=>absurd hx (by simp[ZN]),by simp only[ZbM];decide,Int.le_refl 0⟩ (fun x hx=>by have:=hsz x (List.mem_of_mem_drop hx);omega)
  rw[List.length_drop]at h
  simp only[]
  generalize ZO ((Zf l).drop 1) ((Zg 32 (bytesOf ((Zf l).getD 0 ByteArray.empty))).getD 0 ByteArray.empty,(Zg 32 (bytesOf ((Zf l).getD 0 ByteArray.empty))).getD 1 ByteArray.empty,[],⟨#[]⟩,⟨#[]⟩,false,0,false,false)=st at h
  refine⟨⟨by have:=h.1;omega,h.2⟩,?_,?_⟩
  ·unfold Zaf
   split
   ·intro h;exact absurd h (by decide)
   ·split
    ·intro h;exact absurd h (by decide)
    ·split
     ·intro h;exact absurd h (by decide)
     ·split
      ·intro h;exact absurd h (by decide)
      ·intro _;exact⟨by omega,by omega⟩
  ·unfold Zaf
   repeat' split
   all_goals decide
 ·exact⟨⟨Nat.zero_le _,fun x hx=>absurd hx (by simp[ZN,stZ]),by simp only[ZbM,stZ];decide,Int.le_refl 0⟩,fun h=>absurd h (by decide),by decide⟩
theorem ZaE(l:List Int)(hl:l.length≤1048575)(hr:∀x∈l,0≤x∧x<256):Ev (fun k=>impl_GetReq.f k l) (Zc l):=by
 unfold impl_GetReq.f Zc
 rw[ZbX l hr]
 simp only[Option.bind_some]
 have hb:=Zam (l.take 400) 0
 have h4:=Zbf (l.take 400) 0
 rw[List.length_take]at hb h4
 change Zb l≤_∧_ at hb
 change 0≤Zb l→_ at h4
 by_cases q0:Zb l<0
 ·rw[if_pos q0];simp only[if_pos q0]
  by_cases q1:(l.length:Int)>400
  ·rw[if_pos (show 400<l.length by omega)];simp only[if_pos q1];exact Ev.now _
  ·rw[if_neg (show¬400<l.length by omega)];simp only[if_neg q1];exact Ev.now _
 rw[if_neg q0];simp only[if_neg q0]
 have h44:(4:Int)≤Zb l:=by have:=(h4 (by omega)).1;change (0:Int)+4≤Zb l at this;omega
 obtain⟨e,he⟩:∃e:Nat,Zb l=(e:Int):=⟨(Zb l).toNat,by omega⟩
 rw[he]at hb h44
 simp only[he,Int.toNat_natCast]
 clear h4 q0
 have hw:wrap64 ((e:Int)-4)=((e-4:Nat):Int):=by rw[wrap_id (by omega) (by omega)];omega
 simp only[hw,if_pos (show(0:Int)≤((e-4:Nat):Int) by omega),if_pos (show((e-4:Nat):Int)≤(l.length:Int) by omega),Int.toNat_natCast]
 have hrt:∀x∈l.take (e-4),0≤x∧x<256:=fun x hx=>hr x (List.mem_of_mem_take hx)
 have hlt:(l.take (e-4)).length≤1048575:=by rw[List.length_take];omega
 obtain⟨hP,hP2,_⟩:=ZdS (l.take (e-4)) hlt hrt
 have hrh:=Zdp (l.take (e-4)) (by omega) hrt
 generalize rhS (l.take (e-4))=r at hP hP2 hrh
 obtain⟨⟨m,p,hs,b,co,ch,sz,td,bad⟩,code⟩:=r
 have hrh':Ev (fun k=>impl_readHead.f k (strOfNums (l.take (e-4)))) (m,p,hs,b,co,ch,sz,td,bad,code):=hrh
 refine Ev.bind hrh' ?_
 have hs1:(0:Int)≤sz:=hP.2.2.2
 have hs3:code=0→sz≤200:=fun h=>(hP2 h).1
 clear hP hP2 hrh hrh'
 show Ev _ (ZC l e m p hs ch sz code)
 unfold ZC
 by_cases q1:code=0
 ·simp only[if_neg (show¬code≠0 from fun h=>h q1),if_pos q1]
  have hs2:=hs3 q1
  clear hs3
  cases ch with
  |true=>
   simp only[if_true]
   refine Ev.bind (ZaK l (by omega) hr e (by omega) (l.length+1) (by rw[List.length_drop];omega)) ?_
   generalize chR (l.length+1) (l.drop e) []=c
   obtain⟨c0,c1,c2⟩:=c
   by_cases q2:c2=0
   ·subst q2
    rw[Zc1]
    simp only[if_true];exact Ev.now _
   ·rw[ZaJ _ _ _ q2]
    simp only[if_neg q2];exact Ev.now _
  |false=>
   simp only[Bool.false_eq_true,if_false]
   obtain⟨z,hz⟩:∃z:Nat,sz=(z:Int):=⟨sz.toNat,by omega⟩
   subst hz
   have hw2:wrap64 ((e:Int)+(z:Int))=((e+z:Nat):Int):=by rw[wrap_id (by omega) (by omega)];rfl
   simp only[hw2,Int.toNat_natCast]
   clear hw2 hs1 hs2 hw hb h44 hlt hrt hl hr he q1
   by_cases q2:l.length<e+z
   ·rw[if_pos q2]
    simp only[if_pos (show((e+z:Nat):Int)>(l.length:Int) by omega),if_neg (show¬(1:Int)=0 by decide)]
    exact Ev.now _
   ·rw[if_neg q2]
    simp only[if_neg (show¬((e+z:Nat):Int)>(l.length:Int) by omega),if_pos (show(0:Int)≤(e:Int) by omega),if_pos (show(e:Int)≤((e+z:Nat):Int) by omega),if_pos (show((e+z:Nat):Int)≤(l.length:Int) by omega)]
    have ed:(l.take (e+z)).drop e=(l.drop e).take z:=by rw[List.drop_take,Nat.add_sub_cancel_left]
    rw[ed]
    exact Ev.now _
 ·simp only[if_pos (show code≠0 from q1),if_neg q1]
  exact Ev.now _
def ZD(r:Zdd):Int:=r.2.2.2.2.1
def Zh(r:Zdd):Int:=r.2.2.2.2.2
theorem Zd8(c:Int):Zh (Zcl c)=c:=rfl
theorem ZcA:∀(t y:List Int)(i:Nat),(0≤Zr i t→Zr i (t++y)=Zr i t)∧(Zr i t<0→0≤Zr i (t++y)→((i+t.length:Nat):Int)<Zr i (t++y))
 |[],y,i=>⟨fun h=>absurd h (by simp[Zr]),fun _ h=>by have:=(Zbf y i h).1;simp only[List.nil_append,List.length_nil]at this⊢;omega⟩
 |c::r,y,i=>by
  obtain⟨h1,h2⟩:=ZcA r y (i+1)
  rw[List.cons_append,Zr,Zr]
  by_cases q:(c::r).take 4=[13,10,13,10]
  ·have hl:4≤(c::r).length:=by have:=congrArg List.length q;rw[List.length_take]at this;simp at this⊢;omega
   have q':(c::(r++y)).take 4=[13,10,13,10]:=by rw[←List.cons_append,List.take_append_of_le_length hl];exact q
   rw[if_pos q,if_pos q']
   exact⟨fun _=>rfl,fun h=>by omega⟩
  ·rw[if_neg q]
   by_cases q':(c::(r++y)).take 4=[13,10,13,10]
   ·rw[if_pos q']
    have hl:¬4≤(c::r).length:=fun hl=>q (by rw[←List.cons_append,List.take_append_of_le_length hl]at q';exact q')
    refine⟨fun h=> ?_,fun _ _=>by omega⟩
    rw[Zal r (i+1) (by simp at hl;omega)]at h
    exact absurd h (by decide)
   ·rw[if_neg q']
    refine⟨h1,fun a b=> ?_⟩
    have:=h2 a b
    rw[List.length_cons];omega
theorem Zdq(p y:List Int):(0≤Zb p→Zb (p++y)=Zb p)∧(Zb p<0→0≤Zb (p++y)→(p.length:Int)<Zb (p++y)):=by
 unfold Zb
 rw[List.take_append]
 obtain⟨h1,h2⟩:=ZcA (p.take 400) (y.take (400-p.length)) 0
 refine⟨h1,fun a b=> ?_⟩
 have:=h2 a b
 rw[List.length_take]at this
 by_cases q:p.length<400
 ·omega
 ·rw[show 400-p.length=0 by omega,List.take_zero,List.append_nil]at b
  omega
theorem Zde(l:List Int)(e:Nat)(he:e≤l.length)(m p:BA)(hs:List S83)(ch:Bool)(sz code:Int):Zh (ZC l e m p hs ch sz code)=0→(e:Int)≤ZD (ZC l e m p hs ch sz code):=by
 unfold ZC
 split
 ·intro h;exact absurd h (by assumption)
 ·split
  ·split
   ·rename_i h0
    have h1:=Zap _ _ _ h0
    rw[List.length_drop]at h1
    intro _
    show(e:Int)≤(l.length:Int)-_
    omega
   ·intro h;exact absurd h (by assumption)
  ·split
   ·intro h;exact absurd (show(1:Int)=0 from h) (by decide)
   ·intro _
    show(e:Int)≤((e+sz.toNat:Nat):Int)
    omega
theorem Zeu(p y:List Int)(e:Nat)(he:e≤p.length)(m q:BA)(hs:List S83)(ch:Bool)(sz code:Int):
  (Zh (ZC p e m q hs ch sz code)=0→ZC (p++y) e m q hs ch sz code=ZC p e m q hs ch sz code)∧
  (Zh (ZC p e m q hs ch sz code)≠0→Zh (ZC p e m q hs ch sz code)≠1→Zh (ZC (p++y) e m q hs ch sz code)=Zh (ZC p e m q hs ch sz code))∧
  (Zh (ZC p e m q hs ch sz code)=1→Zh (ZC (p++y) e m q hs ch sz code)=0→(p.length:Int)<ZD (ZC (p++y) e m q hs ch sz code)):=by
 have ed:(p++y).drop e=p.drop e++y:=List.drop_append_of_le_length he
 unfold ZC
 by_cases c0:code≠0
 ·rw[if_pos c0,if_pos c0]
  exact⟨fun _=>rfl,fun _ _=>rfl,fun _ h=>absurd h c0⟩
 rw[if_neg c0,if_neg c0]
 by_cases c1:ch=true
 ·rw[if_pos c1,if_pos c1,ed]
  obtain⟨k0,kc,k1⟩:=Zdy (p.length+1) ((p++y).length+1) (p.drop e) [] y (by rw[List.length_drop];omega) (by rw[List.length_append,List.length_append,List.length_drop];omega)
  by_cases c2:(chR (p.length+1) (p.drop e) []).2.2=0
  ·rw[if_pos c2,k0 c2]
   simp only[if_true]
   refine⟨fun _=> ?_,fun h=>absurd rfl h,fun h=>absurd (show(0:Int)=1 from h) (by decide)⟩
   have hle:=Zap _ _ _ c2
   simp only[Prod.mk.injEq,true_and,and_true,List.length_append]
   omega
  ·rw[if_neg c2]
   refine⟨fun h=>absurd h c2,fun a b=> ?_,fun a=> ?_⟩
   ·have h:=kc c2 b
    rw[if_neg (by rw[h];exact c2),h]
   ·split
    ·rename_i h0
     have h:=k1 a h0
     intro _
     rw[List.length_append]at h⊢
     show(p.length:Int)<((p.length+y.length:Nat):Int)-_
     omega
    ·intro h;exact absurd h (by assumption)
 ·rw[if_neg c1,if_neg c1]
  by_cases c2:p.length<e+sz.toNat
  ·rw[if_pos c2]
   refine⟨fun h=>absurd (show(1:Int)=0 from h) (by decide),fun _ h=>absurd rfl h,fun _=> ?_⟩
   split
   ·intro h;exact absurd (show(1:Int)=0 from h) (by decide)
   ·intro _
    show(p.length:Int)<((e+sz.toNat:Nat):Int)
    omega
  ·rw[if_neg c2,if_neg (by rw[List.length_append];omega),ed,List.take_append_of_le_length (by rw[List.length_drop];omega)]
   exact⟨fun _=>rfl,fun _ _=>rfl,fun h=>absurd (show(0:Int)=1 from h) (by decide)⟩
theorem Za1(l:List Int):Zb l≤l.length:=by
 have:=(Zam (l.take 400) 0).1
 rw[List.length_take]at this
 unfold Zb;omega
theorem Zev(p y:List Int):
  (Zh (Zc p)=0→Zc (p++y)=Zc p)∧(Zh (Zc p)≠0→Zh (Zc p)≠1→Zh (Zc (p++y))=Zh (Zc p))∧
  (Zh (Zc p)=1→Zh (Zc (p++y))=0→(p.length:Int)<ZD (Zc (p++y))):=by
 obtain⟨h1,h2⟩:=Zdq p y
 unfold Zc
 by_cases c0:Zb p<0
 ·rw[if_pos c0]
  by_cases c1:400<p.length
  ·have c2:Zb (p++y)<0:=by
    have e:(p++y).take 400=p.take 400:=List.take_append_of_le_length (by omega)
    unfold Zb at c0⊢
    rw[e];exact c0
   rw[if_pos c1,if_pos c2,if_pos (by rw[List.length_append];omega)]
   exact⟨fun _=>rfl,fun _ _=>rfl,fun h=>absurd (show(431:Int)=1 from h) (by decide)⟩
  ·rw[if_neg c1]
   refine⟨fun h=>absurd (show(1:Int)=0 from h) (by decide),fun _ h=>absurd rfl h,fun _=> ?_⟩
   split
   ·split
    ·intro h;exact absurd (show(431:Int)=0 from h) (by decide)
    ·intro h;exact absurd (show(1:Int)=0 from h) (by decide)
   ·intro h
    have hle:=Za1 (p++y)
    have h3:=Zde (p++y) (Zb (p++y)).toNat (by omega) _ _ _ _ _ _ h
    have h4:=h2 c0 (by omega)
    omega
 ·rw[if_neg c0]
  have e:=h1 (by omega)
  have hle:=Za1 p
  rw[e,if_neg c0]
  have et:(p++y).take ((Zb p).toNat-4)=p.take ((Zb p).toNat-4):=List.take_append_of_le_length (by omega)
  rw[et]
  exact Zeu p y (Zb p).toNat (by omega) _ _ _ _ _ _
abbrev Zaa:=BA×BA×List S83×BA×Int×Int×List Int
def ZP(s:BA):Prop:=drC 58 (bytesOf s)≠[]∧ZG (Ze s)=true∧Z5 (Zi s)=true
instance (s:BA):Decidable (ZP s):=by unfold ZP;exact inferInstance
def Zn(s:BA):Zaa→Zaa×Int:=fun(m,p,hs,b,sz,td,co)=>
 if ZP s then
  if bytesOf (Ze s)=CLb then((m,p,hs,b,(ZB (Zi s) 9999999).1,td+1,co),if(ZB (Zi s) 9999999).2=true then 0 else 400)
  else if bytesOf (Ze s)=TEb then((m,p,hs,b,-1,td+1,if bytesOf (Zj (Zi s))=CHb then co else co++[501]),0)
  else((m,p,hs++[⟨Ze s,Zi s⟩],b,sz,td,if 8<hs.length+1 then co++[431]else co),0)
 else((m,p,hs,b,sz,td,co),400)
def Zl:List BA→Zaa→Zaa×Int
 |[],f=>(f,0)
 |s::r,f=>if(Zn s f).2=0 then Zl r (Zn s f).1 else Zn s f
def ZaO(co:List Int):Int:=if 431∈co then 431 else if 501∈co then 501 else if 413∈co then 413 else 0
structure FrR (m p:BA) (hs:List S83) (sz td:Int) (co:List Int) (m' p':BA) (hs':List S83) (cv:BA) (ch:Bool) (sz':Int) (td' bad:Bool):Prop where
 le:td≤1
 ok:bad=false
 em:m=m'
 ep:p=p'
 eh:hs=hs'
 c1:ch=true→sz= -1∧(501∈co↔bytesOf (Zj cv)≠CHb)
 c0:ch=false→sz=sz'∧501∉co
 z0:td'=false→sz'=0
 xo:¬(ch=true∧td'=true)
 one:td=if(ch||td')=true then 1 else 0
 h8:431∈co↔8<hs.length
 no:413∉co
def FrT(f:Zaa)(st:Zk):Prop:=
 0≤f.2.2.2.2.2.1∧((1<f.2.2.2.2.2.1∧ZY st=true)∨FrR f.1 f.2.1 f.2.2.1 f.2.2.2.2.1 f.2.2.2.2.2.1 f.2.2.2.2.2.2 st.1 st.2.1 st.2.2.1 st.2.2.2.2.1 st.2.2.2.2.2.1 st.2.2.2.2.2.2.1 st.2.2.2.2.2.2.2.1 st.2.2.2.2.2.2.2.2)
theorem ZcB(s:BA)(st:Zk)(h:ZY st=true):ZY (ZW s st)=true:=by
 obtain⟨m,p,hs,b,co,ch,sz,td,bad⟩:=st
 simp only[ZY]at h
 subst h
 unfold ZW Zan ZY
 simp only[]
 split
 ·split
  ·split
   ·rfl
   ·split<;>simp
  ·rfl
 ·rfl
theorem Zdf:∀(ls:List BA)(st:Zk),ZY st=true→ZY (ZO ls st)=true
 |[],_,h=>h
 |s::r,st,h=>Zdf r _ (ZcB s st h)
theorem ZeQ(s:BA)(f:Zaa)(st:Zk)(h:FrT f st):((Zn s f).2=0→FrT (Zn s f).1 (ZW s st))∧((Zn s f).2≠0→(Zn s f).2=400∧ZY (ZW s st)=true):=by
 obtain⟨h0,h⟩:=h
 rcases h with⟨h1,hb⟩|h
 ·have hb':=ZcB s st hb
  obtain⟨m,p,hs,b,sz,td,co⟩:=f
  simp only[]at h0 h1
  unfold Zn
  simp only[]
  by_cases q:ZP s
  ·simp only[if_pos q]
   by_cases q1:bytesOf (Ze s)=CLb
   ·simp only[if_pos q1]
    refine⟨fun _=>⟨by simp only[];omega,.inl ⟨by simp only[];omega,hb'⟩⟩,fun h=> ?_⟩
    by_cases q2:(ZB (Zi s) 9999999).2=true
    ·rw[if_pos q2]at h;exact absurd rfl h
    ·rw[if_neg q2];exact⟨rfl,hb'⟩
   ·simp only[if_neg q1]
    by_cases q2:bytesOf (Ze s)=TEb
    ·simp only[if_pos q2]
     exact⟨fun _=>⟨by simp only[];omega,.inl ⟨by simp only[];omega,hb'⟩⟩,fun h=>absurd rfl h⟩
    ·simp only[if_neg q2]
     exact⟨fun _=>⟨h0,.inl ⟨h1,hb'⟩⟩,fun h=>absurd rfl h⟩
  ·simp only[if_neg q]
   exact⟨fun h=>absurd h (by decide),fun _=>⟨by simp,hb'⟩⟩
 ·obtain⟨m,p,hs,b,sz,td,co⟩:=f
  obtain⟨m',p',hs',b',cv,ch,sz',td',bad⟩:=st
  simp only[]at h0 h
  obtain⟨le,ok,em,ep,eh,c1,c0,z0,xo,one,h8,no⟩:=h
  subst ok;subst em;subst ep;subst eh
  unfold Zn ZW
  simp only[]
  by_cases q:ZP s
  ·simp only[if_pos q]
   rw[if_pos (show drC 58 (bytesOf s)≠[]∧ZG (Ze s)=true∧Z5 (Zi s)=true from q)]
   by_cases q1:bytesOf (Ze s)=CLb
   ·simp only[if_pos q1]
    rw[if_pos (show bytesOf (Ze s)=CLb∨bytesOf (Ze s)=TEb from .inl q1)]
    have q2:¬bytesOf (Ze s)=TEb:=by rw[q1];decide
    unfold Zan
    simp only[]
    by_cases q3:(ch||td')=true
    ·rw[if_pos q3]at one
     simp only[if_pos q3]
     refine⟨fun _=>⟨by simp only[];omega,.inl ⟨by simp only[];omega,rfl⟩⟩,fun h=> ?_⟩
     by_cases q4:(ZB (Zi s) 9999999).2=true
     ·rw[if_pos q4]at h;exact absurd rfl h
     ·rw[if_neg q4];exact⟨rfl,rfl⟩
    ·rw[if_neg q3]at one
     simp only[if_neg q3,if_neg q2]
     simp only[Bool.or_eq_true,not_or,Bool.not_eq_true]at q3
     obtain⟨rfl,rfl⟩:=q3
     by_cases q4:(ZB (Zi s) 9999999).2=true
     ·rw[if_pos q4]
      refine⟨fun _=>⟨by simp only[];omega,.inr ⟨by simp only[];omega,by simp[q4],rfl,rfl,rfl,fun h=>absurd h (by simp),fun _=>⟨rfl,(c0 rfl).2⟩,fun h=>absurd h (by simp),fun h=>absurd h.1 (by simp),by simp only[];rw[one];rfl,h8,no⟩⟩,fun h=>absurd rfl h⟩
     ·rw[if_neg q4]
      exact⟨fun h=>absurd h (by decide),fun _=>⟨rfl,by simp[ZY,q4]⟩⟩
   ·simp only[if_neg q1]
    by_cases q2:bytesOf (Ze s)=TEb
    ·simp only[if_pos q2]
     rw[if_pos (show bytesOf (Ze s)=CLb∨bytesOf (Ze s)=TEb from .inr q2)]
     unfold Zan
     simp only[]
     refine⟨fun _=> ?_,fun h=>absurd rfl h⟩
     by_cases q3:(ch||td')=true
     ·rw[if_pos q3]at one
      simp only[if_pos q3]
      exact⟨by simp only[];omega,.inl ⟨by simp only[];omega,rfl⟩⟩
     ·rw[if_neg q3]at one
      simp only[if_neg q3,if_pos q2]
      simp only[Bool.or_eq_true,not_or,Bool.not_eq_true]at q3
      obtain⟨rfl,rfl⟩:=q3
      have n5:=(c0 rfl).2
      refine⟨by simp only[];omega,.inr ⟨by simp only[];omega,rfl,rfl,rfl,rfl,fun _=>⟨rfl,?_⟩,fun h=>absurd h (by simp),fun _=>z0 rfl,fun h=>absurd h.2 (by simp),by simp only[];rw[one];rfl,?_,?_⟩⟩
      ·by_cases q4:bytesOf (Zj (Zi s))=CHb
       ·simp[q4,n5]
       ·simp[q4]
      ·by_cases q4:bytesOf (Zj (Zi s))=CHb
       ·simp[q4,h8]
       ·simp[q4,h8]
      ·by_cases q4:bytesOf (Zj (Zi s))=CHb
       ·simp[q4,no]
       ·simp[q4,no]
    ·simp only[if_neg q2]
     rw[if_neg (show¬(bytesOf (Ze s)=CLb∨bytesOf (Ze s)=TEb)from fun h=>h.elim q1 q2)]
     refine⟨fun _=>⟨h0,.inr ⟨le,rfl,rfl,rfl,rfl,fun h=>⟨(c1 h).1,?_⟩,fun h=>⟨(c0 h).1,?_⟩,z0,xo,one,?_,?_⟩⟩,fun h=>absurd rfl h⟩
     ·by_cases q4:8<hs.length+1
      ·simp[q4,(c1 h).2]
      ·simp[q4,(c1 h).2]
     ·by_cases q4:8<hs.length+1
      ·simp[q4,(c0 h).2]
      ·simp[q4,(c0 h).2]
     ·by_cases q4:8<hs.length+1
      ·simp[q4]
      ·have:¬8<hs.length:=by omega
       simp[q4,h8,this]
     ·by_cases q4:8<hs.length+1
      ·simp[q4,no]
      ·simp[q4,no]
  ·simp only[if_neg q]
   rw[if_neg (show¬(drC 58 (bytesOf s)≠[]∧ZG (Ze s)=true∧Z5 (Zi s)=true)from q)]
   exact⟨fun h=>absurd h (by decide),fun _=>⟨by simp,rfl⟩⟩
theorem Zdg:∀(ls:List BA)(f:Zaa)(st:Zk),FrT f st→((Zl ls f).2=0→FrT (Zl ls f).1 (ZO ls st))∧((Zl ls f).2≠0→(Zl ls f).2=400∧ZY (ZO ls st)=true)
 |[],f,st,h=>⟨fun _=>h,fun h=>absurd rfl h⟩
 |s::r,f,st,h=>by
  obtain⟨h1,h2⟩:=ZeQ s f st h
  unfold Zl
  by_cases q:(Zn s f).2=0
  ·rw[if_pos q];exact Zdg r _ _ (h1 q)
  ·rw[if_neg q]
   obtain⟨h3,h4⟩:=h2 q
   exact⟨fun h=>absurd h q,fun _=>⟨h3,Zdf r _ h4⟩⟩
def Zcb(r:Zaa×Int):Int:=if r.2=0 then(if 1<r.1.2.2.2.2.2.1 then 400 else ZaO (if 200<r.1.2.2.2.2.1 then r.1.2.2.2.2.2.2++[413]else r.1.2.2.2.2.2.2))else r.2
theorem Zew(ls:List BA)(f:Zaa)(st:Zk)(h:FrT f st):Zcb (Zl ls f)=Zaf (ZO ls st)∧(Zcb (Zl ls f)=0→(Zl ls f).1.1=(ZO ls st).1∧(Zl ls f).1.2.1=(ZO ls st).2.1∧(Zl ls f).1.2.2.1=ZN (ZO ls st)∧(Zbm (ZO ls st)=true→(Zl ls f).1.2.2.2.2.1= -1)∧(Zbm (ZO ls st)=false→(Zl ls f).1.2.2.2.2.1=ZaH (ZO ls st))):=by
 obtain⟨h1,h2⟩:=Zdg ls f st h
 generalize Zl ls f=F at h1 h2
 generalize ZO ls st=S at h1 h2
 obtain⟨⟨m,p,hs,b,sz,td,co⟩,c⟩:=F
 obtain⟨m',p',hs',b',cv,ch,sz',td',bad⟩:=S
 simp only[FrT,ZY]at h1 h2
 rw[Zcy]
 simp only[Zcb,ZN,Zbm,ZaH]
 by_cases q:c=0
 ·simp only[if_pos q]
  obtain⟨h0,h⟩:=h1 q
  rcases h with⟨h9,rfl⟩|⟨le,ok,em,ep,eh,c1,c0,z0,xo,one,h8,no⟩
  ·rw[if_pos h9,if_pos rfl];exact⟨rfl,fun h=>absurd h (by decide)⟩
  ·subst ok;subst em;subst ep;subst eh
   rw[if_neg (show¬1<td by omega),if_neg (show¬false=true by decide)]
   refine⟨?_,fun _=>⟨rfl,rfl,rfl,fun h=>(c1 h).1,fun h=>(c0 h).1⟩⟩
   ·unfold ZaO
    by_cases q1:8<hs.length
    ·have:(431:Int)∈(if 200<sz then co++[413]else co):=by split<;>simp[h8.2 q1]
     rw[if_pos this,if_pos q1]
    ·have n4:(431:Int)∉co:=fun h=>q1 (h8.1 h)
     have:(431:Int)∉(if 200<sz then co++[413]else co):=by split<;>simp[n4]
     rw[if_neg this,if_neg q1]
     cases ch with
     |true=>
      obtain⟨e1,e5⟩:=c1 rfl
      have z1:td'=false:=by cases td' with|true=>exact absurd ⟨rfl,rfl⟩ xo|false=>rfl
      have z2:=z0 z1
      rw[if_neg (show¬200<sz by omega)]
      by_cases q2:bytesOf (Zj cv)≠CHb
      ·rw[if_pos (e5.2 q2),if_pos ⟨rfl,q2⟩]
      ·rw[if_neg (fun h=>q2 (e5.1 h)),if_neg no,if_neg (fun h=>q2 h.2),if_neg (show¬200<sz' by omega)]
     |false=>
      obtain⟨e1,e5⟩:=c0 rfl
      subst e1
      rw[if_neg (show¬(false=true∧bytesOf (Zj cv)≠CHb)from fun h=>absurd h.1 (by decide))]
      by_cases q2:200<sz
      ·simp[q2,e5]
      ·simp[q2,e5,no]
 ·simp only[if_neg q]
  obtain⟨h3,rfl⟩:=h2 q
  rw[if_pos rfl]
  exact⟨h3,fun h=>absurd h (by omega)⟩
theorem Zd9(m p:BA):FrT (m,p,[],⟨#[]⟩,0,0,[]) (m,p,[],⟨#[]⟩,⟨#[]⟩,false,0,false,false):=
 ⟨by simp only[];omega,.inr ⟨by simp only[];omega,rfl,rfl,rfl,rfl,fun h=>absurd h (by simp),fun _=>⟨rfl,by simp⟩,fun _=>rfl,fun h=>absurd h.1 (by simp),rfl,by simp,by simp⟩⟩
theorem Zea{s:BA}{i:Nat}{c:Int}{r:List Int}(h:(bytesOf s).drop i=c::r):bt s (i:Int)=c:=(bt_drop h).1
theorem Zcc(s:BA)(hs:s.size≤1048576):Ev (fun k=>spec_l3Lines.f k s) (Zf (bytesOf s)):=by
 have key:∀(n i st:Nat)(acc:List BA),s.size-i≤n→st≤i→i≤s.size→acc.length≤i→Ev (fun k=>spec_l3Lines.l0 k s acc (st:Int) (i:Int)) (acc++(Zv (((bytesOf s).take i).drop st) ((bytesOf s).drop i)).map strOfNums):=by
  intro n
  induction n using Nat.strongRecOn with
  |_ n ih=>
   intro i st acc hn hst hi hac
   have hw1:wrap64 ((i:Int)+1)=((i+1:Nat):Int):=by rw[wrap_id (by omega) (by omega)];rfl
   have hw2:wrap64 ((i:Int)+2)=((i+2:Nat):Int):=by rw[wrap_id (by omega) (by omega)];rfl
   have hw11:wrap64 (((i+1:Nat):Int)+1)=((i+2:Nat):Int):=by rw[wrap_id (by omega) (by omega)];rfl
   have a1:(i:Int)≤(s.size:Int):=by omega
   have a3:(0:Int)≤(st:Int):=by omega
   have a4:(st:Int)≤(i:Int):=by omega
   have a5:acc.length<8796093022208:=by omega
   have a7:(0:Int)≤(i:Int):=by omega
   have a8:(0:Int)≤((i+1:Nat):Int):=by omega
   have a9:(st:Int)≤(s.size:Int):=by omega
   have e:s.extract st i=strOfNums (((bytesOf s).take i).drop st):=by rw[←bytesOf_extract,strOfNums_bytesOf]
   apply ev_succ
   simp only[spec_l3Lines.l0,if_pos a1,hw1,hw2,hw11,Int.toNat_natCast]
   by_cases q:i=s.size
   ·subst q
    have b1:¬((s.size+1:Nat):Int)≤(s.size:Int):=by omega
    simp only[if_true,if_pos a3,if_pos a4,if_pos a5]
    apply ev_succ
    simp only[spec_l3Lines.l0,if_neg b1]
    have hnil:(bytesOf s).drop s.size=[]:=List.drop_eq_nil_of_le (by rw[bytesOf_length];exact Nat.le_refl _)
    rw[hnil,Zv,e]
    exact Ev.now _
   ·have hlt:i<s.size:=by omega
    have hlb:i<(bytesOf s).length:=by rw[bytesOf_length];exact hlt
    have hd:(bytesOf s).drop i=(bytesOf s)[i]::(bytesOf s).drop (i+1):=List.drop_eq_getElem_cons hlb
    have hb:=Zea hd
    have hsn:=ZdJ hd hst
    simp only[if_neg (show¬(i:Int)=(s.size:Int) by omega)]
    have next:∀c,bt s (i:Int)=c→(¬(c=13∧∃r,(bytesOf s).drop (i+1)=10::r))→Ev (fun k=>spec_l3Lines.l0 k s acc (st:Int) ((i+1:Nat):Int)) (acc++(Zv (((bytesOf s).take i).drop st) ((bytesOf s).drop i)).map strOfNums):=by
     intro c hc hno
     rw[hb]at hc
     have:=ih (n-1) (by omega) (i+1) st acc (by omega) (by omega) (by omega) (by omega)
     rw[hsn]at this
     rw[hd]
     have e2:Zv (((bytesOf s).take i).drop st) ((bytesOf s)[i]::(bytesOf s).drop (i+1))=Zv (((bytesOf s).take i).drop st++[(bytesOf s)[i]]) ((bytesOf s).drop (i+1)):=by
      cases hr:(bytesOf s).drop (i+1)with
      |nil=>rw[Zv,Zv]
      |cons d t=>rw[Zv,if_neg (fun hq=>hno ⟨hc▸hq.1,t,by rw[hr,hq.2]⟩)]
     rw[e2];exact this
    refine ev_ite (fun q1=> ?_) (fun q1=> ?_)
    ·simp only[if_pos a7,if_pos (show(i:Int)<(s.size:Int) by omega)]
     refine ev_ite (fun q2=> ?_) (fun q2=> ?_)
     ·have hlb2:i+1<(bytesOf s).length:=by rw[bytesOf_length];omega
      have hd2:(bytesOf s).drop (i+1)=(bytesOf s)[i+1]::(bytesOf s).drop (i+1+1):=List.drop_eq_getElem_cons hlb2
      have hb2:=Zea hd2
      simp only[if_pos a8]
      refine ev_ite (fun q3=> ?_) (fun q3=> ?_)
      ·simp only[if_pos a3,if_pos a4,if_pos a5]
       have:=ih (n-2) (by omega) (i+2) (i+2) (acc++[s.extract st i]) (by omega) (Nat.le_refl _) (by omega) (by simp;omega)
       have e3:((bytesOf s).take (i+2)).drop (i+2)=[]:=List.drop_eq_nil_of_le (by rw[List.length_take];exact Nat.min_le_left _ _)
       rw[e3,e]at this
       rw[hd,hd2]
       rw[hb]at q2
       rw[hb2]at q3
       rw[Zv,if_pos ⟨q2,q3⟩,e]
       simpa using this
      ·refine next _ rfl (fun hq=>q3 ?_)
       obtain⟨_,r,hr⟩:=hq
       rw[hb2,List.cons.inj (hd2.symm.trans hr) |>.1]
     ·exact next _ rfl (fun hq=>q2 hq.1)
    ·refine next _ rfl (fun hq=> ?_)
     obtain⟨_,r,hr⟩:=hq
     have:=congrArg List.length hr
     rw[List.length_drop,bytesOf_length,List.length_cons]at this
     omega
 have:=key s.size 0 0 [] (by omega) (Nat.le_refl _) (Nat.zero_le _) (Nat.le_refl _)
 unfold spec_l3Lines.f Zf
 simpa using this
theorem Za7(s:BA)(hs:s.size≤1048576):Ev (fun k=>spec_Lower.f k s) (Zj s):=by
 have:=str_loop_st s (fun i (x:List Int) k=>spec_Lower.l0 k s x (i:Int)) (fun i x r=>strOfNums (x++ZU r)) (fun i x _=>x.length≤i) ?_ ?_ (by omega) 0 [] (by simp)
 ·have h2:Ev (fun k=>spec_Lower.l0 k s [] 0) (Zj s):=by simpa[Zj]using this
  exact h2
 ·intro i x _ hi
  apply ev_succ;simp only[spec_Lower.l0,if_neg (show¬(i:Int)<s.size by omega)]
  simpa[ZU]using Ev.now _
 ·intro i x c r hx h hb hi hw hw1 ih
  have hc:=bytesOf_range s c (List.mem_of_mem_drop (by rw[h];simp))
  apply ev_succ
  simp only[spec_Lower.l0,if_pos (show(i:Int)<s.size by omega),if_pos (show(0:Int)≤i by omega),hb,Zb7 c hw,Option.bind_some,hw1,if_pos (show x.length<140737488355328 by omega)]
  have fin:=ih (x++[ZS c]) (by simp;omega)
  simp only[List.append_assoc,List.cons_append,List.nil_append]at fin
  refine ev_ite (fun q=> ?_) (fun q=> ?_)
  ·rw[Zc8 hc q];exact fin
  ·rw[show c=ZS c by unfold ZS;rw[if_neg q]]
   have:ZS (ZS c)=ZS c:=by rw[show ZS c=c by unfold ZS;rw[if_neg q]];unfold ZS;rw[if_neg q]
   simpa[ZU,this]using fin
theorem Ze0{α:Type}{g:Nat→Option α}{a b:α}(h:Ev g a)(k:Ev g b):a=b:=by
 obtain⟨n,hn⟩:=h
 obtain⟨m,hm⟩:=k
 have h1:=hn (n+m) (by omega)
 have h2:=hm (n+m) (by omega)
 rw[h1]at h2
 exact Option.some.inj h2
theorem Zex(x0 x1:List Int)(h0:x0.length≤1099511627776)(i:Nat)(hi:i<x1.length)(hl:x1.length≤100)(R:Int)(hR:Ev (fun k=>spec_l3Least.l0 k x0 x1 ((i+1:Nat):Int)) R):
  ∀(n j:Nat),x0.length-j=n→j≤x0.length→Ev (fun k=>spec_l3Least.l1 k x0 x1 (i:Int) (j:Int)) (if rd x1 (i:Int)∈x0.drop j then rd x1 (i:Int)else R):=by
 have hw:wrap64 ((i:Int)+1)=((i+1:Nat):Int):=by rw[wrap_id (by omega) (by omega)];rfl
 intro n
 induction n with
 |zero=>
  intro j hn hj
  rw[List.drop_eq_nil_of_le (by omega),if_neg (by simp)]
  apply ev_succ
  simp only[spec_l3Least.l1,if_neg (show¬(j:Int)<(x0.length:Int) by omega),hw]
  exact hR
 |succ n ih=>
  intro j hn hj
  have hjl:j<x0.length:=by omega
  have hd:x0.drop j=x0[j]::x0.drop (j+1):=List.drop_eq_getElem_cons hjl
  obtain⟨hr,_,_⟩:=ZaI hd
  have hw2:wrap64 ((j:Int)+1)=((j+1:Nat):Int):=by rw[wrap_id (by omega) (by omega)];rfl
  have ih':=ih (j+1) (by omega) (by omega)
  apply ev_succ
  simp only[spec_l3Least.l1,if_pos (show(j:Int)<(x0.length:Int) by omega),if_pos (show(0:Int)≤(j:Int) by omega),if_pos (show(0:Int)≤(i:Int) by omega),if_pos (show(i:Int)<(x1.length:Int) by omega),hw2,hr]
  rw[hd]
  by_cases q:x0[j]=rd x1 (i:Int)
  ·simp only[if_pos q]
   rw[if_pos (by rw[←q];exact List.mem_cons_self)]
   exact Ev.now _
  ·simp only[if_neg q]
   by_cases q1:rd x1 (i:Int)∈x0.drop (j+1)
   ·rw[if_pos q1]at ih'
    rw[if_pos (List.mem_cons_of_mem _ q1)];exact ih'
   ·rw[if_neg q1]at ih'
    rw[if_neg (fun h=>by rcases List.mem_cons.1 h with h|h;exact q h.symm;exact q1 h)];exact ih'
theorem Zdh(co:List Int)(h0:co.length≤1099511627776):Ev (fun k=>spec_l3Least.f k co [431,501,413]) (ZaO co):=by
 have e3:Ev (fun k=>spec_l3Least.l0 k co [431,501,413] ((2+1:Nat):Int)) 0:=by
  apply ev_succ;simp only[spec_l3Least.l0];exact Ev.now _
 have st:∀(i:Nat)(R:Int),i<3→Ev (fun k=>spec_l3Least.l0 k co [431,501,413] ((i+1:Nat):Int)) R→Ev (fun k=>spec_l3Least.l0 k co [431,501,413] (i:Int)) (if rd [431,501,413] (i:Int)∈co then rd [431,501,413] (i:Int)else R):=by
  intro i R hi hR
  have:=Zex co [431,501,413] h0 i hi (by decide) R hR _ 0 rfl (Nat.zero_le _)
  rw[List.drop_zero]at this
  apply ev_succ
  simp only[spec_l3Least.l0,if_pos (show(i:Int)<(([431,501,413]:List Int).length:Int) by simp only[List.length_cons,List.length_nil];omega)]
  exact this
 exact st 0 _ (by decide) (st 1 _ (by decide) (st 2 _ (by decide) e3))
abbrev FrO:=Int×BA×BA×List S83×BA×Int×Int×List Int
def Zbv(r:Zaa×Int):FrO:=(r.2,r.1)
theorem Zeb(s m p:BA)(hs:List S83)(b:BA)(sz td:Int)(co:List Int)(hz:s.size≤1048576)(hl:hs.length≤1048577)(ht:0≤td)(ht2:td≤1099511627776)(hc:co.length≤1099511627776):
  Ev (fun k=>spec_l3Head.f k m p hs b sz td co s) (Zbv (Zn s (m,p,hs,b,sz,td,co))):=by
 have hlen:=ZaM 58 (bytesOf s)
 rw[bytesOf_length]at hlen
 have hap:=Zb1 58 (bytesOf s)
 have hno:=Zd3 58 (bytesOf s)
 have hw1:wrap64 (td+1)=td+1:=wrap_id (by omega) (by omega)
 have sl:(Ze s).size≤1048576:=Zca s _ hz
 have st:(Zi s).size≤1048576:=Zcz s _ hz
 have jbad:Ev (fun k=>spec_l3Head.j2 k true m p hs b sz td co (Ze s) (Zi s)) (400,m,p,hs,b,sz,td,co):=by
  apply ev_succ;simp only[spec_l3Head.j2,if_true];exact Ev.now _
 have hCL:((Ze s).toList=([99,111,110,116,101,110,116,45,108,101,110,103,116,104]:List UInt8))↔bytesOf (Ze s)=CLb:=ZE _ _
 have hTE:((Ze s).toList=([116,114,97,110,115,102,101,114,45,101,110,99,111,100,105,110,103]:List UInt8))↔bytesOf (Ze s)=TEb:=ZE _ _
 have hCH:((Zj (Zi s)).toList=([99,104,117,110,107,101,100]:List UInt8))↔bytesOf (Zj (Zi s))=CHb:=ZE _ _
 have jgood:ZP s→Ev (fun k=>spec_l3Head.j2 k false m p hs b sz td co (Ze s) (Zi s)) (Zbv (Zn s (m,p,hs,b,sz,td,co))):=by
  intro q
  unfold Zn
  simp only[if_pos q]
  apply ev_succ
  simp only[spec_l3Head.j2,Bool.false_eq_true,if_false,hw1]
  by_cases q1:bytesOf (Ze s)=CLb
  ·simp only[if_pos q1,if_pos (hCL.2 q1)]
   refine Ev.bind (ZbJ (Zi s) 9999999 (by omega)) ?_
   by_cases q2:(ZB (Zi s) 9999999).2=true
   ·simp only[if_pos q2];exact Ev.now _
   ·simp only[if_neg q2];exact Ev.now _
  ·simp only[if_neg q1,if_neg (fun h=>q1 (hCL.1 h))]
   by_cases q2:bytesOf (Ze s)=TEb
   ·simp only[if_pos q2,if_pos (hTE.2 q2)]
    refine Ev.bind (Za7 (Zi s) (by omega)) ?_
    by_cases q3:bytesOf (Zj (Zi s))=CHb
    ·simp only[if_pos q3,if_pos (hCH.2 q3)];exact Ev.now _
    ·simp only[if_neg q3,if_neg (fun h=>q3 (hCH.1 h)),if_pos (show co.length<17592186044416 by omega)];exact Ev.now _
   ·simp only[if_neg q2,if_neg (fun h=>q2 (hTE.1 h)),if_pos (show hs.length<4398046511104 by omega),Option.bind_some,List.length_append,List.length_cons,List.length_nil]
    by_cases q3:8<hs.length+1
    ·simp only[if_pos q3,if_pos (show(((hs.length+(0+1):Nat)):Int)>8 by omega),if_pos (show co.length<17592186044416 by omega)];exact Ev.now _
    ·simp only[if_neg q3,if_neg (show¬(((hs.length+(0+1):Nat)):Int)>8 by omega)];exact Ev.now _
 have hj1:Ev (fun k=>spec_l3Head.j1 k s ((tkC 58 (bytesOf s)).length:Int) m p hs b sz td co) (Zbv (Zn s (m,p,hs,b,sz,td,co))):=by
  apply ev_succ
  simp only[spec_l3Head.j1]
  by_cases q0:drC 58 (bytesOf s)=[]
  ·rw[q0,List.length_nil]at hlen
   simp only[if_pos (show((tkC 58 (bytesOf s)).length:Int)=(s.size:Int) by omega)]
   unfold Zn
   simp only[if_neg (show¬ZP s from fun h=>h.1 q0)]
   exact Ev.now _
  ·have hpos:0<(drC 58 (bytesOf s)).length:=by
    cases h:drC 58 (bytesOf s)with
    |nil=>exact absurd h q0
    |cons _ _=>simp
   have hw2:wrap64 (((tkC 58 (bytesOf s)).length:Int)+1)=(((tkC 58 (bytesOf s)).length+1:Nat):Int):=by rw[wrap_id (by omega) (by omega)];rfl
   have e1:s.extract 0 (tkC 58 (bytesOf s)).length=strOfNums (tkC 58 (bytesOf s)):=by
    rw[←strOfNums_bytesOf (s.extract 0 _),bytesOf_extract,List.drop_zero]
    congr 1
    rw[←hap]
    have:(tkC 58 (tkC 58 (bytesOf s)++drC 58 (bytesOf s)))=tkC 58 (bytesOf s):=by rw[hap]
    rw[this,List.take_left]
   have e2:s.extract ((tkC 58 (bytesOf s)).length+1) s.size=strOfNums (drC 58 (bytesOf s)).tail:=by
    rw[←strOfNums_bytesOf (s.extract _ _),bytesOf_extract,List.take_of_length_le (by rw[bytesOf_length];exact Nat.le_refl _)]
    congr 1
    have h9:(bytesOf s).drop ((tkC 58 (bytesOf s)).length+1)=(tkC 58 (bytesOf s)++drC 58 (bytesOf s)).drop ((tkC 58 (bytesOf s)).length+1):=by rw[hap]
    rw[h9,←List.drop_drop,List.drop_left,List.drop_one]
   simp only[if_neg (show¬((tkC 58 (bytesOf s)).length:Int)=(s.size:Int) by omega),if_pos (show(0:Int)≤((tkC 58 (bytesOf s)).length:Int) by omega),if_pos (show((tkC 58 (bytesOf s)).length:Int)≤(s.size:Int) by omega),hw2,if_pos (show(0:Int)≤(((tkC 58 (bytesOf s)).length+1:Nat):Int) by omega),if_pos (show(((tkC 58 (bytesOf s)).length+1:Nat):Int)≤(s.size:Int) by omega),Int.toNat_natCast,e1,e2]
   have za:(strOfNums (tkC 58 (bytesOf s))).size≤1048576:=by rw[strOfNums_size];omega
   have zv:(strOfNums (drC 58 (bytesOf s)).tail).size≤1048576:=by rw[strOfNums_size,List.length_tail];omega
   have h1:=Za7 _ za
   have h2:=Zbj _ zv
   have el:Zj (strOfNums (tkC 58 (bytesOf s)))=Ze s:=by unfold Ze;rfl
   have et:ZaX (strOfNums (drC 58 (bytesOf s)).tail)=Zi s:=by unfold Zi;rfl
   rw[el]at h1
   rw[et]at h2
   refine Ev.bind h1 (Ev.bind h2 ?_)
   refine Ev.bind (Zak (Ze s) (by omega)) ?_
   by_cases q1:ZG (Ze s)=true
   ·simp only[if_pos q1]
    refine Ev.bind (Za6 (Zi s) st) ?_
    by_cases q2:Z5 (Zi s)=true
    ·rw[q2];exact jgood ⟨q0,q1,q2⟩
    ·rw[Bool.not_eq_true _ |>.mp q2]
     unfold Zn
     simp only[if_neg (show¬ZP s from fun h=>q2 h.2.2)]
     exact jbad
   ·simp only[if_neg q1]
    unfold Zn
    simp only[if_neg (show¬ZP s from fun h=>q1 h.2.1)]
    exact jbad
 have key:∀(n i:Nat),(tkC 58 (bytesOf s)).length-i=n→i≤(tkC 58 (bytesOf s)).length→Ev (fun k=>spec_l3Head.l0 k s (i:Int) m p hs b sz td co) (Zbv (Zn s (m,p,hs,b,sz,td,co))):=by
  intro n
  induction n with
  |zero=>
   intro i hn hi
   have hi':i=(tkC 58 (bytesOf s)).length:=by omega
   apply ev_succ
   simp only[spec_l3Head.l0]
   by_cases q:(i:Int)<(s.size:Int)
   ·have hd:(bytesOf s).drop i=drC 58 (bytesOf s):=by
     have h9:(bytesOf s).drop i=(tkC 58 (bytesOf s)++drC 58 (bytesOf s)).drop i:=by rw[hap]
     rw[h9,hi',List.drop_left]
    cases h:drC 58 (bytesOf s)with
    |nil=>rw[h,List.length_nil]at hlen;omega
    |cons c r=>
     have hc58:=Zeq h
     subst hc58
     have hb:=(bt_drop (hd.trans h)).1
     simp only[if_pos q,if_pos (show(0:Int)≤(i:Int) by omega),hb,if_true]
     rw[hi'];exact hj1
   ·simp only[if_neg q]
    rw[hi'];exact hj1
  |succ n ih=>
   intro i hn hi
   have ih':=ih (i+1) (by omega) (by omega)
   have hil:i<(bytesOf s).length:=by rw[bytesOf_length];omega
   have hd:(bytesOf s).drop i=(bytesOf s)[i]::(bytesOf s).drop (i+1):=List.drop_eq_getElem_cons hil
   have hb:=(bt_drop hd).1
   have hne:(bytesOf s)[i]≠58:=by
    intro e
    have hit:i<(tkC 58 (bytesOf s)).length:=by omega
    have h9:(tkC 58 (bytesOf s)++drC 58 (bytesOf s))[i]? =some 58:=by rw[hap,List.getElem?_eq_getElem hil,e]
    rw[List.getElem?_append_left hit]at h9
    exact hno (List.mem_of_getElem? h9)
   have hw2:wrap64 ((i:Int)+1)=((i+1:Nat):Int):=by clear ht ht2 hc hl hw1 sl st hlen hn hb hne hd;rw[bytesOf_length]at hil;rw[wrap_id (by omega) (by omega)];rfl
   have his:(i:Int)<(s.size:Int):=by rw[bytesOf_length]at hil;exact Int.ofNat_lt.2 hil
   apply ev_succ
   simp only[spec_l3Head.l0,if_pos his,if_pos (Int.natCast_nonneg i),hw2]
   simp only[hb,if_neg hne]
   exact ih'
 exact key _ 0 rfl (Nat.zero_le _)
def FrB(n:Nat)(f:Zaa):Prop:=f.2.2.1.length≤n∧0≤f.2.2.2.2.2.1∧f.2.2.2.2.2.1≤n∧f.2.2.2.2.2.2.length≤n
theorem ZeR(s:BA)(n:Nat)(f:Zaa)(h:FrB n f):FrB (n+1) (Zn s f).1:=by
 obtain⟨m,p,hs,b,sz,td,co⟩:=f
 obtain⟨h1,h2,h3,h4⟩:=h
 simp only[]at h1 h2 h3 h4
 unfold Zn
 simp only[]
 split
 ·split
  ·exact⟨by simp only[];omega,by simp only[];omega,by simp only[];omega,by simp only[];omega⟩
  ·split
   ·refine⟨by simp only[];omega,by simp only[];omega,by simp only[];omega,?_⟩
    simp only[]
    split
    ·omega
    ·rw[List.length_append,List.length_singleton];omega
   ·refine⟨by simp only[List.length_append,List.length_singleton];omega,by simp only[];omega,by simp only[];omega,?_⟩
    simp only[]
    split
    ·rw[List.length_append,List.length_singleton];omega
    ·omega
 ·exact⟨by simp only[];omega,by simp only[];omega,by simp only[];omega,by simp only[];omega⟩
theorem Zec(m p:BA)(hs:List S83)(b:BA)(sz td:Int)(co:List Int):Zcb (Zl [] (m,p,hs,b,sz,td,co))=if 1<td then 400 else ZaO (if 200<sz then co++[413]else co):=rfl
theorem Zed(ls:List BA)(hx:∀x∈ls,x.size≤1048576)(hn:ls.length≤1048577):∀(n i:Nat)(f:Zaa),ls.length-i=n→i≤ls.length→FrB i f→
  ∃r:FrO,Ev (fun k=>spec_l3Read.l0 k ls (i:Int) f.1 f.2.1 f.2.2.1 f.2.2.2.1 f.2.2.2.2.1 f.2.2.2.2.2.1 f.2.2.2.2.2.2) r∧r.1=Zcb (Zl (ls.drop i) f)∧(r.1=0→r.2.1=(Zl (ls.drop i) f).1.1∧r.2.2.1=(Zl (ls.drop i) f).1.2.1∧r.2.2.2.1=(Zl (ls.drop i) f).1.2.2.1∧r.2.2.2.2.2.1=(Zl (ls.drop i) f).1.2.2.2.2.1):=by
 intro n
 induction n with
 |zero=>
  intro i f hn1 hi hB
  obtain⟨m,p,hs,b,sz,td,co⟩:=f
  obtain⟨h1,h2,h3,h4⟩:=hB
  simp only[]at h1 h2 h3 h4
  rw[List.drop_eq_nil_of_le (by omega),Zec]
  by_cases q:1<td
  ·rw[if_pos q]
   refine⟨(400,m,p,hs,b,sz,td,co),?_,rfl,fun h=>absurd (show(400:Int)=0 from h) (by decide)⟩
   apply ev_succ
   simp only[spec_l3Read.l0,if_neg (show¬(i:Int)<(ls.length:Int) by omega),if_pos (show td>1 from q)]
   exact Ev.now _
  ·rw[if_neg q]
   by_cases q1:200<sz
   ·rw[if_pos q1]
    refine⟨(ZaO (co++[413]),m,p,hs,b,sz,td,co++[413]),?_,rfl,fun _=>⟨rfl,rfl,rfl,rfl⟩⟩
    apply ev_succ
    simp only[spec_l3Read.l0,if_neg (show¬(i:Int)<(ls.length:Int) by omega),if_neg (show¬td>1 from q),if_pos (show sz>200 from q1),if_pos (show co.length<17592186044416 by omega),Option.bind_some]
    exact Ev.bind (Zdh (co++[413]) (by rw[List.length_append,List.length_singleton];omega)) (Ev.now _)
   ·rw[if_neg q1]
    refine⟨(ZaO co,m,p,hs,b,sz,td,co),?_,rfl,fun _=>⟨rfl,rfl,rfl,rfl⟩⟩
    apply ev_succ
    simp only[spec_l3Read.l0,if_neg (show¬(i:Int)<(ls.length:Int) by omega),if_neg (show¬td>1 from q),if_neg (show¬sz>200 from q1)]
    exact Ev.bind (Zdh co (by omega)) (Ev.now _)
 |succ n ih=>
  intro i f hn1 hi hB
  have hil:i<ls.length:=by omega
  have hd:ls.drop i=ls[i]::ls.drop (i+1):=List.drop_eq_getElem_cons hil
  have hrd:rdOf ByteArray.empty ls (i:Int)=ls[i]:=by rw[ZR,List.getD_eq_getElem?_getD,List.getElem?_eq_getElem hil];rfl
  have hsz:=hx ls[i] (List.getElem_mem _)
  have hB':=ZeR ls[i] i f hB
  have hw:wrap64 ((i:Int)+1)=((i+1:Nat):Int):=by rw[wrap_id (by omega) (by omega)];rfl
  have he:Ev (fun k=>spec_l3Head.f k f.1 f.2.1 f.2.2.1 f.2.2.2.1 f.2.2.2.2.1 f.2.2.2.2.2.1 f.2.2.2.2.2.2 ls[i]) (Zbv (Zn ls[i] f)):=by
   obtain⟨m,p,hs,b,sz,td,co⟩:=f
   obtain⟨h1,h2,h3,h4⟩:=hB
   simp only[]at h1 h2 h3 h4
   exact Zeb ls[i] m p hs b sz td co hsz (by omega) h2 (by omega) (by omega)
  rw[hd,Zl]
  by_cases q:(Zn ls[i] f).2=0
  ·rw[if_pos q]
   obtain⟨r,hr,h2,h3⟩:=ih (i+1) (Zn ls[i] f).1 (by omega) (by omega) hB'
   refine⟨r,?_,h2,h3⟩
   apply ev_succ
   simp only[spec_l3Read.l0,if_pos (show(i:Int)<(ls.length:Int) by omega),if_pos (show(0:Int)≤(i:Int) by omega),hrd,hw]
   refine Ev.bind he ?_
   exact Ev.congr (fun k=>if_pos q) hr
  ·rw[if_neg q]
   refine⟨Zbv (Zn ls[i] f),?_,(if_neg q).symm,fun h=>absurd h q⟩
   apply ev_succ
   simp only[spec_l3Read.l0,if_pos (show(i:Int)<(ls.length:Int) by omega),if_pos (show(0:Int)≤(i:Int) by omega),hrd]
   refine Ev.bind he ?_
   exact Ev.congr (fun k=>if_neg q) (Ev.now _)
def Zcm(ps:List BA):Prop:=ps.length=3∧bytesOf (ps.getD 2 ByteArray.empty)=Zbl∧(ZI (ps.getD 0 ByteArray.empty)&&Zm (ps.getD 1 ByteArray.empty))=true
theorem ZdT(s m p:BA)(hs:List S83)(b:BA)(sz td:Int)(co:List Int)(hz:s.size≤1048576):
  ∃r:Bool×BA×BA×List S83×BA×Int×Int×List Int,Ev (fun k=>spec_l3First.f k m p hs b sz td co s) r∧(r.1=true↔Zcm (Zg 32 (bytesOf s)))∧(r.1=true→r.2=((Zg 32 (bytesOf s)).getD 0 ByteArray.empty,(Zg 32 (bytesOf s)).getD 1 ByteArray.empty,hs,b,sz,td,co)):=by
 have hps:=ZbC 32 (bytesOf s)
 rw[bytesOf_length]at hps
 have hsp:=ZbL 32 s hz
 generalize Zg 32 (bytesOf s)=ps at hps hsp
 have g0:rdOf ByteArray.empty ps 0=ps.getD 0 ByteArray.empty:=ZR ps 0
 have g1:rdOf ByteArray.empty ps 1=ps.getD 1 ByteArray.empty:=ZR ps 1
 have g2:rdOf ByteArray.empty ps 2=ps.getD 2 ByteArray.empty:=ZR ps 2
 have hlit:((ps.getD 2 ByteArray.empty).toList=([72,84,84,80,47,49,46,49]:List UInt8))↔bytesOf (ps.getD 2 ByteArray.empty)=Zbl:=ZE _ _
 have jbad:Ev (fun k=>spec_l3First.j0 k ps true m p hs b sz td co) (false,m,p,hs,b,sz,td,co):=by
  apply ev_succ;simp only[spec_l3First.j0,if_true];exact Ev.now _
 unfold spec_l3First.f
 by_cases q0:ps.length=3
 ·by_cases q1:bytesOf (ps.getD 2 ByteArray.empty)=Zbl
  ·have hm:=Zav (ps.getD 0 ByteArray.empty) (Nat.le_trans (hps 0) hz)
   have ht:=Zaw (ps.getD 1 ByteArray.empty) (Nat.le_trans (hps 1) hz)
   have hb1:((ps.getD 2 ByteArray.empty).toList !=([72,84,84,80,47,49,46,49]:List UInt8))=false:=by rw[bne_eq_false_iff_eq];exact hlit.2 q1
   by_cases q2:ZI (ps.getD 0 ByteArray.empty)=true
   ·refine⟨(Zm (ps.getD 1 ByteArray.empty),ps.getD 0 ByteArray.empty,ps.getD 1 ByteArray.empty,hs,b,sz,td,co),Ev.bind hsp ?_,?_,fun _=>rfl⟩
    ·simp only[if_pos (show(ps.length:Int)=3 by omega),if_pos (show(2:Int)<(ps.length:Int) by omega),g2,hb1]
     apply ev_succ
     simp only[spec_l3First.j0,Bool.false_eq_true,if_false,if_pos (show(0:Int)<(ps.length:Int) by omega),if_pos (show(1:Int)<(ps.length:Int) by omega),g0,g1]
     refine Ev.bind hm ?_
     simp only[if_pos q2]
     exact Ev.bind ht (Ev.now _)
    ·unfold Zcm
     rw[q2,Bool.true_and]
     exact⟨fun h=>⟨q0,q1,h⟩,fun h=>h.2.2⟩
   ·refine⟨(false,ps.getD 0 ByteArray.empty,ps.getD 1 ByteArray.empty,hs,b,sz,td,co),Ev.bind hsp ?_,⟨fun h=>Bool.noConfusion h,fun h=> ?_⟩,fun h=>Bool.noConfusion h⟩
    ·simp only[if_pos (show(ps.length:Int)=3 by omega),if_pos (show(2:Int)<(ps.length:Int) by omega),g2,hb1]
     apply ev_succ
     simp only[spec_l3First.j0,Bool.false_eq_true,if_false,if_pos (show(0:Int)<(ps.length:Int) by omega),if_pos (show(1:Int)<(ps.length:Int) by omega),g0,g1]
     refine Ev.bind hm ?_
     simp only[if_neg q2]
     exact Ev.now _
    ·have:=h.2.2
     rw[Bool.and_eq_true]at this
     exact absurd this.1 q2
  ·have hb1:((ps.getD 2 ByteArray.empty).toList !=([72,84,84,80,47,49,46,49]:List UInt8))=true:=by rw[bne_iff_ne];exact fun h=>q1 (hlit.1 h)
   refine⟨(false,m,p,hs,b,sz,td,co),Ev.bind hsp ?_,⟨fun h=>Bool.noConfusion h,fun h=>absurd h.2.1 q1⟩,fun h=>Bool.noConfusion h⟩
   simp only[if_pos (show(ps.length:Int)=3 by omega),if_pos (show(2:Int)<(ps.length:Int) by omega),g2,hb1]
   exact jbad
 ·refine⟨(false,m,p,hs,b,sz,td,co),Ev.bind hsp ?_,⟨fun h=>Bool.noConfusion h,fun h=>absurd h.1 q0⟩,fun h=>Bool.noConfusion h⟩
  simp only[if_neg (show¬(ps.length:Int)=3 by omega)]
  exact jbad
theorem Zee(l:List Int)(hl:l.length≤1048575)(hr:∀x∈l,0≤x∧x<256):
  ∃r:FrO,Ev (fun k=>spec_l3Read.f k (⟨#[]⟩:BA) (⟨#[]⟩:BA) ([]:List S83) (⟨#[]⟩:BA) 0 0 ([]:List Int) (strOfNums l)) r∧r.1=(rhS l).2∧(r.1=0→r.2.1=(rhS l).1.1∧r.2.2.1=(rhS l).1.2.1∧r.2.2.2.1=ZN (rhS l).1∧(Zbm (rhS l).1=true→r.2.2.2.2.2.1= -1)∧(Zbm (rhS l).1=false→r.2.2.2.2.2.1=ZaH (rhS l).1)):=by
 have hb:=bytesOf_strOfNums l hr
 have hln:=ZaW l
 have hsz:=ZaG hr
 have hlines:=Zcc (strOfNums l) (by rw[strOfNums_size];omega)
 rw[hb]at hlines
 unfold spec_l3Read.f rhS
 generalize Zf l=ls at hln hsz hlines
 have h00:rdOf ByteArray.empty ls 0=ls.getD 0 ByteArray.empty:=ZR ls 0
 have hg:(ls.getD 0 ByteArray.empty).size≤1048576:=by
  rw[List.getD_eq_getElem?_getD,List.getElem?_eq_getElem (show 0<ls.length by omega)]
  have:=hsz ls[0] (List.getElem_mem _)
  show ls[0].size≤_
  omega
 obtain⟨r1,hr1,ho1,hv1⟩:=ZdT (ls.getD 0 ByteArray.empty) (⟨#[]⟩:BA) (⟨#[]⟩:BA) ([]:List S83) (⟨#[]⟩:BA) 0 0 ([]:List Int) hg
 generalize Zg 32 (bytesOf (ls.getD 0 ByteArray.empty))=ps at ho1 hv1
 by_cases q:r1.1=true
 ·have hf:=ho1.1 q
  have hv:=hv1 q
  have hx:∀x∈ls,x.size≤1048576:=fun x hx=>by have:=hsz x hx;omega
  obtain⟨r,hr0,hc,hd⟩:=Zed ls hx (by omega) _ 1 (ps.getD 0 ByteArray.empty,ps.getD 1 ByteArray.empty,[],⟨#[]⟩,0,0,[]) rfl (by omega) ⟨Nat.zero_le _,Int.le_refl 0,by simp only[];omega,Nat.zero_le _⟩
  obtain⟨k1,k2⟩:=Zew (ls.drop 1) _ _ (Zd9 (ps.getD 0 ByteArray.empty) (ps.getD 1 ByteArray.empty))
  rw[if_pos (show ps.length=3∧bytesOf (ps.getD 2 ByteArray.empty)=Zbl∧(ZI (ps.getD 0 ByteArray.empty)&&Zm (ps.getD 1 ByteArray.empty))=true from hf)]
  refine⟨r,Ev.bind hlines ?_,hc.trans k1,fun h=> ?_⟩
  ·simp only[if_pos (show(0:Int)<(ls.length:Int) by omega),h00]
   refine Ev.bind hr1 ?_
   simp only[if_pos q]
   rw[hv]
   exact hr0
  ·obtain⟨d1,d2,d3,d4⟩:=hd h
   obtain⟨e1,e2,e3,e4,e5⟩:=k2 (hc.symm.trans h)
   exact⟨d1.trans e1,d2.trans e2,d3.trans e3,fun h=>d4.trans (e4 h),fun h=>d4.trans (e5 h)⟩
 ·have hf:¬Zcm ps:=fun h=>q (ho1.2 h)
  rw[if_neg (show¬(ps.length=3∧bytesOf (ps.getD 2 ByteArray.empty)=Zbl∧(ZI (ps.getD 0 ByteArray.empty)&&Zm (ps.getD 1 ByteArray.empty))=true)from hf)]
  refine⟨(400,r1.2),Ev.bind hlines ?_,rfl,fun h=>absurd (show(400:Int)=0 from h) (by decide)⟩
  simp only[if_pos (show(0:Int)<(ls.length:Int) by omega),h00]
  refine Ev.bind hr1 ?_
  simp only[if_neg q]
  exact Ev.now _
theorem ZaP(l:List Int)(hl:l.length≤1048575)(hr:∀x∈l,0≤x∧x<256):Ev (fun k=>spec_GetReq.f k l) (Zc l):=by
 unfold spec_GetReq.f Zc
 refine Ev.bind (ZbY l (by omega) hr) ?_
 have hb:=Zam (l.take 400) 0
 have h4:=Zbf (l.take 400) 0
 rw[List.length_take]at hb h4
 change Zb l≤_∧_ at hb
 change 0≤Zb l→_ at h4
 by_cases q0:Zb l<0
 ·rw[if_pos q0];simp only[if_pos q0]
  by_cases q1:400<l.length
  ·rw[if_pos q1];simp only[if_neg (show¬(l.length:Int)≤400 by omega)];exact Ev.now _
  ·rw[if_neg q1];simp only[if_pos (show(l.length:Int)≤400 by omega)];exact Ev.now _
 rw[if_neg q0];simp only[if_neg q0]
 have h44:(4:Int)≤Zb l:=by have:=(h4 (by omega)).1;change (0:Int)+4≤Zb l at this;omega
 obtain⟨e,he⟩:∃e:Nat,Zb l=(e:Int):=⟨(Zb l).toNat,by omega⟩
 rw[he]at hb h44
 simp only[he,Int.toNat_natCast]
 clear h4 q0
 have hw:wrap64 ((e:Int)-4)=((e-4:Nat):Int):=by rw[wrap_id (by omega) (by omega)];omega
 simp only[hw,if_pos (show(0:Int)≤((e-4:Nat):Int) by omega),if_pos (show((e-4:Nat):Int)≤(l.length:Int) by omega),Int.toNat_natCast]
 have hrt:∀x∈l.take (e-4),0≤x∧x<256:=fun x hx=>hr x (List.mem_of_mem_take hx)
 have hlt:(l.take (e-4)).length≤1048575:=by rw[List.length_take];omega
 obtain⟨hP,hP2,_⟩:=ZdS (l.take (e-4)) hlt hrt
 obtain⟨r,hrd,hc,hv⟩:=Zee (l.take (e-4)) hlt hrt
 generalize rhS (l.take (e-4))=R at hP hP2 hc hv
 obtain⟨⟨m,p,hs,b,co,ch,sz,td,bad⟩,code⟩:=R
 simp only[ZN,Zbm,ZaH]at hP2 hv⊢
 have hsz:0≤sz:=hP.2.2.2
 refine Ev.bind hrd ?_
 unfold ZC
 by_cases c0:r.1=0
 ·obtain⟨e1,e2,e3,e4,e5⟩:=hv c0
  rw[if_neg (show¬code≠0 from fun h=>h (hc.symm.trans c0))]
  simp only[if_pos c0,e1,e2,e3]
  cases ch with
  |true=>
   rw[if_pos (show true=true from rfl)]
   have e6:=e4 rfl
   obtain⟨X,hX1,hX2⟩:=ZcZ l (by omega) hr (e:Int)
   have hg:=ZaK l (by omega) hr e (by omega) (l.length+1) (by rw[List.length_drop];omega)
   have hX:=Ze0 hX1 hg
   simp only[e6,if_pos (show(-1:Int)<0 by omega)]
   refine Ev.bind hX2 ?_
   rw[hX]
   by_cases c2:(chR (l.length+1) (l.drop e) []).2.2=0
   ·rw[if_pos c2]
    unfold chV
    simp only[if_pos c2,if_true]
    exact Ev.now _
   ·rw[if_neg c2]
    unfold chV
    simp only[if_neg c2]
    exact Ev.now _
  |false=>
   rw[if_neg (show¬false=true by decide)]
   have e6:=e5 rfl
   obtain⟨h200,_⟩:=hP2 (hc.symm.trans c0)
   have hw2:wrap64 ((l.length:Int)-(e:Int))=(l.length:Int)-(e:Int):=wrap_id (by omega) (by omega)
   have hw3:wrap64 ((e:Int)+sz)=((e+sz.toNat:Nat):Int):=by rw[wrap_id (by omega) (by omega)];omega
   simp only[e6,if_neg (show¬sz<0 by omega),hw2,hw3]
   by_cases c2:l.length<e+sz.toNat
   ·rw[if_pos c2]
    simp only[if_pos (show sz>(l.length:Int)-(e:Int) by omega)]
    exact Ev.now _
   ·rw[if_neg c2]
    simp only[if_neg (show¬sz>(l.length:Int)-(e:Int) by omega),if_pos (show(0:Int)≤(e:Int) by omega),if_pos (show(e:Int)≤((e+sz.toNat:Nat):Int) by omega),if_pos (show((e+sz.toNat:Nat):Int)≤(l.length:Int) by omega),Int.toNat_natCast]
    rw[List.drop_take,show e+sz.toNat-e=sz.toNat by omega]
    exact Ev.now _
 ·rw[if_pos (show code≠0 from fun h=>c0 (hc.trans h))]
  simp only[if_neg c0]
  rw[←show r.1=code from hc]
  exact Ev.now _
theorem ZJ(l:List Int)(h:l.length≤1099511627776):impl_copyBytes.f l=some l:=by
 unfold impl_copyBytes.f
 rw[if_pos (by simp only[List.length_nil];omega),List.nil_append]
theorem Zef(l:List Int)(e:Nat)(he:e≤l.length)(m p:BA)(hs:List S83)(ch:Bool)(sz code:Int)(h:Zh (ZC l e m p hs ch sz code)=0):code=0∧(ZC l e m p hs ch sz code).2.2.1=hs∧ZD (ZC l e m p hs ch sz code)≤l.length:=by
 unfold ZC at h⊢
 split
 ·rename_i q;rw[if_pos q]at h;exact absurd h q
 ·rename_i q
  refine⟨Decidable.of_not_not q,?_⟩
  rw[if_neg q]at h
  split
  ·rename_i q1
   rw[if_pos q1]at h
   split
   ·refine⟨rfl,?_⟩;show(l.length:Int)-_≤_;omega
   ·rename_i q2;rw[if_neg q2]at h;exact absurd h q2
  ·rename_i q1
   rw[if_neg q1]at h
   split
   ·rename_i q2;rw[if_pos q2]at h;exact absurd (show(1:Int)=0 from h) (by decide)
   ·refine⟨rfl,?_⟩;show((e+_:Nat):Int)≤_;omega
theorem Zag(l:List Int)(hl:l.length≤1048575)(hr:∀x∈l,0≤x∧x<256)(h:Zh (Zc l)=0):4≤ZD (Zc l)∧ZD (Zc l)≤l.length∧(Zc l).2.2.1.length≤8:=by
 have h4:0≤Zb l→(0:Int)+4≤Zb l:=fun h=>(Zbf (l.take 400) 0 h).1
 have hle:=Za1 l
 unfold Zc at h⊢
 by_cases c0:Zb l<0
 ·rw[if_pos c0]at h
  split at h<;>exact absurd h (by simp only[Zd8];decide)
 rw[if_neg c0]at h⊢
 have h44:=h4 (by omega)
 have hel:(Zb l).toNat≤l.length:=by omega
 have hP:=(ZdS (l.take ((Zb l).toNat-4)) (by rw[List.length_take];omega) (fun x hx=>hr x (List.mem_of_mem_take hx))).2.1
 have hE:=Zde l _ hel _ _ _ _ _ _ h
 obtain⟨f1,f2,f3⟩:=Zef l _ hel _ _ _ _ _ _ h
 refine⟨by omega,f3,?_⟩
 rw[f2]
 exact(hP f1).2
theorem Ze8:∀(n:Nat)(acc:List S50)(buf:List Int),buf.length≤n→n≤1048575→(∀x∈buf,0≤x∧x<256)→acc.length+n≤1099511627776→
  ∃(rs:List S50)(b':List Int)(c':Int),Ev (fun k=>impl_Wire_feed.l0 k acc buf 0) (acc++rs,b',c')∧Ev (fun k=>spec_Feed.l0 k acc buf 0) (b',c',acc++rs)∧rs.length+b'.length≤buf.length∧(∀x∈b',0≤x∧x<256)∧∀r∈rs,r.f2.length≤8:=by
 intro n
 induction n with
 |zero=>
  intro acc buf hb hn hr ha
  have e0:buf=[]:=List.length_eq_zero_iff.1 (by omega)
  subst e0
  have hg:=ZaE [] (by simp) (by simp)
  have hs:=ZaP [] (by simp) (by simp)
  have hc:(Zc []).2.2.2.2.2=1:=by decide
  refine⟨[],[],0,?_,?_,Nat.le_refl _,fun r hx=>absurd hx (by simp),fun r hx=>absurd hx (by simp)⟩
  ·apply ev_succ
   simp only[impl_Wire_feed.l0]
   refine Ev.bind hg ?_
   simp only[if_neg (show¬(Zc []).2.2.2.2.2=0 by rw[hc];decide),if_pos hc,ZJ [] (by simp),Option.bind_some,List.append_nil]
   exact Ev.now _
  ·apply ev_succ
   simp only[spec_Feed.l0]
   refine Ev.bind hs ?_
   simp only[if_pos hc,List.append_nil]
   exact Ev.now _
 |succ n ih=>
  intro acc buf hb hn hr ha
  have hg:=ZaE buf (by omega) hr
  have hs:=ZaP buf (by omega) hr
  by_cases c0:(Zc buf).2.2.2.2.2=0
  ·obtain⟨f1,f2,f3⟩:=Zag buf (by omega) hr c0
   simp only[ZD]at f1 f2
   obtain⟨e,he⟩:∃e:Nat,(Zc buf).2.2.2.2.1=(e:Int):=⟨((Zc buf).2.2.2.2.1).toNat,by omega⟩
   rw[he]at f1 f2
   obtain⟨rs,b',c',g1,g2,g3,g4,g5⟩:=ih (acc++[(⟨(Zc buf).1,(Zc buf).2.1,(Zc buf).2.2.1,(Zc buf).2.2.2.1⟩:S50)]) (buf.drop e) (by rw[List.length_drop];omega) (by omega) (fun x hx=>hr x (List.mem_of_mem_drop hx)) (by rw[List.length_append,List.length_singleton];omega)
   rw[List.length_drop]at g3
   rw[List.append_assoc]at g1 g2
   refine⟨⟨(Zc buf).1,(Zc buf).2.1,(Zc buf).2.2.1,(Zc buf).2.2.2.1⟩::rs,b',c',?_,?_,by rw[List.length_cons];omega,g4,fun r hx=> ?_⟩
   ·apply ev_succ
    simp only[impl_Wire_feed.l0]
    refine Ev.bind hg ?_
    simp only[if_pos c0,if_pos (show acc.length<1954687338268 by omega),he,if_pos (show(0:Int)≤(e:Int) by omega),if_pos (show(e:Int)≤(buf.length:Int) by omega),Int.toNat_natCast]
    exact g1
   ·apply ev_succ
    simp only[spec_Feed.l0]
    refine Ev.bind hs ?_
    simp only[if_neg (show¬(Zc buf).2.2.2.2.2=1 by rw[c0];decide),if_pos c0,if_pos (show acc.length<1954687338268 by omega),he,if_pos (show(0:Int)≤(e:Int) by omega),if_pos (show(e:Int)≤(buf.length:Int) by omega),Int.toNat_natCast,Option.bind_some,List.length_nil,List.nil_append,if_pos (show 0+(buf.drop e).length<140737488355328 by rw[List.length_drop];omega)]
    exact g2
   ·rcases List.mem_cons.1 hx with hx|hx
    ·rw[hx];exact f3
    ·exact g5 r hx
  ·by_cases c1:(Zc buf).2.2.2.2.2=1
   ·refine⟨[],buf,0,?_,?_,by simp,hr,fun r hx=>absurd hx (by simp)⟩
    ·apply ev_succ
     simp only[impl_Wire_feed.l0]
     refine Ev.bind hg ?_
     simp only[if_neg c0,if_pos c1,ZJ buf (by omega),Option.bind_some,List.append_nil]
     exact Ev.now _
    ·apply ev_succ
     simp only[spec_Feed.l0]
     refine Ev.bind hs ?_
     simp only[if_pos c1,List.append_nil]
     exact Ev.now _
   ·refine⟨[],[],(Zc buf).2.2.2.2.2,?_,?_,Nat.zero_le _,fun r hx=>absurd hx (by simp),fun r hx=>absurd hx (by simp)⟩
    ·apply ev_succ
     simp only[impl_Wire_feed.l0]
     refine Ev.bind hg ?_
     simp only[if_neg c0,if_neg c1,ZJ [] (by simp),Option.bind_some,List.append_nil]
     exact Ev.now _
    ·apply ev_succ
     simp only[spec_Feed.l0]
     refine Ev.bind hs ?_
     simp only[if_neg c0,if_neg c1,List.append_nil]
     exact Ev.now _
theorem Ze9(b0:List Int)(bad:Int)(b1:List Int)(h0:b0.length+b1.length≤1048575)(r0:∀x∈b0,0≤x∧x<256)(r1:∀x∈b1,0≤x∧x<256):
  ∃(rs:List S50)(b':List Int)(c':Int),Ev (fun k=>impl_Wire_feed.f k b0 bad b1) (rs,b',c')∧Ev (fun k=>spec_Feed.f k b0 bad b1) (b',c',rs)∧rs.length+b'.length≤b0.length+b1.length∧(∀x∈b',0≤x∧x<256)∧(∀r∈rs,r.f2.length≤8):=by
 by_cases q:bad=0
 ·subst q
  obtain⟨rs,b',c',g1,g2,g3,g4,g5⟩:=Ze8 (b0++b1).length [] (b0++b1) (Nat.le_refl _) (by rw[List.length_append];omega) (fun x hx=>(List.mem_append.1 hx).elim (r0 x) (r1 x)) (by rw[List.length_append];simp only[List.length_nil];omega)
  rw[List.nil_append]at g1 g2
  rw[List.length_append]at g3
  refine⟨rs,b',c',?_,?_,g3,g4,g5⟩
  ·unfold impl_Wire_feed.f
   simp only[ZJ b0 (by omega),Option.bind_some,if_true,if_pos (show b0.length+b1.length<140737488355328 by omega)]
   exact g1
  ·unfold spec_Feed.f
   simp only[Option.bind_some,List.length_nil,List.nil_append,if_true,if_pos (show 0+b0.length<140737488355328 by omega),if_pos (show b0.length+b1.length<140737488355328 by omega)]
   exact g2
 ·refine⟨[],b0,bad,?_,?_,by simp,r0,fun r hx=>absurd hx (by simp)⟩
  ·unfold impl_Wire_feed.f
   simp only[if_neg q]
   exact Ev.now _
  ·unfold spec_Feed.f
   simp only[Option.bind_some,List.length_nil,List.nil_append,if_neg q,if_pos (show 0+b0.length<140737488355328 by omega)]
   exact Ev.now _
theorem Zey(b0:List Int)(bad:Int)(b1:List Int)(h0:b0.length+b1.length≤1048575)(r0:∀x∈b0,0≤x∧x<256)(r1:∀x∈b1,0≤x∧x<256):
  ∃(rs:List S50)(b':List Int)(c':Int),Ev (fun k=>impl_Feed.f k b0 bad b1) (b',c',rs)∧Ev (fun k=>spec_Feed.f k b0 bad b1) (b',c',rs)∧rs.length+b'.length≤b0.length+b1.length∧(∀x∈b',0≤x∧x<256)∧(∀r∈rs,r.f2.length≤8):=by
 obtain⟨rs,b',c',g1,g2,g3,g4,g5⟩:=Ze9 b0 bad b1 h0 r0 r1
 refine⟨rs,b',c',?_,g2,g3,g4,g5⟩
 unfold impl_Feed.f
 simp only[ZJ b0 (by omega),Option.bind_some]
 exact Ev.bind g1 (Ev.now _)
theorem ZdD(x:Int):0≤Go.bits .and .i64 x 255∧Go.bits .and .i64 x 255≤255:=by
 have h2:(BitVec.ofInt 64 x).toNat&&&255≤255:=Nat.and_le_right
 have h:Go.bits .and .i64 x 255=IntKind.i64.wrap (((BitVec.ofInt 64 x&&&BitVec.ofInt 64 255).toNat:Nat):Int):=rfl
 have e:(BitVec.ofInt 64 255).toNat=255:=by decide
 rw[h,BitVec.toNat_and,e,IntKind.wrap_i64]
 omega
def Dr{α:Type}(f:List Int→Int→Int→Option (α×Int×Int))(P:α→Prop):Prop:=
 ∀(b:List Int)(i h:Int),b.length≤1048576→0≤i→i≤b.length→∃x i' h',f b i h=some (x,i',h')∧P x∧0≤i'∧i'≤b.length
theorem Zez(l:List Int)(hl:l.length≤1048576):∃h,Ev (fun k=>spec_l1New.f k l) (l,(0:Int),h):=by
 have key:∀n i (x:Int),l.length-i=n→∃h,Ev (fun k=>spec_l1New.l0 k l x (i:Int)) (l,(0:Int),h):=by
  intro n
  induction n with
  |zero=>
   intro i x hn
   refine⟨x,?_⟩
   apply ev_succ;simp only[spec_l1New.l0,if_neg (show¬(i:Int)<(l.length:Int) by omega)];exact Ev.now _
  |succ n ih=>
   intro i x hn
   by_cases h4:(i:Int)<4000
   ·obtain⟨h,hh⟩:=ih (i+1) (Go.bits .and .i64 (wrap64 ((wrap64 ((wrap64 (x*137))+(wrap64 (rd l i))))+11)) 1073741823) (by omega)
    refine⟨h,?_⟩
    apply ev_succ
    simp only[spec_l1New.l0,if_pos (show(i:Int)<(l.length:Int) by omega),if_pos h4,if_pos (show(0:Int)≤(i:Int) by omega),wrap_id (x:=(i:Int)+1) (by omega) (by omega)]
    exact hh
   ·refine⟨x,?_⟩
    apply ev_succ;simp only[spec_l1New.l0,if_pos (show(i:Int)<(l.length:Int) by omega),if_neg h4];exact Ev.now _
 exact key _ 0 _ rfl
theorem Zbo:Dr spec_l1Byte.f (fun x=>0≤x∧x≤255):=by
 intro b i h hb h0 h1
 unfold spec_l1Byte.f
 by_cases q:i<(b.length:Int)
 ·rw[if_pos q,if_pos h0]
  exact⟨_,_,_,rfl,ZdD _,by rw[wrap_id (by omega) (by omega)];omega,by rw[wrap_id (by omega) (by omega)];omega⟩
 ·rw[if_neg q]
  exact⟨_,_,_,rfl,ZdD _,h0,h1⟩
theorem Za2(x n:Int)(hx:0≤x)(hn:0<n):0≤Int.tmod x n∧Int.tmod x n<n:=by
 rw[Int.tmod_eq_emod_of_nonneg hx]
 exact⟨Int.emod_nonneg _ (by omega),Int.emod_lt_of_pos _ hn⟩
theorem Zp(n:Int):Dr (fun b i h=>spec_l1Below.f b i h n) (fun x=>0≤x∧(0<n→x<n)):=by
 intro b i h hb h0 h1
 show∃x i' h',spec_l1Below.f b i h n=some (x,i',h')∧_
 unfold spec_l1Below.f
 by_cases q:n≤0
 ·rw[if_pos q]
  exact⟨_,_,_,rfl,⟨by omega,by omega⟩,h0,h1⟩
 ·rw[if_neg q]
  obtain⟨x,i1,e1,f1,p1,a1,b1⟩:=Zbo b i h hb h0 h1
  by_cases q1:n≤256
  ·rw[if_pos q1,f1]
   simp only[Option.bind_some,if_neg (show¬n=0 by omega)]
   have:=Za2 x n p1.1 (by omega)
   exact⟨_,_,_,rfl,⟨this.1,fun _=>this.2⟩,a1,b1⟩
  ·rw[if_neg q1,f1]
   obtain⟨y,i2,e2,f2,p2,a2,b2⟩:=Zbo b i1 e1 hb a1 b1
   obtain⟨z,i3,e3,f3,p3,a3,b3⟩:=Zbo b i2 e2 hb a2 b2
   simp only[Option.bind_some,f2,f3,if_neg (show¬n=0 by omega)]
   rw[wrap_id (x:=x*65536) (by omega) (by omega),wrap_id (x:=y*256) (by omega) (by omega),wrap_id (x:=x*65536+y*256) (by omega) (by omega),wrap_id (x:=x*65536+y*256+z) (by omega) (by omega)]
   have:=Za2 (x*65536+y*256+z) n (by omega) (by omega)
   exact⟨_,_,_,rfl,⟨this.1,fun _=>this.2⟩,a3,b3⟩
theorem Zab(l:List BA)(hl:0<l.length):Dr (fun b i h=>spec_l1Str.f b i h l) (fun x=>x∈l):=by
 intro b i h hb h0 h1
 obtain⟨x,i1,e1,f1,p1,a1,b1⟩:=Zp (l.length:Int) b i h hb h0 h1
 have f1':spec_l1Below.f b i h (l.length:Int)=some (x,i1,e1):=f1
 have hx:=p1.2 (by omega)
 show∃x i' h',spec_l1Str.f b i h l=some (x,i',h')∧_
 unfold spec_l1Str.f
 rw[f1']
 simp only[Option.bind_some,if_pos p1.1,if_pos hx]
 refine⟨_,_,_,rfl,?_,a1,b1⟩
 have hn:x.toNat<l.length:=by omega
 rw[rdOf,List.getD_eq_getElem?_getD,List.getElem?_eq_getElem hn]
 exact List.getElem_mem hn
theorem ZbN(l:List Int)(hl:0<l.length):Dr (fun b i h=>spec_l1Int.f b i h l) (fun x=>x∈l):=by
 intro b i h hb h0 h1
 obtain⟨x,i1,e1,f1,p1,a1,b1⟩:=Zp (l.length:Int) b i h hb h0 h1
 have f1':spec_l1Below.f b i h (l.length:Int)=some (x,i1,e1):=f1
 have hx:=p1.2 (by omega)
 show∃x i' h',spec_l1Int.f b i h l=some (x,i',h')∧_
 unfold spec_l1Int.f
 rw[f1']
 simp only[Option.bind_some,if_pos p1.1,if_pos hx]
 refine⟨_,_,_,rfl,?_,a1,b1⟩
 have hn:x.toNat<l.length:=by omega
 rw[rd,List.getD_eq_getElem?_getD,List.getElem?_eq_getElem hn]
 exact List.getElem_mem hn
def HdP(l:List S83):Prop:=l.length≤20∧∀x∈l,x.f0.size≤100∧x.f1.size≤100
theorem ZeA{l:List S83}{x:S83}{n:Nat}(h:HdP l)(hn:l.length≤n)(hn9:n<20)(h0:x.f0.size≤100)(h1:x.f1.size≤100):HdP (l++[x])∧(l++[x]).length≤n+1:=by
 refine⟨⟨by rw[List.length_append];simp;omega,fun y hy=> ?_⟩,by rw[List.length_append];simp;omega⟩
 rcases List.mem_append.1 hy with hy|hy
 ·exact h.2 y hy
 ·simp only[List.mem_cons,List.not_mem_nil,or_false]at hy
  subst hy;exact⟨h0,h1⟩
theorem ZaQ:∀(n:Nat)(x:List S83)(b:List Int)(i h:Int),n≤5→HdP x→x.length≤9-n→b.length≤1048576→0≤i→i≤b.length→∃l i' h',Ev (fun k=>spec_l3DrawHeads.l0 k x (n:Int) b i h) (l,i',h')∧HdP l∧l.length≤9∧0≤i'∧i'≤b.length
 |0,x,b,i,h,hn,hx,hl,hb,h0,h1=>by
  refine⟨x,i,h,?_,hx,by omega,h0,h1⟩
  apply ev_succ
  simp only[spec_l3DrawHeads.l0,if_neg (show¬((0:Nat):Int)>0 by omega)]
  exact Ev.now _
 |n+1,x,b,i,h,hn,hx,hl,hb,h0,h1=>by
  obtain⟨y,i1,e1,f1,p1,a1,b1⟩:=Zab [(⟨#[105,102]⟩:BA),(⟨#[100,101,112,116,104]⟩:BA),(⟨#[120,45,97]⟩:BA),(⟨#[104,111,115,116]⟩:BA),(⟨#[105,102,45,109,97,116,99,104]⟩:BA)] (by decide) b i h hb h0 h1
  have f1':spec_l1Str.f b i h _=some (y,i1,e1):=f1
  have hy:y.size≤9:=(by decide:∀x∈_,x.size≤9) y p1
  obtain⟨z,i2,e2,f2,p2,a2,b2⟩:=Zab [(⟨#[]⟩:BA),(⟨#[48]⟩:BA),(⟨#[105,110,102,105,110,105,116,121]⟩:BA),(⟨#[97,32,98]⟩:BA),(⟨#[34,118,49,34]⟩:BA),(⟨#[40,60,49,62,41]⟩:BA)] (by decide) b i1 e1 hb a1 b1
  have f2':spec_l1Str.f b i1 e1 _=some (z,i2,e2):=f2
  have hz:z.size≤9:=(by decide:∀x∈_,x.size≤9) z p2
  obtain⟨hx2,hl2⟩:=ZeA (x:=⟨y,z⟩) hx hl (by omega) (by show y.size≤100;omega) (by show z.size≤100;omega)
  obtain⟨l,i3,e3,f3,p3,q3,a3,b3⟩:=ZaQ n (x++[⟨y,z⟩]) b i2 e2 (by omega) hx2 (by omega) hb a2 b2
  refine⟨l,i3,e3,?_,p3,q3,a3,b3⟩
  apply ev_succ
  have hw:wrap64 (((n+1:Nat):Int)-1)=(n:Int):=by rw[wrap_id (by omega) (by omega)];omega
  simp only[spec_l3DrawHeads.l0,if_pos (show((n+1:Nat):Int)>0 by omega),f1',f2',Option.bind_some,if_pos (show x.length<4398046511104 by omega),hw]
  exact f3
theorem Zcn(b:List Int)(i h:Int)(hb:b.length≤1048576)(h0:0≤i)(h1:i≤b.length):∃l i' h',Ev (fun k=>spec_l3DrawHeads.f k b i h) (l,i',h')∧HdP l∧l.length≤9∧0≤i'∧i'≤b.length:=by
 obtain⟨x,i1,e1,f1,p1,a1,b1⟩:=Zp 3 b i h hb h0 h1
 have f1':spec_l1Below.f b i h 3=some (x,i1,e1):=f1
 have hx:=p1.2 (by omega)
 have hx0:=p1.1
 obtain⟨n,rfl⟩:∃n:Nat,x=(n:Int):=⟨x.toNat,by omega⟩
 obtain⟨l,i2,e2,f2,p2⟩:=ZaQ n [] b i1 e1 (by omega) ⟨by simp,by simp⟩ (by simp) hb a1 b1
 refine⟨l,i2,e2,?_,p2⟩
 unfold spec_l3DrawHeads.f
 simp only[f1',Option.bind_some]
 exact f2
theorem Zbp(n:Int):Dr (fun b i h=>spec_l1Once.f b i h n) (fun _=>True):=by
 intro b i h hb h0 h1
 obtain⟨x,i1,e1,f1,p1,a1,b1⟩:=Zp n b i h hb h0 h1
 have f1':spec_l1Below.f b i h n=some (x,i1,e1):=f1
 show∃x i' h',spec_l1Once.f b i h n=some (x,i',h')∧_
 unfold spec_l1Once.f
 rw[f1']
 exact⟨_,_,_,rfl,trivial,a1,b1⟩
def RqP(m p:BA)(l:List S83)(b:BA):Prop:=m.size≤100∧p.size≤100∧HdP l∧b.size≤1000
theorem Zeg(b:List Int)(i h:Int)(hb:b.length≤1048576)(h0:0≤i)(h1:i≤b.length):∃m p l y i' h',Ev (fun k=>spec_l3Draw.f k b i h) (m,p,l,y,i',h')∧RqP m p l y∧l.length≤9∧0≤i'∧i'≤b.length:=by
 obtain⟨m,i1,e1,f1,p1,a1,b1⟩:=Zab [(⟨#[71,69,84]⟩:BA),(⟨#[80,85,84]⟩:BA),(⟨#[77,75,67,79,76]⟩:BA),(⟨#[68,69,76,69,84,69]⟩:BA),(⟨#[67,79,80,89]⟩:BA)] (by decide) b i h hb h0 h1
 have f1':spec_l1Str.f b i h _=some (m,i1,e1):=f1
 have hm:m.size≤9:=(by decide:∀x∈_,x.size≤9) m p1
 obtain⟨p,i2,e2,f2,p2,a2,b2⟩:=Zab [(⟨#[47]⟩:BA),(⟨#[47,97]⟩:BA),(⟨#[47,97,47,98]⟩:BA),(⟨#[47,97,37,50,48,98]⟩:BA),(⟨#[120]⟩:BA)] (by decide) b i1 e1 hb a1 b1
 have f2':spec_l1Str.f b i1 e1 _=some (p,i2,e2):=f2
 have hp:p.size≤9:=(by decide:∀x∈_,x.size≤9) p p2
 obtain⟨l,i3,e3,f3,p3,q3,a3,b3⟩:=Zcn b i2 e2 hb a2 b2
 obtain⟨y,i4,e4,f4,p4,a4,b4⟩:=Zab [(⟨#[]⟩:BA),(⟨#[]⟩:BA),(⟨#[97]⟩:BA),(⟨#[104,101,108,108,111]⟩:BA),(⟨#[60,97,47,62]⟩:BA),(⟨#[13,10,13,10]⟩:BA),(⟨#[120,0,255]⟩:BA)] (by decide) b i3 e3 hb a3 b3
 have f4':spec_l1Str.f b i3 e3 _=some (y,i4,e4):=f4
 have hy:y.size≤9:=(by decide:∀x∈_,x.size≤9) y p4
 have f4b:spec_l3Body.f b i3 e3=some (y,i4,e4):=by unfold spec_l3Body.f;rw[f4'];rfl
 refine⟨m,p,l,y,i4,e4,?_,⟨by omega,by omega,p3,by omega⟩,q3,a4,b4⟩
 unfold spec_l3Draw.f
 simp only[f1',f2',Option.bind_some]
 refine Ev.bind f3 ?_
 simp only[f4b,Option.bind_some]
 exact Ev.now _
def Zbw(m p:BA)(l:List S83)(more:BA):BA:=((((((m++(⟨#[32]⟩:BA))++p)++(⟨#[32,72,84,84,80,47,49,46,49]⟩:BA))++(⟨#[13,10]⟩:BA))++Za0 l)++more)++(⟨#[13,10]⟩:BA)
noncomputable def putV(m p:BA)(l:List S83)(b more:BA)(body:List Int):List Int:=if ZdQ m p l b=true then(if((Zbw m p l more).size:Int)>400 then[]else bytesOf (Zbw m p l more)++body)else[]
theorem Zbq:(⟨#[32]⟩:BA).size=1:=rfl
theorem Zco:(⟨#[32,72,84,84,80,47,49,46,49]⟩:BA).size=9:=rfl
theorem Zaj(m p:BA)(l:List S83)(b more body:BA)(hm:m.size≤1048576)(hp:p.size≤1048576)(hl:l.length≤1048576)(hs:∀x∈l,x.f0.size≤1048576∧x.f1.size≤1048576)(hmo:more.size≤1048576)(hb:body.size≤1000000000):Ev (fun k=>spec_l3Put.f k m p l b more body) (putV m p l b more (bytesOf body)):=by
 have hh:=ZcL l hl hs
 unfold spec_l3Put.f putV
 refine ev_ite (fun _=> ?_) (fun q=>absurd (by omega) q)
 refine ev_ite (fun _=> ?_) (fun q=>absurd (by simp only[ByteArray.size_append,Zbq];omega) q)
 refine ev_ite (fun _=> ?_) (fun q=>absurd (by simp only[ByteArray.size_append,Zbq];omega) q)
 refine ev_ite (fun _=> ?_) (fun q=>absurd (by simp only[ByteArray.size_append,Zbq,Zco];omega) q)
 refine Ev.bind (Za9 l hl hs) ?_
 refine ev_ite (fun _=> ?_) (fun q=>absurd (by simp only[ByteArray.size_append,Zbq,Zco,Zcj];omega) q)
 refine ev_ite (fun _=> ?_) (fun q=>absurd (by simp only[ByteArray.size_append,Zbq,Zco,Zcj];omega) q)
 refine ev_ite (fun _=> ?_) (fun q=>absurd (by simp only[ByteArray.size_append,Zbq,Zco,Zcj];omega) q)
 refine Ev.bind (ZcK m p l b hm hp (by omega) hs) (ev_iteB (fun q=> ?_) (fun q=> ?_))
 ·rw[if_pos q]
  refine ev_ite (fun q1=> ?_) (fun q1=> ?_)
  ·rw[if_pos (show((Zbw m p l more).size:Int)>400 from q1)];exact Ev.now _
  ·rw[if_neg (show¬((Zbw m p l more).size:Int)>400 from q1)]
   refine ev_ite (fun _=> ?_) (fun q=>absurd (by simp only[ByteArray.size_append,Zbq,Zco,Zcj];omega) q)
   refine ev_ite (fun _=> ?_) (fun q=>absurd (by simp only[ByteArray.size_append,Zbq,Zco,Zcj];omega) q)
   rw[bytesOf_append]
   exact Ev.now _
 ·rw[if_neg (by rw[q];simp)];exact Ev.now _
theorem ZeB(m p:BA)(l:List S83)(b more:BA)(body:List Int):(putV m p l b more body).length≤400+body.length:=by
 unfold putV
 split
 ·split
  ·simp
  ·rename_i h
   rw[List.length_append,←size_len];omega
 ·simp
noncomputable def putReqV(m p:BA)(l:List S83)(b:BA):List Int:=putV m p l b (if bytesOf b=[]then(⟨#[]⟩:BA)else Zck b) (bytesOf b)
theorem Zcp(m p:BA)(l:List S83)(b:BA)(hm:m.size≤1048576)(hp:p.size≤1048576)(hl:l.length≤1048576)(hs:∀x∈l,x.f0.size≤1048576∧x.f1.size≤1048576)(hb:b.size≤1048576):Ev (fun k=>spec_PutReq.f k m p l b) (putReqV m p l b):=by
 unfold spec_PutReq.f putReqV
 refine ev_ite (fun q=> ?_) (fun q=> ?_)
 ·have q':bytesOf b=[]:=(ZE b []).1 q
  rw[if_pos q',q']
  exact Ev.bind (Zaj m p l b (⟨#[]⟩:BA) (⟨#[]⟩:BA) hm hp hl hs (by decide) (by decide)) (Ev.now _)
 ·have q':¬bytesOf b=[]:=fun h=>q ((ZE b []).2 h)
  have hn:=Zet b.size hb
  rw[if_neg q']
  have e:=Zb9 (b.size:Int) (by omega)
  rw[Int.toNat_natCast]at e
  refine Ev.bind e ?_
  refine ev_ite (fun _=> ?_) (fun q=>absurd (by omega) q)
  refine ev_ite (fun _=> ?_) (fun q=>absurd (by simp only[ByteArray.size_append,ZeZ];omega) q)
  exact Ev.bind (Zaj m p l b (Zck b) b hm hp hl hs (by unfold Zck;simp only[ByteArray.size_append,ZeZ,Zcj];omega) (by omega)) (Ev.now _)
def Zy(d:Nat):Int:=if d<10 then 48+(d:Int)else 87+(d:Int)
def ZQ(u:Nat):List Int:=if h:u<16 then[Zy u]else ZQ (u/16)++[Zy (u%16)]
theorem Zah(u:Nat)(h:15<u):ZQ u=ZQ (u/16)++[Zy (u%16)]:=by rw[ZQ,dif_neg (by omega)]
theorem Z0(u:Nat)(h:u≤15):ZQ u=[Zy u]:=by rw[ZQ,dif_pos (by omega)]
theorem Zad(d:Nat)(h:d<16):48≤Zy d∧Zy d≤102:=by unfold Zy;split<;>omega
theorem Zcd(u:Nat):∀x∈ZQ u,0≤x∧x<256:=by
 induction u using Nat.strongRecOn with
 |_ u ih=>
  intro x h
  rcases Nat.lt_or_ge 15 u with h9|h9
  ·rw[Zah u h9,List.mem_append]at h
   rcases h with h|h
   ·exact ih (u/16) (by omega) x h
   ·simp only[List.mem_cons,List.not_mem_nil,or_false]at h
    have:=Zad (u%16) (Nat.mod_lt _ (by decide));omega
  ·rw[Z0 u h9]at h
   simp only[List.mem_cons,List.not_mem_nil,or_false]at h
   have:=Zad u (by omega);omega
theorem ZeS(u:Nat)(hu:u≤9223372036854775807):wrap64 (Int.tdiv (u:Int) 16)=((u/16:Nat):Int):=by
 rw[Int.tdiv_eq_ediv_of_nonneg (by omega),wrap_id (by omega) (by omega)]
 omega
theorem ZdE(u:Nat)(hu:u≤9223372036854775807):Int.tmod (u:Int) 16=((u%16:Nat):Int):=by
 rw[Int.tmod_eq_emod_of_nonneg (by omega)];omega
theorem ZbO:∀(k u:Nat),u<16^(k+1)→(ZQ u).length≤k+1
 |0,u,h=>by rw[Z0 u (by simpa using Nat.le_of_lt_succ h)];simp
 |k+1,u,h=>by
  rcases Nat.lt_or_ge 15 u with h9|h9
  ·rw[Zah u h9,List.length_append]
   have:=ZbO k (u/16) (by rw[Nat.pow_succ]at h;omega)
   simp;omega
  ·rw[Z0 u h9];simp
theorem ZcC(d:Nat)(h:d<16):spec_l1HexDigit.f ((d:Nat):Int)=some (Zy d):=by
 unfold spec_l1HexDigit.f Zy
 by_cases h9:d<10
 ·rw[if_pos (by omega),if_pos h9,wrap_id (by omega) (by omega)];congr 1;omega
 ·rw[if_neg (by omega),if_neg h9,wrap_id (x:=97+(d:Int)) (by omega) (by omega),wrap_id (by omega) (by omega)];congr 1;omega
theorem ZbD:∀(n u:Nat)(x:BA),u<16^(n+1)→u≤9223372036854775807→x.size≤1000-n→n≤20→bytesOf x=(ZQ u).drop ((ZQ u).length-1)++(bytesOf x).drop 1→Ev (fun k=>spec_Hex.l0 k (u:Int) x) (strOfNums (ZQ u++(bytesOf x).drop 1))
 |0,u,x,h,hu,hx,hn,hb=>by
  have h9:u≤15:=by omega
  apply ev_succ
  simp only[spec_Hex.l0,if_neg (show¬(u:Int)>15 by omega)]
  rw[Z0 u h9]at hb⊢
  simp only[List.length_cons,List.length_nil,List.drop_zero,Nat.zero_add,Nat.sub_self]at hb
  rw[←hb,strOfNums_bytesOf]
  exact Ev.now _
 |n+1,u,x,h,hu,hx,hn,hb=>by
  apply ev_succ
  rcases Nat.lt_or_ge 15 u with h9|h9
  ·have hd:=Zad (u/16%16) (Nat.mod_lt _ (by decide))
   have hy:bytesOf (strOfNums [Zy (u/16%16)])=[Zy (u/16%16)]:=bytesOf_strOfNums _ (by intro z hz;simp at hz;omega)
   have hs1:(strOfNums [Zy (u/16%16)]).size=1:=by rw[size_len,hy];rfl
   simp only[spec_Hex.l0,if_pos (show(u:Int)>15 by omega),ZeS u hu,ZdE (u/16) (by omega),ZcC _ (Nat.mod_lt _ (by decide:0<16)),Option.bind_some,hs1,if_pos (show 1+x.size≤9223372036854775807 by omega)]
   have e:bytesOf (strOfNums [Zy (u/16%16)]++x)=Zy (u/16%16)::bytesOf x:=by rw[bytesOf_append,hy];rfl
   have ih:=ZbD n (u/16) (strOfNums [Zy (u/16%16)]++x) (by rw[Nat.pow_succ]at h;omega) (by omega) (by rw[ByteArray.size_append,hs1];omega) (by omega) (by
    rw[e]
    simp only[List.drop_succ_cons,List.drop_zero]
    rcases Nat.lt_or_ge 15 (u/16)with h10|h10
    ·rw[Zah (u/16) h10]
     simp
    ·rw[Z0 (u/16) h10,Nat.mod_eq_of_lt (by omega)]
     simp)
   rw[e]at ih
   simp only[List.drop_succ_cons,List.drop_zero]at ih
   rw[Zah u h9]at hb⊢
   simp only[List.length_append,List.length_cons,List.length_nil,Nat.zero_add,Nat.add_sub_cancel,List.drop_left]at hb
   rw[List.append_assoc,←hb]
   exact ih
  ·simp only[spec_Hex.l0,if_neg (show¬(u:Int)>15 by omega)]
   rw[Z0 u h9]at hb⊢
   simp only[List.length_cons,List.length_nil,List.drop_zero,Nat.zero_add,Nat.sub_self]at hb
   rw[←hb,strOfNums_bytesOf]
   exact Ev.now _
theorem ZbE(u:Nat)(hu:u≤9223372036854775807):Ev (fun k=>spec_Hex.j0 k (u:Int)) (strOfNums (ZQ u)):=by
 apply ev_succ
 simp only[spec_Hex.j0,ZdE u hu,ZcC _ (Nat.mod_lt _ (by decide:0<16)),Option.bind_some]
 have hd:=Zad (u%16) (Nat.mod_lt _ (by decide))
 have hy:bytesOf (strOfNums [Zy (u%16)])=[Zy (u%16)]:=bytesOf_strOfNums _ (by intro z hz;simp at hz;omega)
 have hs1:(strOfNums [Zy (u%16)]).size=1:=by rw[size_len,hy];rfl
 have:=ZbD 18 u (strOfNums [Zy (u%16)]) (by omega) hu (by omega) (by omega) (by
  rw[hy]
  rcases Nat.lt_or_ge 15 u with h9|h9
  ·rw[Zah u h9];simp
  ·rw[Z0 u h9,Nat.mod_eq_of_lt (by omega)];simp)
 rw[hy]at this
 simpa using this
theorem Zdr(n:Int)(hn:n≤9223372036854775807):Ev (fun k=>spec_Hex.f k n) (strOfNums (ZQ n.toNat)):=by
 unfold spec_Hex.f
 refine ev_ite (fun h=> ?_) (fun h=> ?_)
 ·rw[show n.toNat=0 from by omega]
  exact ZbE 0 (by omega)
 ·have:=ZbE n.toNat (by omega)
  rwa[Int.toNat_of_nonneg (by omega)]at this
def Z6(b:List Int):List Int:=if b=[]then[]else ZQ b.length++[13,10]++b++[13,10]
def ZH:List Int→List Int→List Int
 |b,[]=>Z6 b++[48,13,10,13,10]
 |b,n::r=>if n<1 then ZH b r else Z6 (b.take n.toNat)++ZH (b.drop n.toNat) r
theorem ZeC{l:List Int}{p:Nat}{a:Int}{t:List Int}(h:l.drop p=a::t):rd l (p:Int)=a∧p<l.length∧l.drop (p+1)=t:=by
 have hp:p<l.length:=by
  rcases Nat.lt_or_ge p l.length with h'|h'
  ·exact h'
  ·rw[List.drop_eq_nil_of_le h']at h;cases h
 rw[List.drop_eq_getElem_cons hp]at h
 obtain⟨h1,h2⟩:=List.cons.inj h
 refine⟨?_,hp,h2⟩
 rw[rd,Int.toNat_natCast,List.getD_eq_getElem?_getD,List.getElem?_eq_getElem hp,Option.getD_some,h1]
theorem Zce:bytesOf (⟨#[13,10]⟩:BA)=[13,10]:=rfl
theorem ZdU:bytesOf (⟨#[48]⟩:BA)=[48]:=rfl
theorem Zao(b:List Int)(hb:b.length≤1048576):(Z6 b).length≤b.length+20:=by
 unfold Z6
 split
 ·simp
 ·have:=ZbO 5 b.length (by omega)
  simp only[List.length_append,List.length_cons,List.length_nil]
  omega
theorem ZcD(s:BA):s.toList=([]:List UInt8)↔bytesOf s=[]:=ZE s []
theorem Zax(s:BA)(j:Nat):bytesOf (s.extract 0 j)=(bytesOf s).take j:=by rw[bytesOf_extract,List.drop_zero]
theorem Za8(s:BA)(j:Nat):bytesOf (s.extract j s.size)=(bytesOf s).drop j:=by
 rw[bytesOf_extract,List.take_of_length_le (by rw[bytesOf_length];exact Nat.le_refl _)]
theorem Zbr(u:Nat):bytesOf (strOfNums (ZQ u))=ZQ u:=bytesOf_strOfNums _ (Zcd u)
theorem Zds(u:Nat):(strOfNums (ZQ u)).size=(ZQ u).length:=by rw[size_len,Zbr]
theorem ZaF(b:BA)(hb:b.size≤1048576):∃t,Ev (fun k=>spec_l4Piece.f k b) t∧bytesOf t=Z6 (bytesOf b):=by
 unfold spec_l4Piece.f
 by_cases q:b.toList=([]:List UInt8)
 ·refine⟨⟨#[]⟩,?_,?_⟩
  ·simp only[if_pos q];exact Ev.now _
  ·rw[(ZcD b).1 q];rfl
 ·have hl:=bytesOf_length b
  have h6:=ZbO 5 b.size (by omega)
  have hs:=Zds b.size
  have c2:(⟨#[13,10]⟩:BA).size=2:=rfl
  refine⟨((strOfNums (ZQ b.size)++(⟨#[13,10]⟩:BA))++b)++(⟨#[13,10]⟩:BA),?_,?_⟩
  ·simp only[if_neg q]
   have h:=Zdr (b.size:Int) (by omega)
   rw[Int.toNat_natCast]at h
   refine Ev.bind h ?_
   simp only[ByteArray.size_append,c2]
   rw[if_pos (by omega),if_pos (by omega),if_pos (by omega)]
   exact Ev.now _
  ·rw[bytesOf_append,bytesOf_append,bytesOf_append,Zbr,Zce]
   unfold Z6
   rw[if_neg (fun e=>q ((ZcD b).2 e)),hl]
theorem Zac(x1:List Int)(h1:x1.length≤1048576):∀(n i:Nat)(b s:BA),x1.length-i=n→i≤x1.length→s.size+b.size≤20*i+1048576→b.size≤1048576→
  ∃t,Ev (fun k=>spec_l4Text.l0 k b x1 s (i:Int)) t∧bytesOf t=bytesOf s++ZH (bytesOf b) (x1.drop i)∧t.size≤100000000
 |0,i,b,s,hn,hi,hs,hb=>by
  obtain⟨p,hp,hp1⟩:=ZaF b hb
  have hl:=bytesOf_length b
  have hp2:=Zao (bytesOf b) (by omega)
  have hp3:p.size≤b.size+20:=by rw[size_len,hp1];omega
  have c1:(⟨#[48]⟩:BA).size=1:=rfl
  have c2:(⟨#[13,10]⟩:BA).size=2:=rfl
  refine⟨(((s++p)++(⟨#[48]⟩:BA))++(⟨#[13,10]⟩:BA))++(⟨#[13,10]⟩:BA),?_,?_,?_⟩
  ·apply ev_succ
   simp only[spec_l4Text.l0,if_neg (show¬(i:Int)<x1.length by omega)]
   refine Ev.bind hp ?_
   simp only[ByteArray.size_append,c1,c2]
   rw[if_pos (by omega),if_pos (by omega),if_pos (by omega),if_pos (by omega)]
   exact Ev.now _
  ·rw[List.drop_eq_nil_of_le (by omega)]
   simp only[bytesOf_append,hp1,Zce,ZdU,ZH,List.append_assoc,List.cons_append,List.nil_append]
  ·simp only[ByteArray.size_append,c1,c2];omega
 |n+1,i,b,s,hn,hi,hs,hb=>by
  have hil:i<x1.length:=by omega
  obtain⟨hr,_,_⟩:=ZeC (List.drop_eq_getElem_cons hil)
  have hw:wrap64 ((i:Int)+1)=((i+1:Nat):Int):=by rw[wrap_id (by omega) (by omega)];omega
  have hl:=bytesOf_length b
  rw[List.drop_eq_getElem_cons hil]
  generalize x1[i]=m at hr
  by_cases q:m<1
  ·obtain⟨t,h2,h3⟩:=Zac x1 h1 n (i+1) b s (by omega) (by omega) (by omega) hb
   refine⟨t,?_,by simpa only[ZH,if_pos q]using h3⟩
   apply ev_succ
   simp only[spec_l4Text.l0,if_pos (show(i:Int)<x1.length by omega),if_pos (show(0:Int)≤(i:Int) by omega),hr,if_pos q,hw]
   exact h2
  ·simp only[ZH,if_neg q]
   have key:∀j:Nat,(bytesOf b).take j=(bytesOf b).take m.toNat→(bytesOf b).drop j=(bytesOf b).drop m.toNat→∃t,Ev (fun k=>(spec_l4Piece.f k (b.extract 0 j)).bind fun t112=>(if s.size+t112.size≤9223372036854775807 then(spec_l4Text.l0 k (b.extract j b.size) x1 (s++t112) (wrap64 ((i:Int)+1)))else(none))) t∧bytesOf t=bytesOf s++(Z6 ((bytesOf b).take m.toNat)++ZH ((bytesOf b).drop m.toNat) (x1.drop (i+1)))∧t.size≤100000000:=by
    intro j e1 e2
    have ht:(b.extract 0 j).size≤b.size:=by rw[size_len,Zax,List.length_take];omega
    have hd:(b.extract j b.size).size+(b.extract 0 j).size=b.size:=by
     have e3:=bytesOf_length (b.extract 0 j)
     have e4:=bytesOf_length (b.extract j b.size)
     rw[Zax,List.length_take]at e3
     rw[Za8,List.length_drop]at e4
     omega
    obtain⟨p,hp,hp1⟩:=ZaF (b.extract 0 j) (by omega)
    have hlt:=bytesOf_length (b.extract 0 j)
    have hp2:=Zao (bytesOf (b.extract 0 j)) (by omega)
    have hp3:p.size≤(b.extract 0 j).size+20:=by rw[size_len,hp1];omega
    obtain⟨t,h2,h3,h4⟩:=Zac x1 h1 n (i+1) (b.extract j b.size) (s++p) (by omega) (by omega) (by rw[ByteArray.size_append];omega) (by omega)
    refine⟨t,Ev.bind hp ?_,?_,h4⟩
    ·simp only[if_pos (show s.size+p.size≤9223372036854775807 by omega),hw];exact h2
    ·rw[h3,bytesOf_append,hp1,Zax,Za8,e1,e2,List.append_assoc]
   by_cases q1:m>(b.size:Int)
   ·obtain⟨t,h2,h3⟩:=key b.size (by rw[List.take_of_length_le (by omega),List.take_of_length_le (by omega)]) (by rw[List.drop_eq_nil_of_le (by omega),List.drop_eq_nil_of_le (by omega)])
    refine⟨t,?_,h3⟩
    apply ev_succ
    simp only[spec_l4Text.l0,if_pos (show(i:Int)<x1.length by omega),if_pos (show(0:Int)≤(i:Int) by omega),hr,if_neg q,if_pos q1,if_pos (show(0:Int)≤(b.size:Int) by omega),Int.le_refl,if_true]
    exact h2
   ·obtain⟨t,h2,h3⟩:=key m.toNat rfl rfl
    refine⟨t,?_,h3⟩
    apply ev_succ
    simp only[spec_l4Text.l0,if_pos (show(i:Int)<x1.length by omega),if_pos (show(0:Int)≤(i:Int) by omega),hr,if_neg q,if_neg q1,if_pos (show(0:Int)≤m by omega),if_pos (show m≤(b.size:Int) by omega)]
    exact h2
theorem Zcq(b:BA)(x1:List Int)(hb:b.size≤1048576)(h1:x1.length≤1048576):∃t,Ev (fun k=>spec_l4Text.f k b x1) t∧bytesOf t=ZH (bytesOf b) x1∧t.size≤100000000:=by
 have:=Zac x1 h1 x1.length 0 b ⟨#[]⟩ rfl (by omega) (by have c0:(⟨#[]⟩:BA).size=0:=rfl;omega) hb
 exact this
def TEl:BA:=⟨#[116,114,97,110,115,102,101,114,45,101,110,99,111,100,105,110,103,58,32,99,104,117,110,107,101,100,13,10]⟩
theorem Zbs(m p:BA)(l:List S83)(b:BA)(s:List Int)(hm:m.size≤1048576)(hp:p.size≤1048576)(hl:l.length≤1048576)(hz:∀x∈l,x.f0.size≤1048576∧x.f1.size≤1048576)(hb:b.size≤1048576)(hs:s.length≤1048576):Ev (fun k=>spec_PutChunked.f k m p l b s) (putV m p l b TEl (ZH (bytesOf b) s)):=by
 obtain⟨t,ht,ht1,ht2⟩:=Zcq b s hb hs
 unfold spec_PutChunked.f
 rw[←ht1]
 exact Ev.bind ht (Ev.bind (Zaj m p l b TEl t hm hp hl hz (by decide) (by omega)) (Ev.now _))
def BtP(n:Nat)(l:List Int):Prop:=l.length≤n∧∀x∈l,0≤x∧x<256
theorem Zbt(b:List Int)(h:∀x∈b,0≤x∧x<256):∀x∈Z6 b,0≤x∧x<256:=by
 intro x hx
 unfold Z6 at hx
 split at hx
 ·exact absurd hx (by simp)
 ·simp only[List.mem_append]at hx
  rcases hx with((hx|hx)|hx)|hx
  ·exact Zcd _ x hx
  ·simp at hx;omega
  ·exact h x hx
  ·simp at hx;omega
theorem ZbP:∀(s b:List Int),b.length≤1048576→(∀x∈b,0≤x∧x<256)→(ZH b s).length≤b.length+20*s.length+25∧∀x∈ZH b s,0≤x∧x<256
 |[],b,hb,hr=>by
  have:=Zao b hb
  rw[ZH]
  refine⟨by simp only[List.length_append,List.length_cons,List.length_nil];omega,fun x hx=> ?_⟩
  rcases List.mem_append.1 hx with h|h
  ·exact Zbt b hr x h
  ·simp at h;omega
 |n::r,b,hb,hr=>by
  rw[ZH]
  split
  ·have:=ZbP r b hb hr
   exact⟨by rw[List.length_cons];omega,this.2⟩
  ·have hd:(b.take n.toNat).length+(b.drop n.toNat).length=b.length:=by rw[←List.length_append,List.take_append_drop]
   have h1:=ZbP r (b.drop n.toNat) (by omega) (fun x hx=>hr x (List.mem_of_mem_drop hx))
   have h2:=Zao (b.take n.toNat) (by omega)
   refine⟨by rw[List.length_append,List.length_cons];omega,fun x hx=> ?_⟩
   rcases List.mem_append.1 hx with h|h
   ·exact Zbt _ (fun y hy=>hr y (List.mem_of_mem_take hy)) x h
   ·exact h1.2 x h
theorem Zeh(m p:BA)(l:List S83)(b more:BA)(body:List Int)(n:Nat)(h:BtP n body):BtP (400+n) (putV m p l b more body):=by
 refine⟨by have:=ZeB m p l b more body;have:=h.1;omega,?_⟩
 unfold putV
 split
 ·split
  ·simp
  ·intro x hx
   rcases List.mem_append.1 hx with hx|hx
   ·exact bytesOf_range _ x hx
   ·exact h.2 x hx
 ·simp
theorem ZcE(s:BA)(n:Nat)(h:s.size≤n):BtP n (bytesOf s):=⟨by rw[bytesOf_length];exact h,bytesOf_range s⟩
theorem BtP.mono{n m:Nat}{l:List Int}(h:BtP n l)(hm:n≤m):BtP m l:=⟨Nat.le_trans h.1 hm,h.2⟩
theorem Zfa{m p:BA}{l:List S83}{b:BA}(h:RqP m p l b):m.size≤1048576∧p.size≤1048576∧l.length≤1048576∧(∀x∈l,x.f0.size≤1048576∧x.f1.size≤1048576)∧b.size≤1048576:=
 ⟨by have:=h.1;omega,by have:=h.2.1;omega,by have:=h.2.2.1.1;omega,fun x hx=>by have:=h.2.2.1.2 x hx;omega,by have:=h.2.2.2;omega⟩
theorem Zcf(t:List Int)(ht:BtP 3000 t)(b:List Int)(i h:Int)(hb:b.length≤1048576)(h0:0≤i)(h1:i≤b.length):∃l i' h',Ev (fun k=>spec_l3Bytes.j0 k t b i h) (l,i',h')∧BtP 4000 l∧0≤i'∧i'≤b.length:=by
 obtain⟨tl,tr⟩:=ht
 obtain⟨v,i1,e1,f1,p1,a1,b1⟩:=Zp 8 b i h hb h0 h1
 have f1':spec_l1Below.f b i h 8=some (v,i1,e1):=f1
 obtain⟨z,i3,e3,f3,p3,a3,b3⟩:=Zp ((t.length:Int)+1) b i1 e1 hb a1 b1
 have f3':spec_l1Below.f b i1 e1 ((t.length:Int)+1)=some (z,i3,e3):=f3
 have hw:wrap64 ((t.length:Int)+1)=(t.length:Int)+1:=wrap_id (by omega) (by omega)
 have hz:=p3.2 (by omega)
 have hz0:=p3.1
 by_cases c0:v=0
 ·obtain⟨s,i2,e2,f2,p2,a2,b2⟩:=Zab [(⟨#[71,69,84,32,47,32,72,84,84,80,47,49,46,49,13,10,13,10]⟩:BA),(⟨#[71,69,84,32,47,32,72,84,84,80,47,49,46,48,13,10,13,10]⟩:BA),(⟨#[71,69,84,32,47,13,10,13,10]⟩:BA),(⟨#[80,85,84,32,47,32,72,84,84,80,47,49,46,49,13,10,67,111,110,116,101,110,116,45,76,101,110,103,116,104,58,32,51,13,10,13,10,97,98,99]⟩:BA),(⟨#[80,85,84,32,47,32,72,84,84,80,47,49,46,49,13,10,99,111,110,116,101,110,116,45,108,101,110,103,116,104,58,32,50,48,49,13,10,13,10]⟩:BA),(⟨#[80,85,84,32,47,32,72,84,84,80,47,49,46,49,13,10,99,111,110,116,101,110,116,45,108,101,110,103,116,104,58,32,49,13,10,99,111,110,116,101,110,116,45,108,101,110,103,116,104,58,32,49,13,10,13,10,97]⟩:BA),(⟨#[80,85,84,32,47,32,72,84,84,80,47,49,46,49,13,10,116,114,97,110,115,102,101,114,45,101,110,99,111,100,105,110,103,58,32,103,122,105,112,13,10,13,10]⟩:BA),(⟨#[80,85,84,32,47,32,72,84,84,80,47,49,46,49,13,10,84,114,97,110,115,102,101,114,45,69,110,99,111,100,105,110,103,58,32,67,72,85,78,75,69,68,13,10,13,10,49,13,10,97,13,10,48,13,10,13,10]⟩:BA),(⟨#[65,32,47,32,72,84,84,80,47,49,46,49,13,10,120,13,10,13,10]⟩:BA),(⟨#[65,32,47,32,72,84,84,80,47,49,46,49,13,10,32,88,32,58,32,121,32,13,10,13,10]⟩:BA),(⟨#[65,32,47,32,72,84,84,80,47,49,46,49,13,10,88,58,9,32,121,32,13,10,13,10]⟩:BA),(⟨#[13,10,13,10]⟩:BA),(⟨#[80,85,84,32,47,32,72,84,84,80,47,49,46,49,13,10,99,111,110,116,101,110,116,45,108,101,110,103,116,104,58,32,48,51,13,10,13,10,97,98,99]⟩:BA)] (by decide) b i1 e1 hb a1 b1
  have f2':spec_l1Str.f b i1 e1 _=some (s,i2,e2):=f2
  have hs:s.size≤99:=(by decide:∀x∈_,x.size≤99) s p2
  refine⟨bytesOf s,i2,e2,?_,ZcE s 4000 (by omega),a2,b2⟩
  apply ev_succ
  simp only[spec_l3Bytes.j0,f1',Option.bind_some,if_pos c0,f2',if_pos (show s.size<140737488355328 by omega)]
  exact Ev.now _
 by_cases c1:v=1
 ·obtain⟨u,i4,e4,f4,p4,a4,b4⟩:=ZbN [0,13,10,32,58,65,255] (by decide) b i3 e3 hb a3 b3
  have f4':spec_l1Int.f b i3 e3 _=some (u,i4,e4):=f4
  refine⟨(([]++t.take z.toNat)++[u%256])++t.drop z.toNat,i4,e4,?_,⟨?_,?_⟩,a4,b4⟩
  ·apply ev_succ
   simp only[spec_l3Bytes.j0,f1',Option.bind_some,if_neg c0,if_pos c1,hw,f3',if_pos hz0,if_pos (show z≤(t.length:Int) by omega),f4']
   rw[if_pos (by simp only[List.length_nil,List.length_take];omega)]
   (try simp only[Option.bind_some])
   rw[if_pos (by simp only[List.length_nil,List.length_append,List.length_take];omega)]
   (try simp only[Option.bind_some])
   rw[if_pos (by simp only[List.length_nil,List.length_append,List.length_take,List.length_drop,List.length_cons];omega)]
   exact Ev.now _
  ·simp only[List.length_nil,List.length_append,List.length_take,List.length_drop,List.length_cons];omega
  ·intro x hx
   simp only[List.nil_append,List.mem_append,List.mem_cons,List.not_mem_nil,or_false]at hx
   rcases hx with(hx|hx)|hx
   ·exact tr x (List.mem_of_mem_take hx)
   ·subst hx;omega
   ·exact tr x (List.mem_of_mem_drop hx)
 by_cases c2:v=2
 ·refine⟨t.take z.toNat,i3,e3,?_,⟨by rw[List.length_take];omega,fun x hx=>tr x (List.mem_of_mem_take hx)⟩,a3,b3⟩
  apply ev_succ
  simp only[spec_l3Bytes.j0,f1',Option.bind_some,if_neg c0,if_neg c1,if_pos c2,hw,f3',if_pos hz0,if_pos (show z≤(t.length:Int) by omega)]
  exact Ev.now _
 by_cases c3:v=3
 ·obtain⟨o,i4,e4,f4,_,a4,b4⟩:=Zbp 4 b i1 e1 hb a1 b1
  have f4':spec_l1Once.f b i1 e1 4=some (o,i4,e4):=f4
  cases o with
  |true=>
   obtain⟨w,i5,e5,f5,p5,a5,b5⟩:=Zp 4 b i4 e4 hb a4 b4
   have f5':spec_l1Below.f b i4 e4 4=some (w,i5,e5):=f5
   have hw5:=p5.2 (by omega)
   have hw0:=p5.1
   have hw2:wrap64 (399+w)=399+w:=wrap_id (by omega) (by omega)
   refine⟨List.replicate (399+w:Int).toNat 0,i5,e5,?_,⟨by rw[List.length_replicate];omega,fun x hx=>by rw[List.eq_of_mem_replicate hx];omega⟩,a5,b5⟩
   apply ev_succ
   simp only[spec_l3Bytes.j0,f1',Option.bind_some,if_neg c0,if_neg c1,if_neg c2,if_pos c3,f4',if_true,f5',hw2,if_pos (show(0:Int)≤399+w by omega),if_pos (show(399+w:Int).toNat≤281474976710656 by omega)]
   exact Ev.now _
  |false=>
   refine⟨t,i4,e4,?_,⟨by omega,tr⟩,a4,b4⟩
   apply ev_succ
   simp only[spec_l3Bytes.j0,f1',Option.bind_some,if_neg c0,if_neg c1,if_neg c2,if_pos c3,f4',Bool.false_eq_true,if_false]
   exact Ev.now _
 ·refine⟨t,i1,e1,?_,⟨by omega,tr⟩,a1,b1⟩
  apply ev_succ
  simp only[spec_l3Bytes.j0,f1',Option.bind_some,if_neg c0,if_neg c1,if_neg c2,if_neg c3]
  exact Ev.now _
theorem Zei{m p:BA}{l:List S83}{y:BA}(h:RqP m p l y):BtP 3000 (putReqV m p l y):=by
 unfold putReqV
 exact(Zeh m p l y _ (bytesOf y) 1000 (ZcE y 1000 h.2.2.2)).mono (by omega)
theorem ZdV(b:List Int)(i h:Int)(hb:b.length≤1048576)(h0:0≤i)(h1:i≤b.length):∃l i' h',Ev (fun k=>spec_l3Bytes.f k b i h) (l,i',h')∧BtP 4000 l∧0≤i'∧i'≤b.length:=by
 obtain⟨m,p,d,y,i1,e1,f1,p1,_,a1,b1⟩:=Zeg b i h hb h0 h1
 obtain⟨s1,s2,s3,s4,s5⟩:=Zfa p1
 have ep:=Zcp m p d y s1 s2 s3 s4 s5
 obtain⟨o,i2,e2,f2,_,a2,b2⟩:=Zbp 3 b i1 e1 hb a1 b1
 have f2':spec_l1Once.f b i1 e1 3=some (o,i2,e2):=f2
 unfold spec_l3Bytes.f
 cases o with
 |true=>
  obtain⟨v,i3,e3,f3,p3,a3,b3⟩:=Zp 4 b i2 e2 hb a2 b2
  have f3':spec_l1Below.f b i2 e2 4=some (v,i3,e3):=f3
  have ec:=Zbs m p d y [v,1,2] s1 s2 s3 s4 s5 (by simp)
  have hy:=bytesOf_length y
  have hc:=ZbP [v,1,2] (bytesOf y) (by omega) (bytesOf_range y)
  have hy9:=p1.2.2.2
  have hB:=(Zeh m p d y TEl (ZH (bytesOf y) [v,1,2]) 2000 ⟨by have:=hc.1;simp only[List.length_cons,List.length_nil]at this;omega,hc.2⟩).mono (show 400+2000≤3000 by omega)
  obtain⟨l,i4,e4,f4,p4⟩:=Zcf _ hB b i3 e3 hb a3 b3
  refine⟨l,i4,e4,Ev.bind f1 (Ev.bind ep ?_),p4⟩
  simp only[f2',Option.bind_some,if_true,f3']
  exact Ev.bind ec f4
 |false=>
  obtain⟨l,i4,e4,f4,p4⟩:=Zcf _ (Zei p1) b i2 e2 hb a2 b2
  refine⟨l,i4,e4,Ev.bind f1 (Ev.bind ep ?_),p4⟩
  simp only[f2',Option.bind_some,Bool.false_eq_true,if_false]
  exact f4
theorem Zfb(l:List Int)(hl:l.length≤1048576)(hr:∀x∈l,0≤x∧x<256)(a:Int)(h0:0≤a)(h9:a≤1000):∃v,laws_at.f l a=some v∧0≤v∧v≤255:=by
 unfold laws_at.f
 by_cases q:a<(l.length:Int)
 ·rw[if_pos q,if_pos h0]
  have hn:a.toNat<l.length:=by omega
  have he:rd l a=l[a.toNat]:=by rw[rd,List.getD_eq_getElem?_getD,List.getElem?_eq_getElem hn,Option.getD_some]
  have:=hr _ (List.getElem_mem hn)
  refine⟨_,rfl,?_⟩
  rw[he,wrap_id (by omega) (by omega)];omega
 ·rw[if_neg q]
  refine⟨_,rfl,?_⟩
  rw[wrap_id (x:=a*31) (by omega) (by omega),wrap_id (x:=(l.length:Int)*7) (by omega) (by omega),wrap_id (by omega) (by omega)]
  have:=Za2 (a*31+(l.length:Int)*7) 256 (by omega) (by omega)
  omega
theorem Zbz(a b:List S83)(ha:a.length≤9223372036854775806):Ev (fun k=>impl_sameHeads.f k a b) (eqb a b):=by
 unfold impl_sameHeads.f
 refine ev_ite (fun q=> ?_) (fun q=> ?_)
 ·have q':a.length=b.length:=by omega
  refine eq_loop a b (·=·) q' ha (fun i k=>impl_sameHeads.l0 k a b (a.length:Int) (i:Int)) _ ((eqb_iff a b).trans (list_eq_iff a b q')) ?_ ?_
  ·intro i hi
   apply ev_succ;simp only[impl_sameHeads.l0,if_neg (show¬(i:Int)<a.length by omega)];exact Ev.now _
  ·intro i x y v hi hx hy hw1 ih
   have hxx:rd_T83 a (i:Int)=x:=hx _
   have hyy:rd_T83 b (i:Int)=y:=hy _
   refine⟨fun hR=> ?_,fun hR=> ?_⟩
   ·apply ev_succ
    subst hR
    simp only[impl_sameHeads.l0,if_pos (show(i:Int)<a.length by omega),if_pos (show(0:Int)≤i by omega),if_pos (show(i:Int)<b.length by omega),hxx,hyy,hw1,beq_self_eq_true,Bool.not_true,Bool.or_self,Bool.false_eq_true,if_false];exact ih
   ·apply ev_succ
    simp only[impl_sameHeads.l0,if_pos (show(i:Int)<a.length by omega),if_pos (show(0:Int)≤i by omega),if_pos (show(i:Int)<b.length by omega),hxx,hyy,hw1]
    refine ev_ite (fun _=>Ev.now _) (fun hn=>absurd ?_ hn)
    rw[ZeN]at hR
    simp only[Bool.or_eq_true,Bool.not_eq_true',beq_eq_false_iff_ne,ne_eq,toList_iff]
    by_cases e0:x.f0=y.f0
    ·exact .inr (fun e1=>hR ⟨e0,e1⟩)
    ·exact .inl e0
 ·rw[eqb_ne (fun h=>q (by rw[h]))];exact Ev.now _
theorem ZdW(a b:BA):(a.toList==b.toList)=eqb a b:=by
 rw[Bool.eq_iff_iff,beq_iff_eq,toList_iff,eqb_iff]
theorem Zcg(m p:BA)(l:List S83)(b:BA)(m' p':BA)(l':List S83)(b':BA)(hl:l.length≤9223372036854775806):Ev (fun k=>impl_SameReq.f k m p l b m' p' l' b') (decb (Zda m p l b m' p' l' b')):=by
 unfold impl_SameReq.f
 refine ev_ite (fun q=> ?_) (fun q=> ?_)
 ·rw[toList_iff]at q
  refine ev_ite (fun q0=> ?_) (fun q0=> ?_)
  ·rw[toList_iff]at q0
   refine Ev.bind (Zbz l l' hl) (ev_iteB (fun q1=> ?_) (fun q1=> ?_))
   ·rw[eqb_iff]at q1
    rw[ZdW,show eqb b b'=decb (Zda m p l b m' p' l' b')from eqb_congr2 ⟨fun h=>⟨q,q0,q1,h⟩,fun h=>h.2.2.2⟩];exact Ev.now _
   ·have:¬l=l':=fun h=>by rw[(eqb_iff l l').mpr h]at q1;cases q1
    rw[decb_false (fun h=>this h.2.2.1)];exact Ev.now _
  ·rw[toList_iff]at q0;rw[decb_false (fun h=>q0 h.2.1)];exact Ev.now _
 ·rw[toList_iff]at q;rw[decb_false (fun h=>q h.1)];exact Ev.now _
theorem Ze1(l:List Int)(hl:l.length≤1048576)(hr:∀x∈l,0≤x∧x<256):∀(n i:Nat)(b:List Int)(out:List (List Int)),41-i=n→i≤40→b.length≤1048576→out.length=i→∃pcs,Ev (fun k=>laws_cut.l0 k l b out (i:Int)) pcs∧pcs.flatten=out.flatten++b∧pcs.length≤42:=by
 intro n
 induction n with
 |zero=>intro i b out hn hi _ _;omega
 |succ n ih=>
  intro i b out hn hi hb ho
  have hj0:Ev (fun k=>laws_cut.j1 k l b out (i:Int) false) (out++[b]):=by
   apply ev_succ
   simp only[laws_cut.j1,Bool.false_eq_true,if_false,if_pos (show out.length<5864062014805 by omega)]
   exact Ev.now _
  have hend:(out++[b]).flatten=out.flatten++b∧(out++[b]).length≤42:=by
   rw[List.flatten_append,List.length_append];simp;omega
  by_cases q:0<b.length
  ·by_cases q1:i<40
   ·have hw:wrap64 ((i:Int)+9)=(i:Int)+9:=wrap_id (by omega) (by omega)
    have hw1:wrap64 ((i:Int)+1)=((i+1:Nat):Int):=by rw[wrap_id (by omega) (by omega)];rfl
    obtain⟨v,ev,v0,v9⟩:=Zfb l hl hr ((i:Int)+9) (by omega) (by omega)
    have t0:0≤Int.tmod v 9:=Int.tmod_nonneg _ v0
    have t1:Int.tmod v 9<9:=Int.tmod_lt_of_pos _ (by omega)
    have hw2:wrap64 (1+Int.tmod v 9)=1+Int.tmod v 9:=wrap_id (by omega) (by omega)
    obtain⟨c,hc⟩:∃c:Nat,1+Int.tmod v 9=(c:Int):=⟨(1+Int.tmod v 9).toNat,by omega⟩
    rw[hc]at hw2
    have step:∀c:Nat,c≤b.length→∃pcs,Ev (fun k=>laws_cut.l0 k l (b.drop c) (out++[b.take c]) ((i+1:Nat):Int)) pcs∧pcs.flatten=out.flatten++b∧pcs.length≤42:=by
     intro c hcb
     obtain⟨pcs,h1,h2,h3⟩:=ih (i+1) (b.drop c) (out++[b.take c]) (by omega) (by omega) (by rw[List.length_drop];omega) (by rw[List.length_append,List.length_singleton];omega)
     refine⟨pcs,h1,?_,h3⟩
     rw[h2,List.flatten_append]
     simp
    by_cases q2:(c:Int)>(b.length:Int)
    ·obtain⟨pcs,h1,h2,h3⟩:=step b.length (Nat.le_refl _)
     refine⟨pcs,?_,h2,h3⟩
     apply ev_succ
     simp only[laws_cut.l0,if_pos (show(b.length:Int)>0 by omega),decide_eq_true (show(i:Int)<40 by omega)]
     apply ev_succ
     simp only[laws_cut.j1,if_true,hw,ev,Option.bind_some,hw1,hw2,hc,if_pos q2,if_pos (show(0:Int)≤(b.length:Int) by omega),if_pos (Int.le_refl (b.length:Int)),if_pos (show out.length<5864062014805 by omega),Int.toNat_natCast]
     exact h1
    ·obtain⟨pcs,h1,h2,h3⟩:=step c (by omega)
     refine⟨pcs,?_,h2,h3⟩
     apply ev_succ
     simp only[laws_cut.l0,if_pos (show(b.length:Int)>0 by omega),decide_eq_true (show(i:Int)<40 by omega)]
     apply ev_succ
     simp only[laws_cut.j1,if_true,hw,ev,Option.bind_some,hw1,hw2,hc,if_neg q2,if_pos (show(0:Int)≤(c:Int) by omega),if_pos (show(c:Int)≤(b.length:Int) by omega),if_pos (show out.length<5864062014805 by omega),Int.toNat_natCast]
     exact h1
   ·refine⟨out++[b],?_,hend⟩
    apply ev_succ
    simp only[laws_cut.l0,if_pos (show(b.length:Int)>0 by omega),decide_eq_false (show¬(i:Int)<40 by omega)]
    exact hj0
  ·refine⟨out++[b],?_,hend⟩
   apply ev_succ
   simp only[laws_cut.l0,if_neg (show¬(b.length:Int)>0 by omega)]
   exact hj0
theorem Ze2(l b:List Int)(hl:l.length≤1048576)(hr:∀x∈l,0≤x∧x<256)(hb:b.length≤1048576):∃pcs,Ev (fun k=>laws_cut.f k l b) pcs∧pcs.flatten=b∧pcs.length≤42:=by
 obtain⟨pcs,h1,h2,h3⟩:=Ze1 l hl hr _ 0 b [] rfl (Nat.zero_le _) hb rfl
 exact⟨pcs,h1,by rw[h2];rfl,h3⟩
theorem ZbF(a:List S50)(ha:a.length≤1048576)(hh:∀r∈a,r.f2.length≤1048576):Ev (fun k=>laws_sameReqs.f k a a) true:=by
 unfold laws_sameReqs.f
 simp only[if_true]
 refine list_loop_st a (by omega) (fun i (_:Unit) k=>laws_sameReqs.l0 k a a (i:Int)) (fun _ _ _=>true) (fun _ _ r=>∀x∈r,x.f2.length≤1048576) ?_ ?_ 0 () hh
 ·intro i _ _ hi
  apply ev_succ;simp only[laws_sameReqs.l0,if_neg (show¬(i:Int)<a.length by omega)];exact Ev.now _
 ·intro i _ c r hr h hb hi hw1 ih
  have hbb:rd_T50 a (i:Int)=c:=hb _
  have ih':=ih () (fun x hx=>hr x (by simp[hx]))
  have hs:=Zcg c.f0 c.f1 c.f2 c.f3 c.f0 c.f1 c.f2 c.f3 (by have:=hr c (by simp);omega)
  rw[decb_true ⟨rfl,rfl,rfl,rfl⟩]at hs
  apply ev_succ
  simp only[laws_sameReqs.l0,if_pos (show(i:Int)<(a.length:Int) by omega),if_pos (show(0:Int)≤(i:Int) by omega),hbb,hw1]
  refine Ev.bind hs ?_
  simp only[if_true]
  exact ih'
abbrev qR(l:List Int):S50:=⟨(Zc l).1,(Zc l).2.1,(Zc l).2.2.1,(Zc l).2.2.2.1⟩
noncomputable def fdN:Nat→List Int→List S50×List Int×Int
 |0,l=>([],l,0)
 |n+1,l=>if Zh (Zc l)=0 then(qR l::(fdN n (l.drop (ZD (Zc l)).toNat)).1,(fdN n (l.drop (ZD (Zc l)).toNat)).2)else if Zh (Zc l)=1 then([],l,0)else([],[],Zh (Zc l))
theorem Zay:Zh (Zc [])=1:=by decide
theorem Zbx:∀n,fdN n []=([],[],0)
 |0=>rfl
 |n+1=>by rw[fdN,if_neg (by rw[Zay];decide),if_pos Zay]
abbrev OkB(l:List Int):Prop:=l.length≤1048575∧∀x∈l,0≤x∧x<256
theorem OkB.drop{l:List Int}(h:OkB l)(e:Nat):OkB (l.drop e):=⟨by rw[List.length_drop];have:=h.1;omega,fun x hx=>h.2 x (List.mem_of_mem_drop hx)⟩
theorem Zej:∀(n m:Nat)(l:List Int),l.length≤n→l.length≤m→OkB l→fdN n l=fdN m l
 |0,m,l,h,_,_=>by
  have:l=[]:=List.length_eq_zero_iff.1 (by omega)
  subst this;rw[Zbx,Zbx]
 |n+1,0,l,_,h,_=>by
  have:l=[]:=List.length_eq_zero_iff.1 (by omega)
  subst this;rw[Zbx,Zbx]
 |n+1,m+1,l,h,h',hl=>by
  rw[fdN,fdN]
  by_cases c:Zh (Zc l)=0
  ·have:=Zag l hl.1 hl.2 c
   have hd:(l.drop (ZD (Zc l)).toNat).length≤l.length-4:=by rw[List.length_drop];omega
   rw[if_pos c,if_pos c,Zej n m (l.drop (ZD (Zc l)).toNat) (by omega) (by omega) (hl.drop _)]
  ·rw[if_neg c,if_neg c]
noncomputable def fd(l:List Int):List S50×List Int×Int:=fdN l.length l
theorem Zcr(l:List Int)(h:0<l.length):fd l=fdN ((l.length-1)+1) l:=by unfold fd;congr 1;omega
theorem Ze3{l:List Int}(h:Zh (Zc l)≠1):0<l.length:=by
 rcases Nat.eq_zero_or_pos l.length with q|q
 ·have:l=[]:=List.length_eq_zero_iff.1 q
  subst this;exact absurd Zay h
 ·exact q
theorem ZeD(l:List Int)(hl:OkB l)(c:Zh (Zc l)=0):fd l=(qR l::(fd (l.drop (ZD (Zc l)).toNat)).1,(fd (l.drop (ZD (Zc l)).toNat)).2):=by
 have:=Zag l hl.1 hl.2 c
 have hd:(l.drop (ZD (Zc l)).toNat).length≤l.length-4:=by rw[List.length_drop];omega
 rw[Zcr l (by omega),fdN,if_pos c,Zej (l.length-1) (l.drop (ZD (Zc l)).toNat).length (l.drop (ZD (Zc l)).toNat) (by omega) (Nat.le_refl _) (hl.drop _)]
 rfl
theorem Zdi(l:List Int)(c:Zh (Zc l)=1):fd l=([],l,0):=by
 rcases Nat.eq_zero_or_pos l.length with q|q
 ·have:l=[]:=List.length_eq_zero_iff.1 q
  subst this;rfl
 ·rw[Zcr l q,fdN,if_neg (by rw[c];decide),if_pos c]
theorem ZeE(l:List Int)(c:Zh (Zc l)≠0)(d:Zh (Zc l)≠1):fd l=([],[],Zh (Zc l)):=by
 rw[Zcr l (Ze3 d),fdN,if_neg c,if_neg d]
theorem ZeH:∀(n:Nat)(l:List Int)(acc:List S50),l.length≤n→OkB l→acc.length+l.length≤1099511627776→
  Ev (fun k=>impl_Wire_feed.l0 k acc l 0) (acc++(fd l).1,(fd l).2.1,(fd l).2.2)∧(fd l).1.length+(fd l).2.1.length≤l.length∧(∀x∈(fd l).2.1,0≤x∧x<256)∧∀r∈(fd l).1,r.f2.length≤8:=by
 intro n
 induction n with
 |zero=>
  intro l acc hn hl ha
  have:l=[]:=List.length_eq_zero_iff.1 (by omega)
  subst this
  have hg:=ZaE [] (by simp) (by simp)
  have hc:(Zc []).2.2.2.2.2=1:=Zay
  rw[Zdi [] Zay]
  refine⟨?_,Nat.le_refl _,fun x hx=>absurd hx (by simp),fun x hx=>absurd hx (by simp)⟩
  apply ev_succ
  simp only[impl_Wire_feed.l0]
  refine Ev.bind hg ?_
  simp only[if_neg (show¬(Zc []).2.2.2.2.2=0 by rw[hc];decide),if_pos hc,ZJ [] (by simp),Option.bind_some,List.append_nil]
  exact Ev.now _
 |succ n ih=>
  intro l acc hn hl ha
  have hg:=ZaE l hl.1 hl.2
  by_cases c0:Zh (Zc l)=0
  ·obtain⟨f1,f2,f3⟩:=Zag l hl.1 hl.2 c0
   have hd:(l.drop (ZD (Zc l)).toNat).length≤l.length-4:=by rw[List.length_drop];omega
   obtain⟨i1,i2,i3,i4⟩:=ih (l.drop (ZD (Zc l)).toNat) (acc++[qR l]) (by omega) (hl.drop _) (by rw[List.length_append,List.length_singleton];omega)
   rw[ZeD l hl c0]
   rw[List.append_assoc]at i1
   refine⟨?_,by simp only[List.length_cons];omega,i3,fun r hr=> ?_⟩
   ·apply ev_succ
    simp only[impl_Wire_feed.l0]
    refine Ev.bind hg ?_
    have e:(ZD (Zc l))=(Zc l).2.2.2.2.1:=rfl
    rw[e]at i1 f1 f2
    simp only[if_pos (show(Zc l).2.2.2.2.2=0 from c0),if_pos (show acc.length<1954687338268 by omega),if_pos (show(0:Int)≤(Zc l).2.2.2.2.1 by omega),if_pos (show(Zc l).2.2.2.2.1≤(l.length:Int) by omega)]
    exact i1
   ·rcases List.mem_cons.1 hr with rfl|hr
    ·exact f3
    ·exact i4 r hr
  ·by_cases c1:Zh (Zc l)=1
   ·rw[Zdi l c1]
    refine⟨?_,by simp,hl.2,fun x hx=>absurd hx (by simp)⟩
    apply ev_succ
    simp only[impl_Wire_feed.l0]
    refine Ev.bind hg ?_
    simp only[if_neg (show¬(Zc l).2.2.2.2.2=0 from c0),if_pos (show(Zc l).2.2.2.2.2=1 from c1),ZJ l (by have:=hl.1;omega),Option.bind_some,List.append_nil]
    exact Ev.now _
   ·rw[ZeE l c0 c1]
    refine⟨?_,Nat.zero_le _,fun x hx=>absurd hx (by simp),fun x hx=>absurd hx (by simp)⟩
    apply ev_succ
    simp only[impl_Wire_feed.l0]
    refine Ev.bind hg ?_
    simp only[if_neg (show¬(Zc l).2.2.2.2.2=0 from c0),if_neg (show¬(Zc l).2.2.2.2.2=1 from c1),ZJ [] (by simp),Option.bind_some,List.append_nil]
    exact Ev.now _
noncomputable def apF(r:List S50×List Int×Int)(z:List Int):List S50×List Int×Int:=
 if r.2.2=0 then(r.1++(fd (r.2.1++z)).1,(fd (r.2.1++z)).2)else r
theorem Ze4:∀(n:Nat)(l z:List Int),l.length≤n→OkB (l++z)→fd (l++z)=apF (fd l) z:=by
 intro n
 induction n with
 |zero=>
  intro l z hn hl
  have:l=[]:=List.length_eq_zero_iff.1 (by omega)
  subst this
  rw[Zdi [] Zay];rfl
 |succ n ih=>
  intro l z hn hl
  obtain⟨a1,a2,_⟩:=Zev l z
  have hll:OkB l:=⟨by have:=hl.1;rw[List.length_append]at this;omega,fun x hx=>hl.2 x (List.mem_append_left _ hx)⟩
  by_cases c0:Zh (Zc l)=0
  ·have e:=a1 c0
   obtain⟨f1,f2,f3⟩:=Zag l hll.1 hll.2 c0
   have hd:(l.drop (ZD (Zc l)).toNat).length≤l.length-4:=by rw[List.length_drop];omega
   have e2:(l++z).drop (ZD (Zc l)).toNat=l.drop (ZD (Zc l)).toNat++z:=List.drop_append_of_le_length (by omega)
   rw[ZeD (l++z) hl (by rw[e];exact c0),ZeD l hll c0]
   have q:qR (l++z)=qR l:=by unfold qR;rw[e]
   rw[q,e,e2,ih _ z (by omega) (by rw[←e2];exact hl.drop _)]
   unfold apF
   split
   ·rfl
   ·rfl
  ·by_cases c1:Zh (Zc l)=1
   ·rw[Zdi l c1];rfl
   ·have e:=a2 c0 c1
    rw[ZeE l c0 c1,ZeE (l++z) (by rw[e];exact c0) (by rw[e];exact c1),e]
    unfold apF
    rw[if_neg c0]
theorem Zfc(acc:List S50)(b:List Int)(c:Int)(p:List Int)(hp:OkB (b++p)):∃rs b' c',Ev (fun k=>impl_Wire_feed.f k b c p) (rs,b',c')∧apF (acc,b,c) p=(acc++rs,b',c')∧rs.length+b'.length≤b.length+p.length∧∀x∈b',0≤x∧x<256:=by
 have hl:=hp.1
 rw[List.length_append]at hl
 by_cases q:c=0
 ·subst q
  obtain⟨g1,g2,g3,_⟩:=ZeH _ (b++p) [] (Nat.le_refl _) hp (by rw[List.length_append];simp only[List.length_nil];omega)
  rw[List.nil_append]at g1
  rw[List.length_append]at g2
  refine⟨_,_,_,?_,by unfold apF;rw[if_pos rfl],g2,g3⟩
  unfold impl_Wire_feed.f
  simp only[ZJ b (by omega),Option.bind_some,if_true,if_pos (show b.length+p.length<140737488355328 by omega)]
  exact g1
 ·refine⟨[],b,c,?_,by unfold apF;rw[if_neg q,List.append_nil],by simp,fun x hx=>hp.2 x (List.mem_append_left _ hx)⟩
  unfold impl_Wire_feed.f
  simp only[if_neg q]
  exact Ev.now _
theorem ZeF(pcs:List (List Int))(hn:pcs.length≤1048576)(ho:OkB pcs.flatten):∀(n j:Nat)(acc:List S50)(b:List Int)(c:Int),pcs.length-j=n→j≤pcs.length→(acc,b,c)=fd (pcs.take j).flatten→acc.length+b.length≤(pcs.take j).flatten.length→(∀x∈b,0≤x∧x<256)→
  Ev (fun k=>impl_FeedAll.l0 k acc pcs (pcs.length:Int) (j:Int) b c) ((fd pcs.flatten).2.1,(fd pcs.flatten).2.2,(fd pcs.flatten).1):=by
 intro n
 induction n with
 |zero=>
  intro j acc b c h1 h2 he _ _
  have hj:j=pcs.length:=by omega
  subst hj
  rw[List.take_length]at he
  rw[←he]
  apply ev_succ
  simp only[impl_FeedAll.l0,if_neg (show¬(pcs.length:Int)<(pcs.length:Int) by omega)]
  exact Ev.now _
 |succ n ih=>
  intro j acc b c h1 h2 he hs hb
  have hjl:j<pcs.length:=by omega
  have hrd:rd_L2 pcs (j:Int)=pcs[j]:=by
   unfold rd_L2
   rw[Int.toNat_natCast,List.getD_eq_getElem?_getD,List.getElem?_eq_getElem hjl];rfl
  have hw:wrap64 ((j:Int)+1)=((j+1:Nat):Int):=by rw[wrap_id (by omega) (by omega)];rfl
  have ht:(pcs.take (j+1)).flatten=(pcs.take j).flatten++pcs[j]:=by
   rw[List.take_succ_eq_append_getElem hjl,List.flatten_append];simp
  have hle:(pcs.take (j+1)).flatten.length≤pcs.flatten.length:=by
   have:=congrArg List.length (congrArg List.flatten (List.take_append_drop (j+1) pcs))
   rw[List.flatten_append,List.length_append]at this
   omega
  have hmem:∀x∈(pcs.take (j+1)).flatten,0≤x∧x<256:=fun x hx=>by
   refine ho.2 x ?_
   rw[←List.take_append_drop (j+1) pcs,List.flatten_append]
   exact List.mem_append_left _ hx
  have htl:=congrArg List.length ht
  rw[List.length_append]at htl
  have hol:=ho.1
  have hp:OkB (b++pcs[j]):=⟨by rw[List.length_append];omega,fun x hx=>(List.mem_append.1 hx).elim (hb x) (fun h=>hmem x (by rw[ht];exact List.mem_append_right _ h))⟩
  obtain⟨rs,b',c',g1,g2,g3,g4⟩:=Zfc acc b c pcs[j] hp
  have he':(acc++rs,b',c')=fd (pcs.take (j+1)).flatten:=by
   rw[ht,Ze4 _ _ _ (Nat.le_refl _) ⟨by rw[←ht];omega,fun x hx=>hmem x (by rw[ht];exact hx)⟩,←he,g2]
  have:=ih (j+1) (acc++rs) b' c' (by omega) (by omega) he' (by rw[List.length_append];omega) g4
  apply ev_succ
  simp only[impl_FeedAll.l0,if_pos (show(j:Int)<(pcs.length:Int) by omega),if_pos (show(0:Int)≤(j:Int) by omega),hw,hrd]
  refine Ev.bind g1 ?_
  simp only[if_pos (show acc.length+rs.length<1954687338268 by omega)]
  exact this
theorem Zdj(pcs:List (List Int))(hn:pcs.length≤1048576)(ho:OkB pcs.flatten):Ev (fun k=>impl_FeedAll.f k pcs) ((fd pcs.flatten).2.1,(fd pcs.flatten).2.2,(fd pcs.flatten).1):=
 ZeF pcs hn ho _ 0 [] [] 0 rfl (Nat.zero_le _) (by rw[List.take_zero];exact(Zdi [] Zay).symm) (Nat.zero_le _) (fun x hx=>absurd hx (by simp))
theorem Zfd(l:List (List Int))(hn:l.length≤1048576)(ho:l.flatten.length≤1048576):∀(n j:Nat),l.length-j=n→j≤l.length→Ev (fun k=>impl_Joined.l0 k (l.take j).flatten l (l.length:Int) (j:Int)) l.flatten∧Ev (fun k=>spec_Joined.l0 k l (l.take j).flatten (j:Int)) l.flatten:=by
 intro n
 induction n with
 |zero=>
  intro j h1 h2
  have hj:j=l.length:=by omega
  subst hj
  rw[List.take_length]
  constructor
  ·apply ev_succ
   simp only[impl_Joined.l0,if_neg (show¬(l.length:Int)<(l.length:Int) by omega)];exact Ev.now _
  ·apply ev_succ
   simp only[spec_Joined.l0,if_neg (show¬(l.length:Int)<(l.length:Int) by omega)];exact Ev.now _
 |succ n ih=>
  intro j h1 h2
  have hjl:j<l.length:=by omega
  have hrd:rd_L2 l (j:Int)=l[j]:=by
   unfold rd_L2
   rw[Int.toNat_natCast,List.getD_eq_getElem?_getD,List.getElem?_eq_getElem hjl];rfl
  have hw:wrap64 ((j:Int)+1)=((j+1:Nat):Int):=by rw[wrap_id (by omega) (by omega)];rfl
  have ht:(l.take (j+1)).flatten=(l.take j).flatten++l[j]:=by
   rw[List.take_succ_eq_append_getElem hjl,List.flatten_append];simp
  have hle:(l.take (j+1)).flatten.length≤l.flatten.length:=by
   have:=congrArg List.length (congrArg List.flatten (List.take_append_drop (j+1) l))
   rw[List.flatten_append,List.length_append]at this
   omega
  have htl:=congrArg List.length ht
  rw[List.length_append]at htl
  obtain⟨i1,i2⟩:=ih (j+1) (by omega) (by omega)
  rw[ht]at i1 i2
  constructor
  ·apply ev_succ
   simp only[impl_Joined.l0,if_pos (show(j:Int)<(l.length:Int) by omega),if_pos (show(0:Int)≤(j:Int) by omega),hw,hrd,if_pos (show(l.take j).flatten.length+l[j].length<140737488355328 by omega)]
   exact i1
  ·apply ev_succ
   simp only[spec_Joined.l0,if_pos (show(j:Int)<(l.length:Int) by omega),if_pos (show(0:Int)≤(j:Int) by omega),hw,hrd,if_pos (show(l.take j).flatten.length+l[j].length<140737488355328 by omega)]
   exact i2
theorem ZdX(b:List Int)(hb:b.length≤1048576):∀(n:Nat)(y:List Int)(i h:Int),n≤3→BtP (12000-4000*n) y→0≤i→i≤b.length→∃l i' h',Ev (fun k=>spec_l6Bytes.l0 k y (n:Int) b i h) (l,i',h')∧BtP 12000 l∧0≤i'∧i'≤b.length:=by
 intro n
 induction n with
 |zero=>
  intro y i h hn hy h0 h1
  refine⟨y,i,h,?_,hy,h0,h1⟩
  apply ev_succ
  simp only[spec_l6Bytes.l0,if_neg (show¬((0:Nat):Int)>0 by omega)]
  exact Ev.now _
 |succ n ih=>
  intro y i h hn hy h0 h1
  obtain⟨z,i1,e1,f1,p1,a1,b1⟩:=ZdV b i h hb h0 h1
  have hyl:=hy.1
  have hzl:=p1.1
  obtain⟨l,i2,e2,f2,p2,a2,b2⟩:=ih (y++z) i1 e1 (by omega) ⟨by rw[List.length_append];omega,fun x hx=>(List.mem_append.1 hx).elim (hy.2 x) (p1.2 x)⟩ a1 b1
  refine⟨l,i2,e2,?_,p2,a2,b2⟩
  apply ev_succ
  simp only[spec_l6Bytes.l0,if_pos (show((n+1:Nat):Int)>0 by omega),show wrap64 (((n+1:Nat):Int)-1)=(n:Int)from by rw[wrap_id (by omega) (by omega)];omega]
  refine Ev.bind f1 ?_
  simp only[if_pos (show y.length+z.length<140737488355328 by omega)]
  exact f2
theorem ZdY(b:List Int)(i h:Int)(hb:b.length≤1048576)(h0:0≤i)(h1:i≤b.length):∃l i' h',Ev (fun k=>spec_l6Bytes.f k b i h) (l,i',h')∧BtP 12000 l∧0≤i'∧i'≤b.length:=by
 obtain⟨v,i1,e1,f1,p1,a1,b1⟩:=Zp 3 b i h hb h0 h1
 have f1':spec_l1Below.f b i h 3=some (v,i1,e1):=f1
 have:=p1.1
 have:=p1.2 (by omega)
 obtain⟨l,i2,e2,f2,p2,a2,b2⟩:=ZdX b hb (v.toNat+1) [] i1 e1 (by omega) ⟨Nat.zero_le _,fun x hx=>absurd hx (by simp)⟩ a1 b1
 refine⟨l,i2,e2,?_,p2,a2,b2⟩
 unfold spec_l6Bytes.f
 simp only[f1',Option.bind_some,show wrap64 (1+v)=((v.toNat+1:Nat):Int)from by rw[wrap_id (by omega) (by omega)];omega]
 exact f2
theorem ZeG(b:List Int)(hb:b.length≤1048576):∀(n:Nat)(y:List Int)(out:List (List Int))(i h:Int),out.length+n=13→0<n→y.length≤1048576→0≤i→i≤b.length→∃l i' h',Ev (fun k=>spec_l6Cut.l0 k y out b i h) (l,i',h')∧l.flatten=out.flatten++y∧l.length≤13:=by
 intro n
 induction n with
 |zero=>intro y out i h _ h0;omega
 |succ n ih=>
  intro y out i h hn _ hy h0 h1
  have hend:(out++[y]).flatten=out.flatten++y∧(out++[y]).length≤13:=by
   rw[List.flatten_append,List.length_append];simp;omega
  have hj:Ev (fun k=>spec_l6Cut.j1 k y out false b i h) (out++[y],i,h):=by
   apply ev_succ
   simp only[spec_l6Cut.j1,Bool.false_eq_true,if_false,Option.bind_some,List.length_nil,List.nil_append,if_pos (show 0+y.length<140737488355328 by omega),if_pos (show out.length<5864062014805 by omega)]
   exact Ev.now _
  by_cases q:0<y.length
  ·by_cases q1:out.length<12
   ·obtain⟨v,i1,e1,f1,p1,a1,b1⟩:=ZbN [1,3,20,200] (by decide) b i h hb h0 h1
    have f1':spec_l1Int.f b i h [1,3,20,200]=some (v,i1,e1):=f1
    have hv:0<v∧v≤200:=by simp at p1;omega
    obtain⟨u,i2,e2,f2,p2,a2,b2⟩:=Zp v b i1 e1 hb a1 b1
    have f2':spec_l1Below.f b i1 e1 v=some (u,i2,e2):=f2
    have hu0:=p2.1
    have hu:=p2.2 hv.1
    have hw:wrap64 (1+u)=1+u:=wrap_id (by omega) (by omega)
    obtain⟨c,hc⟩:∃c:Nat,1+u=(c:Int):=⟨(1+u).toNat,by omega⟩
    rw[hc]at hw
    have step:∀c:Nat,c≤y.length→∃l i' h',Ev (fun k=>spec_l6Cut.l0 k (y.drop c) (out++[y.take c]) b i2 e2) (l,i',h')∧l.flatten=out.flatten++y∧l.length≤13:=by
     intro c hc
     obtain⟨l,i',h',k1,k2,k3⟩:=ih (y.drop c) (out++[y.take c]) i2 e2 (by rw[List.length_append,List.length_singleton];omega) (by omega) (by rw[List.length_drop];omega) a2 b2
     refine⟨l,i',h',k1,?_,k3⟩
     rw[k2,List.flatten_append];simp
    have hm:∀c:Nat,(y.take c).length≤y.length:=fun c=>by rw[List.length_take];omega
    by_cases q2:(c:Int)>(y.length:Int)
    ·obtain⟨l,i',h',k1,k2,k3⟩:=step y.length (Nat.le_refl _)
     have:=hm y.length
     refine⟨l,i',h',?_,k2,k3⟩
     apply ev_succ
     simp only[spec_l6Cut.l0,if_pos (show(y.length:Int)>0 by omega),decide_eq_true (show(out.length:Int)<12 by omega)]
     apply ev_succ
     simp only[spec_l6Cut.j1,if_true,f1',f2',Option.bind_some,hc,hw,if_pos q2,List.length_nil,List.nil_append,Int.toNat_natCast,if_pos (show(0:Int)≤(y.length:Int) by omega),if_pos (Int.le_refl (y.length:Int)),if_pos (show 0+(y.take y.length).length<140737488355328 by omega),if_pos (show out.length<5864062014805 by omega)]
     exact k1
    ·obtain⟨l,i',h',k1,k2,k3⟩:=step c (by omega)
     have:=hm c
     refine⟨l,i',h',?_,k2,k3⟩
     apply ev_succ
     simp only[spec_l6Cut.l0,if_pos (show(y.length:Int)>0 by omega),decide_eq_true (show(out.length:Int)<12 by omega)]
     apply ev_succ
     simp only[spec_l6Cut.j1,if_true,f1',f2',Option.bind_some,hc,hw,if_neg q2,List.length_nil,List.nil_append,Int.toNat_natCast,if_pos (show(0:Int)≤(c:Int) by omega),if_pos (show(c:Int)≤(y.length:Int) by omega),if_pos (show 0+(y.take c).length<140737488355328 by omega),if_pos (show out.length<5864062014805 by omega)]
     exact k1
   ·refine⟨out++[y],i,h,?_,hend⟩
    apply ev_succ
    simp only[spec_l6Cut.l0,if_pos (show(y.length:Int)>0 by omega),decide_eq_false (show¬(out.length:Int)<12 by omega)]
    exact hj
  ·refine⟨out++[y],i,h,?_,hend⟩
   apply ev_succ
   simp only[spec_l6Cut.l0,if_neg (show¬(y.length:Int)>0 by omega)]
   exact hj
theorem FnWires:laws_FnWires.Pure:=by
 intro l hl0 _
 apply Ev.rounds
 unfold laws_FnWires.f laws_big.f
 simp only[Option.bind_some]
 refine ev_iteB (fun _=>Ev.now _) (fun q=> ?_)
 have hl:l.length≤1048576:=by
  have:=of_decide_eq_false q
  omega
 have hr:=Zek hl0.2
 obtain⟨h,hn⟩:=Zez l hl
 obtain⟨y,i1,e1,f1,p1,a1,b1⟩:=ZdY l 0 h hl (by omega) (by omega)
 have hyl:=p1.1
 obtain⟨ps,i2,e2,f2,p2,s2⟩:=ZeG l hl 13 y [] i1 e1 rfl (by omega) (by omega) a1 b1
 rw[List.flatten_nil,List.nil_append]at p2
 have hD:Ev (fun k=>spec_DrawFeedAll.f k l) ps:=by
  unfold spec_DrawFeedAll.f
  exact Ev.bind hn (Ev.bind f1 (Ev.bind (show Ev (fun k=>spec_l6Cut.f k l i1 e1 y) _ from f2) (Ev.now _)))
 have hy:OkB y:=⟨by omega,p1.2⟩
 have hA:=Zdj ps (by omega) (by rw[p2];exact hy)
 obtain⟨jI,jS⟩:=Zfd ps (by omega) (by rw[p2];omega) _ 0 rfl (Nat.zero_le _)
 rw[p2]at hA jI jS
 obtain⟨g1,g2,g3,g4⟩:=ZeH _ y [] (Nat.le_refl _) hy (by simp only[List.length_nil];omega)
 have hF:Ev (fun k=>impl_Feed.f k [] 0 y) ((fd y).2.1,(fd y).2.2,(fd y).1):=by
  unfold impl_Feed.f impl_Wire_feed.f
  simp only[ZJ [] (by simp),Option.bind_some,if_true,List.length_nil,List.nil_append,if_pos (show 0+y.length<140737488355328 by omega)]
  rw[List.nil_append]at g1
  exact Ev.bind g1 (Ev.now _)
 obtain⟨pcs,c1,c2,c3⟩:=Ze2 l y hl hr (by omega)
 have hC:=Zdj pcs (by omega) (by rw[c2];exact hy)
 rw[c2]at hC
 have sR:=ZbF (fd y).1 (by omega) (fun r hx=>by have:=g4 r hx;omega)
 obtain⟨v,i3,e3,f3,p3,a3,b3⟩:=Zp ((y.length:Int)+1) l i1 e1 hl a1 b1
 have f3':spec_l1Below.f l i1 e1 ((y.length:Int)+1)=some (v,i3,e3):=f3
 have hv0:=p3.1
 have hv:=p3.2 (by omega)
 obtain⟨w,i4,e4,f4,_,a4,b4⟩:=Zbp 8 l i3 e3 hl a3 b3
 have f4':spec_l1Once.f l i3 e3 8=some (w,i4,e4):=f4
 obtain⟨c,i5,e5,f5,_,a5,b5⟩:=ZbN [400,1,-1] (by decide) l i4 e4 hl a4 b4
 have f5':spec_l1Int.f l i4 e4 [400,1,(-1)]=some (c,i5,e5):=f5
 have ht:(y.take v.toNat).length+(y.drop v.toNat).length=y.length:=by rw[←List.length_append,List.take_append_drop]
 have hG:∃bad,Ev (fun k=>spec_DrawFeed.f k l) (y.take v.toNat,bad,y.drop v.toNat):=by
  cases w with
  |true=>
   refine⟨c,?_⟩
   unfold spec_DrawFeed.f
   refine Ev.bind hn (Ev.bind f1 ?_)
   simp only[show wrap64 ((y.length:Int)+1)=(y.length:Int)+1 from wrap_id (by omega) (by omega),f3',f4',f5',Option.bind_some,List.length_nil,List.nil_append,if_true,if_pos hv0,if_pos (show v≤(y.length:Int) by omega),if_pos (show 0+(y.take v.toNat).length<140737488355328 by omega)]
   exact Ev.now _
  |false=>
   refine⟨0,?_⟩
   unfold spec_DrawFeed.f
   refine Ev.bind hn (Ev.bind f1 ?_)
   simp only[show wrap64 ((y.length:Int)+1)=(y.length:Int)+1 from wrap_id (by omega) (by omega),f3',f4',Option.bind_some,List.length_nil,List.nil_append,Bool.false_eq_true,if_false,if_pos hv0,if_pos (show v≤(y.length:Int) by omega),if_pos (show 0+(y.take v.toNat).length<140737488355328 by omega)]
   exact Ev.now _
 obtain⟨bad,hG⟩:=hG
 obtain⟨rs,b',c',k1,k2,k3,k4,k5⟩:=Zey (y.take v.toNat) bad (y.drop v.toNat) (by omega) (fun x hx=>p1.2 x (List.mem_of_mem_take hx)) (fun x hx=>p1.2 x (List.mem_of_mem_drop hx))
 have sB:=ZbF rs (by omega) (fun r hx=>by have:=k5 r hx;omega)
 refine Ev.bind hD (Ev.bind hA (Ev.bind (show Ev (fun k=>impl_Joined.f k ps) y from jI) (Ev.bind hF (Ev.bind c1 (Ev.bind hC (Ev.bind hG (Ev.bind k1 (Ev.bind k2 ?_))))))))
 simp only[if_true]
 refine Ev.bind sR ?_
 simp only[if_true]
 refine Ev.bind sR ?_
 simp only[if_true]
 refine Ev.bind sB ?_
 simp only[if_true]
 refine Ev.bind (show Ev (fun k=>spec_Joined.f k ps) y from jS) ?_
 simp only[beq_self_eq_true]
 exact Ev.now _
end Go.Proofs.YtmojemogpelpnaaGreatDoor.Pure
