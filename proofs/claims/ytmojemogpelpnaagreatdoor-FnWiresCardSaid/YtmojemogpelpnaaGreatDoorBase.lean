/- Plain lemmas on bytes, lists and rounds, of no function: what the pure statements of this seat lean on. -/
import Derived.Test.YtmojemogpelpnaaGreatDoorWWords
import Derived.Lib.Strings
namespace Go.Proofs.YtmojemogpelpnaaGreatDoor.Base
open Go.RowKit Go.Proofs.YtmojemogpelpnaaGreatDoorW.PrintWords
set_option linter.unusedVariables false
theorem bt_drop{s:ByteArray}{i:Nat}{c:Int}{r:List Int}(h:(bytesOf s).drop i=c::r):bt s (i:Int)=c∧i<s.size∧(bytesOf s).drop (i+1)=r:=by
 have hl:i<(bytesOf s).length:=by
  rcases Nat.lt_or_ge i (bytesOf s).length with h'|h'
  ·exact h'
  ·rw[List.drop_eq_nil_of_le h']at h;cases h
 rw[List.drop_eq_getElem_cons hl]at h
 injection h with h1 h2
 refine⟨?_,by rw[←bytesOf_length];exact hl,h2⟩
 rw[←rd_bytesOf,rd,Int.toNat_natCast,List.getD_eq_getElem?_getD,List.getElem?_eq_getElem hl,←h1];rfl
theorem size_drop{s:ByteArray}{i:Nat}(h:(bytesOf s).drop i=[]):s.size≤i:=by
 rw[←bytesOf_length];exact List.drop_eq_nil_iff.mp h
theorem bytesOf_range(s:ByteArray):∀x∈bytesOf s,0≤x∧x<256:=by
 intro x hx
 unfold bytesOf at hx
 obtain⟨b,_,rfl⟩:=List.mem_map.mp hx
 have:=b.toNat_lt
 omega
theorem bytesOf_append(a b:ByteArray):bytesOf (a++b)=bytesOf a++bytesOf b:=by
 simp[bytesOf,ByteArray.data_append]
theorem bytesOf_extract(s:ByteArray)(i j:Nat):bytesOf (s.extract i j)=((bytesOf s).take j).drop i:=by
 simp[bytesOf,ByteArray.data_extract,List.map_take,List.map_drop,List.drop_take]
theorem bytesOf_strOfNums(l:List Int)(h:∀x∈l,0≤x∧x<256):bytesOf (strOfNums l)=l:=by
 unfold bytesOf strOfNums
 simp only[List.map_map]
 induction l with
 |nil=>rfl
 |cons a l ih=>
  have ha:=h a (by simp)
  rw[List.map_cons,ih (fun x hx=>h x (by simp[hx]))]
  congr 1
  simp only[Function.comp,UInt8.toNat_ofNat']
  omega
theorem bytesOf_inj{a b:ByteArray}(h:bytesOf a=bytesOf b):a=b:=by
 have h1:a.data.toList=b.data.toList:=by
  unfold bytesOf at h
  exact List.map_inj_right (fun x y hxy=>UInt8.toNat_inj.mp (by omega)) |>.mp h
 cases a;cases b
 simp only[ByteArray.mk.injEq]
 exact Array.toList_inj.mp h1
theorem strOfNums_bytesOf(s:ByteArray):strOfNums (bytesOf s)=s:=
 bytesOf_inj (bytesOf_strOfNums _ (bytesOf_range s))
theorem size_len(s:ByteArray):s.size=(bytesOf s).length:=(bytesOf_length s).symm
theorem wrap_id{x:Int}(h0: -9223372036854775808≤x)(h1:x≤9223372036854775807):wrap64 x=x:=by
 unfold wrap64;omega
theorem toList_iff(a b:ByteArray):a.toList=b.toList↔a=b:=by
 constructor
 ·intro h
  rw[Lib.toList_data,Lib.toList_data]at h
  cases a;cases b
  simp only[ByteArray.mk.injEq]
  exact Array.toList_inj.mp h
 ·intro h;rw[h]
theorem ev_succ{α:Type}{g:Nat→Option α}{r:α}(k:Ev (fun k=>g (k+1)) r):Ev g r:=Ev.step (fun _=>rfl) k
theorem ev_ite{α:Type}{c:Prop}[Decidable c]{a b:Nat→Option α}{r:α}(h:c→Ev a r)(k:¬c→Ev b r):Ev (fun n=>if c then a n else b n) r:=by
 by_cases hc:c
 ·simpa only[if_pos hc]using h hc
 ·simpa only[if_neg hc]using k hc
theorem ev_iteB{α:Type}{c:Bool}{a b:Nat→Option α}{r:α}(h:c=true→Ev a r)(k:c=false→Ev b r):Ev (fun n=>if c=true then a n else b n) r:=by
 cases c
 ·simpa using k rfl
 ·simpa using h rfl
theorem wrap_byte{s:ByteArray}{c:Int}{r:List Int}{i:Nat}(h:(bytesOf s).drop i=c::r):wrap64 c=c:=by
 have:=bytesOf_range s c (List.mem_of_mem_drop (show c∈(bytesOf s).drop i by rw[h];simp))
 exact wrap_id (by omega) (by omega)
theorem wrap_nat{s:ByteArray}(hs:s.size≤140737488351232){i:Nat}(hi:i<s.size):wrap64 ((i:Int)+1)=((i+1:Nat):Int):=by
 rw[wrap_id (by omega) (by omega)];rfl
theorem str_loop{α:Type}(s:ByteArray)(g:Nat→Nat→Option α)(m:List Int→α)
  (hn:∀i,s.size≤i→Ev (g i) (m []))
  (hc:∀i c r,(bytesOf s).drop i=c::r→bt s (i:Int)=c→i<s.size→wrap64 c=c→wrap64 ((i:Int)+1)=((i+1:Nat):Int)→Ev (g (i+1)) (m r)→Ev (g i) (m (c::r)))(hs:s.size≤140737488351232):
  ∀i,Ev (g i) (m ((bytesOf s).drop i)):=by
 have key:∀rest i,(bytesOf s).drop i=rest→Ev (g i) (m rest):=by
  intro rest
  induction rest with
  |nil=>intro i h;exact hn i (size_drop h)
  |cons c r ih=>
   intro i h
   obtain⟨hb,hi,hd⟩:=bt_drop h
   exact hc i c r h hb hi (wrap_byte h) (wrap_nat hs hi) (ih (i+1) hd)
 exact fun i=>key _ i rfl
theorem str_loop_st{α σ:Type}(s:ByteArray)(g:Nat→σ→Nat→Option α)(m:Nat→σ→List Int→α)(I:Nat→σ→List Int→Prop)
  (hn:∀i x,I i x []→s.size≤i→Ev (g i x) (m i x []))
  (hc:∀i x c r,I i x (c::r)→(bytesOf s).drop i=c::r→bt s (i:Int)=c→i<s.size→wrap64 c=c→wrap64 ((i:Int)+1)=((i+1:Nat):Int)→(∀y,I (i+1) y r→Ev (g (i+1) y) (m (i+1) y r))→Ev (g i x) (m i x (c::r)))(hs:s.size≤140737488351232):
  ∀i x,I i x ((bytesOf s).drop i)→Ev (g i x) (m i x ((bytesOf s).drop i)):=by
 have key:∀rest i x,(bytesOf s).drop i=rest→I i x rest→Ev (g i x) (m i x rest):=by
  intro rest
  induction rest with
  |nil=>intro i x h hi;exact hn i x hi (size_drop h)
  |cons c r ih=>
   intro i x h hI
   obtain⟨hb,hi,hd⟩:=bt_drop h
   exact hc i x c r hI h hb hi (wrap_byte h) (wrap_nat hs hi) (fun y hy=>ih (i+1) y hd hy)
 exact fun i x=>key _ i x rfl
theorem bytesOf_mk(l:List UInt8):bytesOf ⟨l.toArray⟩=l.map fun b=>(b.toNat:Int):=rfl
theorem cat_ev{a b:ByteArray}{l:List Int}(h:bytesOf b=l)(r:List Int):bytesOf (a++b)++r=bytesOf a++(l++r):=by rw[bytesOf_append,h,List.append_assoc]
theorem extract_one{s:ByteArray}{i:Nat}{c:Int}{r:List Int}(h:(bytesOf s).drop i=c::r):bytesOf (s.extract i (i+1))=[c]:=by
 rw[bytesOf_extract,List.drop_take,h];simp
theorem exact_bool{a b:Nat→Option Bool}{x y:Bool}(ha:Ev a x)(hb:Ev b y)(h:x=y):Ev (fun k=>(a k).bind fun t=>(b k).bind fun u=>if(u !=t)=true then some false else some true) true:=by
 subst h
 refine Ev.bind ha (Ev.bind hb ?_)
 simpa using Ev.now _
theorem exact_str{a b:Nat→Option ByteArray}{x y:ByteArray}(ha:Ev a x)(hb:Ev b y)(h:x=y):Ev (fun k=>(a k).bind fun t=>(b k).bind fun u=>if u.toList=t.toList then some true else some false) true:=by
 subst h
 refine Ev.bind ha (Ev.bind hb ?_)
 simpa using Ev.now _
noncomputable def decb(p:Prop):Bool:= @decide p (Classical.propDecidable p)
theorem decb_iff(p:Prop):decb p=true↔p:=by unfold decb;simp
theorem decb_true{p:Prop}(h:p):decb p=true:=(decb_iff p).mpr h
theorem decb_false{p:Prop}(h:¬p):decb p=false:=by
 cases hc:decb p
 ·rfl
 ·exact absurd ((decb_iff p).mp hc) h
noncomputable def eqb{α:Type}(a b:α):Bool:= @decide (a=b) (Classical.propDecidable _)
theorem eqb_iff{α:Type}(a b:α):eqb a b=true↔a=b:=by unfold eqb;simp
theorem eqb_self{α:Type}(a:α):eqb a a=true:=(eqb_iff a a).mpr rfl
theorem eqb_ne{α:Type}{a b:α}(h:a≠b):eqb a b=false:=by
 cases hc:eqb a b
 ·rfl
 ·exact absurd ((eqb_iff a b).mp hc) h
theorem eqb_congr{α β:Type}{a b:α}{c d:β}(h:a=b↔c=d):eqb a b=eqb c d:=by
 cases hc:eqb c d
 ·exact eqb_ne (fun he=>by have:=(eqb_iff c d).mpr (h.mp he);rw[hc]at this;cases this)
 ·exact(eqb_iff a b).mpr (h.mpr ((eqb_iff c d).mp hc))
theorem eqb_congr2{α:Type}{a b:α}{p:Prop}(h:a=b↔p):eqb a b=decb p:=by
 rw[Bool.eq_iff_iff,eqb_iff,decb_iff];exact h
theorem l_drop{β:Type}{l:List β}{i:Nat}{c:β}{r:List β}(h:l.drop i=c::r):(∀d,l.getD (i:Int).toNat d=c)∧i<l.length∧l.drop (i+1)=r∧l[i]? =some c:=by
 have hl:i<l.length:=by
  rcases Nat.lt_or_ge i l.length with h'|h'
  ·exact h'
  ·rw[List.drop_eq_nil_of_le h']at h;cases h
 rw[List.drop_eq_getElem_cons hl]at h
 injection h with h1 h2
 refine⟨fun d=> ?_,hl,h2,by rw[List.getElem?_eq_getElem hl,h1]⟩
 rw[Int.toNat_natCast,List.getD_eq_getElem?_getD,List.getElem?_eq_getElem hl,h1];rfl
theorem list_loop_st{β α σ:Type}(l:List β)(hl:l.length≤9223372036854775806)(g:Nat→σ→Nat→Option α)(m:Nat→σ→List β→α)(I:Nat→σ→List β→Prop)
  (hn:∀i x,I i x []→l.length≤i→Ev (g i x) (m i x []))
  (hc:∀i x c r,I i x (c::r)→l.drop i=c::r→(∀d,l.getD (i:Int).toNat d=c)→i<l.length→wrap64 ((i:Int)+1)=((i+1:Nat):Int)→(∀y,I (i+1) y r→Ev (g (i+1) y) (m (i+1) y r))→Ev (g i x) (m i x (c::r))):
  ∀i x,I i x (l.drop i)→Ev (g i x) (m i x (l.drop i)):=by
 have key:∀rest i x,l.drop i=rest→I i x rest→Ev (g i x) (m i x rest):=by
  intro rest
  induction rest with
  |nil=>intro i x h hi;exact hn i x hi (List.drop_eq_nil_iff.mp h)
  |cons c r ih=>
   intro i x h hI
   obtain⟨hb,hi,hd,_⟩:=l_drop h
   exact hc i x c r hI h hb hi (by rw[wrap_id (by omega) (by omega)];rfl) (fun y hy=>ih (i+1) y hd hy)
 exact fun i x=>key _ i x rfl
theorem eq_loop{β γ:Type}(a:List β)(b:List γ)(R:β→γ→Prop)(hab:a.length=b.length)(ha:a.length≤9223372036854775806)(g:Nat→Nat→Option Bool)(res:Bool)
  (hres:res=true↔∀(i:Nat)(x:β)(y:γ),a[i]? =some x→b[i]? =some y→R x y)
  (hn:∀i,a.length≤i→Ev (g i) true)
  (hs:∀i x y v,i<a.length→(∀d,a.getD (i:Int).toNat d=x)→(∀d,b.getD (i:Int).toNat d=y)→wrap64 ((i:Int)+1)=((i+1:Nat):Int)→Ev (g (i+1)) v→(R x y→Ev (g i) v)∧(¬R x y→Ev (g i) false)):Ev (g 0) res:=by
 have key:∀n i,a.length-i≤n→Ev (g i) (decb (∀(j:Nat)(x:β)(y:γ),i≤j→a[j]? =some x→b[j]? =some y→R x y)):=by
  intro n
  induction n with
  |zero=>
   intro i hi
   have:(∀(j:Nat)(x:β)(y:γ),i≤j→a[j]? =some x→b[j]? =some y→R x y):=fun j x y hj hx _=>by
    have:=(List.getElem?_eq_some_iff.mp hx).1;omega
   rw[decb_true this];exact hn i (by omega)
  |succ n ih=>
   intro i hi
   rcases Nat.lt_or_ge i a.length with hlt|hge
   ·have hb:i<b.length:=by omega
    have hx:a[i]? =some a[i]:=List.getElem?_eq_getElem hlt
    have hy:b[i]? =some b[i]:=List.getElem?_eq_getElem hb
    have H:=hs i a[i] b[i] _ hlt (fun d=>by rw[Int.toNat_natCast,List.getD_eq_getElem?_getD,hx];rfl) (fun d=>by rw[Int.toNat_natCast,List.getD_eq_getElem?_getD,hy];rfl) (by rw[wrap_id (by omega) (by omega)];rfl) (ih (i+1) (by omega))
    by_cases hR:R a[i] b[i]
    ·have:=H.1 hR
     have e:(∀(j:Nat)(x:β)(y:γ),i+1≤j→a[j]? =some x→b[j]? =some y→R x y)↔(∀(j:Nat)(x:β)(y:γ),i≤j→a[j]? =some x→b[j]? =some y→R x y):=by
      constructor
      ·intro h j x y hj h1 h2
       rcases Nat.eq_or_lt_of_le hj with rfl|hj'
       ·rw[hx]at h1;rw[hy]at h2;cases h1;cases h2;exact hR
       ·exact h j x y hj' h1 h2
      ·intro h j x y hj;exact h j x y (by omega)
     simpa only[e]using this
    ·have:=H.2 hR
     have e:¬(∀(j:Nat)(x:β)(y:γ),i≤j→a[j]? =some x→b[j]? =some y→R x y):=fun h=>hR (h i _ _ (Nat.le_refl _) hx hy)
     rw[decb_false e];exact this
   ·have:(∀(j:Nat)(x:β)(y:γ),i≤j→a[j]? =some x→b[j]? =some y→R x y):=fun j x y hj hx _=>by
     have:=(List.getElem?_eq_some_iff.mp hx).1;omega
    rw[decb_true this];exact hn i hge
 have:=key _ 0 (Nat.le_refl _)
 have e:(decb (∀(j:Nat)(x:β)(y:γ),0≤j→a[j]? =some x→b[j]? =some y→R x y))=res:=by
  rw[Bool.eq_iff_iff,hres,decb_iff]
  constructor
  ·intro h i x y;exact h i x y (Nat.zero_le _)
  ·intro h i x y _;exact h i x y
 rw[←e];exact this
theorem list_eq_iff{β:Type}(a b:List β)(hab:a.length=b.length):a=b↔∀(i:Nat)(x y:β),a[i]? =some x→b[i]? =some y→x=y:=by
 constructor
 ·rintro rfl i x y h1 h2;rw[h1]at h2;cases h2;rfl
 ·intro h
  refine List.ext_getElem hab (fun i h1 h2=>h i _ _ (List.getElem?_eq_getElem h1) (List.getElem?_eq_getElem h2))
theorem fill_loop{β γ:Type}(l:List β)(f:β→γ)(z:γ)(hl:l.length≤9223372036854775806)(g:Nat→List γ→Nat→Option (List γ))
  (hn:∀i x,l.length≤i→Ev (g i x) x)
  (hs:∀i x c r,i<l.length→x.length=l.length→(∀d,l.getD (i:Int).toNat d=c)→wrap64 ((i:Int)+1)=((i+1:Nat):Int)→Ev (g (i+1) (x.set (i:Int).toNat (f c))) r→Ev (g i x) r):
  Ev (g 0 (List.replicate l.length z)) (l.map f):=by
 have key:∀n i,l.length-i≤n→i≤l.length→Ev (g i ((l.map f).take i++List.replicate (l.length-i) z)) (l.map f):=by
  intro n
  induction n with
  |zero=>
   intro i hi hle
   have h0:i=l.length:=by omega
   subst h0
   have:=hn l.length ((l.map f).take l.length++List.replicate (l.length-l.length) z) (Nat.le_refl _)
   have e:(l.map f).take l.length++List.replicate (l.length-l.length) z=l.map f:=by simp[List.take_of_length_le]
   rwa[e]at this⊢
  |succ n ih=>
   intro i hi hle
   rcases Nat.lt_or_ge i l.length with hlt|hge
   ·refine hs i _ l[i] _ hlt (by simp;omega) (fun d=>by rw[Int.toNat_natCast,List.getD_eq_getElem?_getD,List.getElem?_eq_getElem hlt];rfl) (by rw[wrap_id (by omega) (by omega)];rfl) ?_
    have e:((l.map f).take i++List.replicate (l.length-i) z).set (i:Int).toNat (f l[i])=(l.map f).take (i+1)++List.replicate (l.length-(i+1)) z:=by
     rw[Int.toNat_natCast,List.set_append_right _ _ (by simp;omega)]
     have h1:i-((l.map f).take i).length=0:=by simp;omega
     have h2:l.length-i=(l.length-(i+1))+1:=by omega
     rw[h1,h2,List.replicate_succ,List.set_cons_zero,List.take_succ_eq_append_getElem (by simpa using hlt)]
     simp
    rw[e];exact ih (i+1) (by omega) hlt
   ·have h0:i=l.length:=by omega
    subst h0
    have:=hn l.length ((l.map f).take l.length++List.replicate (l.length-l.length) z) (Nat.le_refl _)
    have e:(l.map f).take l.length++List.replicate (l.length-l.length) z=l.map f:=by simp[List.take_of_length_le]
    rwa[e]at this⊢
 have:=key _ 0 (Nat.le_refl _) (Nat.zero_le _)
 simpa using this
end Go.Proofs.YtmojemogpelpnaaGreatDoor.Base
