/- An append whose result's length alone is asked: the row that is appended to stays as it was. -/
import Derived.Test.YtmojemogpelpnaaGreatDoorWWords
namespace Go.Proofs.YtmojemogpelpnaaGreatDoorW.PrintWords
open Go.RowKit
section
variable{P:Program}{w:World}
theorem run_append_keepM(base:Nat)(t ty e:TypeId)(i:TypeInfo)(z:Value)(size bytes:Nat)(ht:P.underlying t=some (.slice e))(hi:P.info? e=some i)(hz:i.zero=some z)
  (hsize:i.size=size)(hby:i.bytes=bytes)(hzs:z.cells.size=size)(hsz:0<size)
  (v:Value)(n:Nat)(xs:List Value)(hown:w.ownsRowM base e size v n xs)
  (a:Addr)(m c:Nat)(news:List Value)(hl:news.length=m*size)(hnews:∀j u,news[j]? =some u→w.cell? (a.add j)=some u)(h1:∀u∈news,u.oneCell'=true)
  (h63:n+m≤maxLen)(hbytes:(n+m)*bytes≤140737488355328)(hbase:base≤w.heap.size):
  ∃v' w',(Builtin.append_ #[t,t] ty #[v,.slice (some a) m c]).run P w= .ok v' w'∧w'.ownsRowM base e size v n xs∧(∃A c,v'= .slice A (n+m) c)∧w.grownBy w' v.ownBlock:=by
 rcases hown.2 with⟨rfl,rfl⟩|⟨g,cap,cur,rfl,hbg,hh,hnc,hcm,hcs,htake⟩
 ·obtain⟨v',w',h2,h3,h4,_,_⟩:=run_append_own_atM (P:=P) w base t ty e i z size bytes ht hi hz hsize hby hzs hsz (.slice none 0 0) 0 xs hown a m c news hl hnews h1 h63 hbytes hbase
  exact⟨v',w',h2,⟨hown.1,.inl ⟨rfl,rfl⟩⟩,own_slice h3,h4⟩
 ·by_cases hroom:n+m≤cap
  ·have hfit:0+n*size+news.length≤cur.size:=by rw[hl,hcs,Nat.zero_add,←Nat.add_mul];exact Nat.mul_le_mul_right _ hroom
   have hr:=run_append_room_cells (P:=P) (w:=w) t ty e i ht hi g 0 n cap a m c news (by rw[hl,hsize]) hnews h1 hroom
    (fun j hj=>by rw[hsize,hh.cell];simp;omega) (fun j hj=>hh.frozen (by rw[hsize];omega))
   rw[hsize]at hr
   obtain⟨_,hg⟩:=ownsRowM_room w hown.1 hl hbg hh hroom hcm hcs htake
   obtain⟨cur',h3,h4,h5⟩:=HasRow.sets news (0+n*size) w cur hh hfit
   refine⟨_,_,hr,⟨hown.1,.inr ⟨g,cap,cur',rfl,hbg,h3,hnc,hcm,by rw[h4,hcs],?_⟩⟩,⟨_,_,rfl⟩,hg⟩
   rw[h5,Nat.zero_add,htake,List.append_assoc]
   exact List.take_left' hown.1
  ·have holds:∀j u,xs[j]? =some u→w.cell? ((⟨g,0,none⟩:Addr).add j)=some u:=hown.cells (g:=g) rfl
   obtain⟨v',w',hr,ho,hg⟩:=run_append_arg_grows (P:=P) w t ty e i z size bytes ht hi hz hsize hby hzs hsz ⟨g,0,none⟩ n cap xs hown.1 holds a m c news hl hnews (by omega) h63 hbytes
   obtain⟨g',cap',he,_,_⟩:=ho.form (by omega)
   exact⟨v',w',hr,hown.kept hg (.inr (by simp[Value.ownBlock])),⟨_,_,he⟩,⟨hg.os,hg.tape,hg.output,hg.size,fun k hk _=>hg.block k hk (by simp)⟩⟩
end
namespace Kd
section
variable{P:Program}{ops:Array Oper}{rest:List Oper}{o:Oper}{a:Act}{Q:Exit→Act→World→Prop}
theorem R_append_len(kk:IntKind){w0 W:World}(base:Nat)(hgd:o.guard=none)(s x:Operand)(t e:TypeId)(z:Value)(bytes:Nat)
  (ho:o.op= .call {callee:= .builtin .append,args:= #[s,x],argTypes:= #[t,t]})
  (ht:P.underlying t=some (.slice e))(hinfo:(P.info? e).map (fun i=>(i.zero,i.size,i.bytes))=some (some z,1,bytes))(hz:z.cells.size=1)(hs0:0<1)(hb0:0<bytes)
  (v:Value)(xs:List Int)(p:Int)(cs:List Value)(ok okp:Nat→Prop)(hs:a.eval s=v)(hx:a.eval x= .slice (some ⟨W.heap.size,0,none⟩) 1 1)(hp:cs=[.int kk p])(_:∀k,okp k→ok k∧some k≠v.ownBlock)(_:∀k,W.heap.size≤k→ok k)
  (HO:(Kd.int kk).R e W base ok v xs)(HB:Below base w0 W)(hbase:base≤W.heap.size)(hl:(xs.length+1)*bytes≤140737488355328)
  (h:∀v1 w1,(Kd.int kk).R e w1 base ok v xs→(∃A c,v1= .slice A (xs++[p]).length c)→Below base w0 w1→W.grownBy w1 v.ownBlock→wpList P ops Q rest (a.put o.dst v1) w1):
  wpList P ops Q (o::rest) a (W.alloc (.cells cs.toArray e)):=by
 subst hp
 obtain⟨i0,hi,hzz⟩:=Option.map_eq_some_iff.1 hinfo
 simp only[Prod.mk.injEq]at hzz
 obtain⟨hz0,hz1,hz2⟩:=hzz
 have hlen:xs.length+1≤140737488355328:=Nat.le_trans (Nat.le_mul_of_pos_right _ hb0) hl
 have hown:W.ownsRowM base e 1 v xs.length (encs (Value.int kk) xs):=own_of_R (h1:=fun _=>rfl) HO
 refine wpList_plain hgd fun K hK=> ?_
 obtain⟨v',w',hr,h2,h3,h4⟩:=run_append_keepM (P:=P) (w:=W.alloc (.cells [Value.int kk p].toArray e)) base t o.type e i0 z 1 bytes ht hi hz0 hz1 hz2 hz hs0 v xs.length _ (hown.alloc _) ⟨W.heap.size,0,none⟩ 1 1 [Value.int kk p] rfl
  (by simpa using World.news_of_block (cs:=[Value.int kk p].toArray) (t:=e) (fr:=(0,0)) (heap_alloc_new W (.cells [Value.int kk p].toArray e))) (by intro u hu;rw[List.mem_singleton]at hu;subst hu;rfl) (by simp only[maxLen];omega) hl (by simp;omega)
 unfold Oper.wp execOp
 simp only[ho,resolve,invoke,builtin,Sem.run_bind,Sem.run_pure,Result.andThen_ok,List.map_toArray,List.map_cons,List.map_nil,hs,hx,hr]
 obtain⟨A,c,rfl⟩:=h3
 exact hK _ _ (h _ w' (R_of_own (h1:=fun _=>rfl) h2 HO.1) ⟨A,c,by rw[List.length_append];rfl⟩ ((HB.alloc hbase _).grown h4 (by simp;omega) (own_base hown)) (World.grownBy.trans (World.grownBy_alloc W _ _) h4))
end
end Kd
end Go.Proofs.YtmojemogpelpnaaGreatDoorW.PrintWords
