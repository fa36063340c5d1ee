/- Rows of a call's own whose block may bear a mark behind its cells (what '[]byte(s)' leaves): what is owned, read, stored into, appended to. Plain laws, of no function. -/
import Derived.Maps.AppendAt
import Derived.ArgAppend
import Derived.Laws.OwnMore
import Derived.Deep.AppendLies
import Derived.Lib.AppendStr
import Derived.Lib.ConvBytes
import Derived.Laws.IdiomCopy
import Derived.RowKit
set_option linter.unusedVariables false
namespace Go
def HasRow(w:World)(g:Nat)(cur:Array Value)(e:TypeId):Prop:=
 ∃fz:Nat×Nat,w.heap[g]? =some (.cells cur e fz)∧∀j,j<cur.size→(decide (fz.1≤j)&&decide (j<fz.2))=false
theorem HasRow.of{w:World}{g:Nat}{cur:Array Value}{e:TypeId}(h:w.heap[g]? =some (.cells cur e (0,0))):HasRow w g cur e:=⟨_,h,fun j _=>by simp⟩
theorem HasRow.lt{w:World}{g:Nat}{cur:Array Value}{e:TypeId}(h:HasRow w g cur e):g<w.heap.size:=by
 obtain⟨fz,h,_⟩:=h
 exact(Array.getElem?_eq_some_iff.1 h).1
theorem HasRow.move{w w1:World}{g:Nat}{cur:Array Value}{e:TypeId}(h:HasRow w g cur e)(hm:w1.heap[g]? =w.heap[g]?):HasRow w1 g cur e:=by
 obtain⟨fz,h,hf⟩:=h
 exact⟨fz,hm.trans h,hf⟩
theorem HasRow.cell{w:World}{g:Nat}{cur:Array Value}{e:TypeId}(h:HasRow w g cur e)(j:Nat):w.cell? ⟨g,j,none⟩=cur[j]? :=by
 obtain⟨fz,h,_⟩:=h
 exact cell_of_row w g j cur e fz h
theorem HasRow.frozen{w:World}{g:Nat}{cur:Array Value}{e:TypeId}(h:HasRow w g cur e){j:Nat}(hj:j<cur.size):w.frozen? ⟨g,j,none⟩=false:=by
 obtain⟨fz,h,hf⟩:=h
 have:=hf j hj
 obtain⟨a,b⟩:=fz
 simp only[World.frozen?,h]
 exact this
theorem HasRow.typ0{w:World}{g:Nat}{cur cs:Array Value}{e t:TypeId}{f:Nat×Nat}(h:HasRow w g cur e)(k:w.heap[g]? =some (.cells cs t f)):e=t:=by
 obtain⟨fz,h,_⟩:=h
 rw[h]at k
 injection k with k
 injection k
theorem HasRow.typ{w:World}{g:Nat}{cur cs:Array Value}{e t:TypeId}(h:HasRow w g cur e)(k:HasRow w g cs t):e=t:=by
 obtain⟨fz,k,_⟩:=k
 exact h.typ0 k
theorem HasRow.set{w:World}{g:Nat}{cur:Array Value}{e:TypeId}(h:HasRow w g cur e)(i:Nat)(u:Value):HasRow (w.setCell ⟨g,i,none⟩ u) g (cur.setIfInBounds i u) e:=by
 obtain⟨fz,h,hf⟩:=h
 refine⟨fz,by simp[World.setCell,Array.getElem?_modify,h],fun j hj=>hf j (by simpa using hj)⟩
theorem HasRow.sets{g:Nat}{e:TypeId}:∀(vs:List Value)(o:Nat)(w:World)(cur:Array Value),HasRow w g cur e→o+vs.length≤cur.size→
  ∃cur',HasRow (w.setCells g o vs) g cur' e∧cur'.size=cur.size∧cur'.toList=cur.toList.take o++vs++cur.toList.drop (o+vs.length)
 |[],o,w,cur,h,_=>⟨cur,h,rfl,by simp⟩
 |v::r,o,w,cur,h,hl=>by
  simp only[List.length_cons]at hl
  obtain⟨cur',h3,h4,h5⟩:=HasRow.sets r (o+1) (w.setCell ⟨g,o,none⟩ v) _ (h.set o v) (by simp;omega)
  refine⟨cur',h3,by rw[h4];simp,?_⟩
  have ho:o<cur.toList.length:=by rw[Array.length_toList];omega
  have ho':o<cur.size:=by omega
  rw[h5,Array.toList_setIfInBounds,List.take_set,List.drop_set_of_lt (by omega)]
  simp only[List.length_cons]
  rw[show o+1+r.length=o+(r.length+1) by omega]
  congr 1
  rw[List.take_succ_eq_append_getElem ho,List.set_append_right _ _ (by rw[List.length_take];omega)]
  simp[Nat.min_eq_left (Nat.le_of_lt ho')]
theorem setCells_info(g:Nat):∀(vs:List Value)(o:Nat)(w:World),(w.setCells g o vs).os=w.os∧(w.setCells g o vs).tape=w.tape∧(w.setCells g o vs).output=w.output∧(w.setCells g o vs).heap.size=w.heap.size∧∀k,k≠g→(w.setCells g o vs).heap[k]? =w.heap[k]?
 |[],o,w=>⟨rfl,rfl,rfl,rfl,fun _ _=>rfl⟩
 |v::r,o,w=>by
  obtain⟨h1,h2,h3,h4,h5⟩:=setCells_info g r (o+1) (w.setCell ⟨g,o,none⟩ v)
  rw[World.setCells]
  refine⟨h1,h2,h3,by rw[h4];simp[World.setCell],fun k hk=>(h5 k hk).trans ?_⟩
  simp only[World.setCell,Array.getElem?_modify]
  rw[if_neg (fun he=>hk he.symm)]
def World.ownsRowM(w:World)(base:Nat)(e:TypeId)(size:Nat)(v:Value)(n:Nat)(xs:List Value):Prop:=
 xs.length=n*size∧
 ((v= .slice none 0 0∧n=0)∨
  ∃g cap cur,v= .slice (some ⟨g,0,none⟩) n cap∧base≤g∧HasRow w g cur e∧n≤cap∧cap≤maxLen∧cur.size=cap*size∧cur.toList.take (n*size)=xs)
section
variable{w:World}{base:Nat}{e:TypeId}{size:Nat}{v:Value}{n:Nat}{xs:List Value}
theorem World.ownsRowM_of(h:w.ownsRow base e size v n xs):w.ownsRowM base e size v n xs:=by
 refine⟨h.1,?_⟩
 rcases h.2 with h2|⟨g,cap,cur,hv,hb,hh,r⟩
 ·exact .inl h2
 ·exact .inr ⟨g,cap,cur,hv,hb,.of hh,r⟩
theorem World.ownsRowM_nil(w:World)(base:Nat)(e:TypeId)(size:Nat):w.ownsRowM base e size (.slice none 0 0) 0 []:=World.ownsRowM_of (World.ownsRow_nil w base e size)
theorem World.ownsRowM_lit(w:World)(cs:Array Value)(n:Nat)(hb:base≤w.heap.size)(hm:n≤maxLen)(hs:cs.size=n*size):
  (w.alloc (.cells cs e)).ownsRowM base e size (.slice (some ⟨w.heap.size,0,none⟩) n n) n cs.toList:=World.ownsRowM_of (World.ownsRow_lit w cs n hb hm hs)
theorem World.ownsRowM.kept{w':World}{row:Option Nat}(h:w.ownsRowM base e size v n xs)(hg:w.grownBy w' row)(hne:v.ownBlock=none∨v.ownBlock≠row):w'.ownsRowM base e size v n xs:=by
 refine⟨h.1,?_⟩
 rcases h.2 with h2|⟨g,cap,cur,rfl,hb,hh,r⟩
 ·exact .inl h2
 ·exact .inr ⟨g,cap,cur,rfl,hb,hh.move (hg.block g hh.lt (by simpa[Value.ownBlock]using hne)),r⟩
theorem World.ownsRowM.alloc(h:w.ownsRowM base e size v n xs)(o:Obj):(w.alloc o).ownsRowM base e size v n xs:=
 h.kept (World.grownBy_alloc w o none) (by cases hv:v.ownBlock<;>simp)
theorem World.ownsRowM.cells(h:w.ownsRowM base e size v n xs){g:Nat}(hg:v.ownBlock=some g):∀j u,xs[j]? =some u→w.cell? ((⟨g,0,none⟩:Addr).add j)=some u:=by
 intro j u hu
 rcases h.2 with⟨rfl,_⟩|⟨g',cap,cur,rfl,_,hh,_,_,_,ht⟩
 ·simp[Value.ownBlock]at hg
 ·simp[Value.ownBlock]at hg
  subst hg
  rw[show(⟨g',0,none⟩:Addr).add j=⟨g',j,none⟩ by unfold Addr.add;split<;>simp_all,hh.cell]
  rw[←ht,List.getElem?_take]at hu
  split at hu
  ·simpa using hu
  ·cases hu
theorem World.ownsRowM.form(h:w.ownsRowM base e size v n xs)(hn:0<n):∃g cap,v= .slice (some ⟨g,0,none⟩) n cap∧base≤g∧g<w.heap.size:=by
 rcases h.2 with⟨_,h0⟩|⟨g,cap,cur,hv,hb,hh,_⟩
 ·omega
 ·exact⟨g,cap,hv,hb,hh.lt⟩
theorem World.ownsRowM.stored{g cap:Nat}(h:w.ownsRowM base e size (.slice (some ⟨g,0,none⟩) n cap) n xs)(j:Nat)(u:Value):
  (w.setCell ⟨g,j,none⟩ u).ownsRowM base e size (.slice (some ⟨g,0,none⟩) n cap) n (xs.set j u)∧w.grownBy (w.setCell ⟨g,j,none⟩ u) (some g):=by
 rcases h.2 with⟨h',_⟩|⟨g',cap',cur,h',hb,hh,hnc,hcm,hcs,ht⟩
 ·simp at h'
 ·simp only[Value.slice.injEq,Option.some.injEq,Addr.mk.injEq,and_true,true_and]at h'
  obtain⟨rfl,rfl⟩:=h'
  refine⟨⟨by simpa using h.1,.inr ⟨g,cap,_,rfl,hb,hh.set j u,hnc,hcm,by simpa using hcs,?_⟩⟩,⟨rfl,rfl,rfl,by simp[World.setCell],fun k _ hk=> ?_⟩⟩
  ·rw[Array.toList_setIfInBounds,←ht,List.take_set]
  ·simp only[World.setCell,Array.getElem?_modify]
   rw[if_neg (fun he=>hk (by rw[←he]))]
end
section
variable{P:Program}(w:World)
theorem ownsRowM_room{base:Nat}{e:TypeId}{size g n cap m:Nat}{xs news:List Value}{cur:Array Value}(hx:xs.length=n*size)(hl:news.length=m*size)(hb:base≤g)(hh:HasRow w g cur e)(hroom:n+m≤cap)(hcm:cap≤maxLen)(hcs:cur.size=cap*size)(ht:cur.toList.take (n*size)=xs):
  (w.setCells g (0+n*size) news).ownsRowM base e size (.slice (some ⟨g,0,none⟩) (n+m) cap) (n+m) (xs++news)∧w.grownBy (w.setCells g (0+n*size) news) (some g):=by
 have hfit:0+n*size+news.length≤cur.size:=by rw[hl,hcs,Nat.zero_add,←Nat.add_mul];exact Nat.mul_le_mul_right _ hroom
 obtain⟨cur',h3,h4,h5⟩:=HasRow.sets news (0+n*size) w cur hh hfit
 obtain⟨s1,s2,s3,s4,s5⟩:=setCells_info g news (0+n*size) w
 have hlen:(xs++news).length=(n+m)*size:=by rw[List.length_append,hx,hl,Nat.add_mul]
 refine⟨⟨hlen,.inr ⟨g,cap,cur',rfl,hb,h3,hroom,hcm,by rw[h4,hcs],?_⟩⟩,⟨s1,s2,s3,by rw[s4];exact Nat.le_refl _,fun k _ hk=>s5 k (fun he=>hk (by rw[he]))⟩⟩
 rw[h5,Nat.zero_add,ht]
 exact List.take_left' hlen
theorem run_append_own_atM(base:Nat)(t ty e:TypeId)(i:TypeInfo)(z:Value)(size bytes:Nat)(ht:P.underlying t=some (.slice e))(hi:P.info? e=some i)(hz:i.zero=some z)
  (hsize:i.size=size)(hby:i.bytes=bytes)(hzs:z.cells.size=size)(hsz:0<size)
  (v:Value)(n:Nat)(xs:List Value)(hown:w.ownsRowM base e size v n xs)
  (a:Addr)(m c:Nat)(news:List Value)(hl:news.length=m*size)(hnews:∀j u,news[j]? =some u→w.cell? (a.add j)=some u)(h1:∀u∈news,u.oneCell'=true)
  (h63:n+m≤maxLen)(hbytes:(n+m)*bytes≤140737488355328)(hbase:base≤w.heap.size):
  ∃v' w',(Builtin.append_ #[t,t] ty #[v,.slice (some a) m c]).run P w= .ok v' w'∧w'.ownsRowM base e size v' (n+m) (xs++news)∧w.grownBy w' v.ownBlock∧
   (v'= .slice none 0 0↔v= .slice none 0 0∧m=0)∧(v'.ownBlock=v.ownBlock∨v'.ownBlock=some w.heap.size):=by
 rcases hown.2 with⟨rfl,rfl⟩|⟨g,cap,cur,rfl,hbg,hh,hnc,hcm,hcs,htake⟩
 ·obtain⟨v',w',h2,h3,h4,h5,h6⟩:=run_append_own_at (P:=P) w base t ty e i z size bytes ht hi hz hsize hby hzs hsz (.slice none 0 0) 0 xs ⟨hown.1,.inl ⟨rfl,rfl⟩⟩ a m c news hl hnews h1 h63 hbytes hbase
  exact⟨v',w',h2,World.ownsRowM_of h3,h4,h5,h6⟩
 ·by_cases hroom:n+m≤cap
  ·have hfit:0+n*size+news.length≤cur.size:=by rw[hl,hcs,Nat.zero_add,←Nat.add_mul];exact Nat.mul_le_mul_right _ hroom
   have hr:=run_append_room_cells (P:=P) (w:=w) t ty e i ht hi g 0 n cap a m c news (by rw[hl,hsize]) hnews h1 hroom
    (fun j hj=>by rw[hsize,hh.cell];simp;omega) (fun j hj=>hh.frozen (by rw[hsize];omega))
   rw[hsize]at hr
   obtain⟨ho,hg⟩:=ownsRowM_room w hown.1 hl hbg hh hroom hcm hcs htake
   exact⟨_,_,hr,ho,hg,by simp,.inl rfl⟩
  ·have holds:∀j u,xs[j]? =some u→w.cell? ((⟨g,0,none⟩:Addr).add j)=some u:=hown.cells (g:=g) rfl
   obtain⟨v',w',hr,ho,hg⟩:=run_append_arg_grows (P:=P) w t ty e i z size bytes ht hi hz hsize hby hzs hsz ⟨g,0,none⟩ n cap xs hown.1 holds a m c news hl hnews (by omega) h63 hbytes
   obtain⟨g',cap',he,hb',hl'⟩:=ho.form (by omega)
   rcases ho.2 with⟨h0,_⟩|⟨g2,cap2,cur2,he2,hb2,hh2,r2⟩
   ·rw[he]at h0;cases h0
   refine⟨v',w',hr,⟨ho.1,.inr ⟨g2,cap2,cur2,he2,Nat.le_trans hbase hb2,.of hh2,r2⟩⟩,⟨hg.os,hg.tape,hg.output,hg.size,fun k hk _=>hg.block k hk (by simp)⟩,by simp[he],?_⟩
   have hnew:=run_append_grow (P:=P) w t ty e i z ht hi hz ⟨g,0,none⟩ n cap xs (by rw[hown.1,hsize]) holds a m c news (by rw[hl,hsize]) hnews (by omega) (by simp only[maxLen]at h63;omega) (by rw[hby];exact growslice_fits (by omega) hbytes)
   rw[hr]at hnew
   injection hnew with hv _
   exact .inr (by rw[hv];rfl)
theorem wpList_append_own_atM{ops:Array Oper}{rest:List Oper}{o:Oper}{a:Act}{Q:Exit→Act→World→Prop}(hgd:o.guard=none)(s x:Operand)(t:TypeId)
  (ho:o.op= .call {callee:= .builtin .append,args:= #[s,x],argTypes:= #[t,t]})
  (base:Nat)(e:TypeId)(i:TypeInfo)(z:Value)(size bytes:Nat)(ht:P.underlying t=some (.slice e))(hi:P.info? e=some i)(hz:i.zero=some z)
  (hsize:i.size=size)(hby:i.bytes=bytes)(hzs:z.cells.size=size)(hsz:0<size)
  (v:Value)(n:Nat)(xs:List Value)(hs:a.eval s=v)(hown:w.ownsRowM base e size v n xs)
  (ad:Addr)(m c:Nat)(news:List Value)(hx:a.eval x= .slice (some ad) m c)(hl:news.length=m*size)(hnews:∀j u,news[j]? =some u→w.cell? (ad.add j)=some u)(h1:∀u∈news,u.oneCell'=true)
  (h63:n+m≤maxLen)(hbytes:(n+m)*bytes≤140737488355328)(hbase:base≤w.heap.size)
  (h:∀v' w',w'.ownsRowM base e size v' (n+m) (xs++news)→w.grownBy w' v.ownBlock→(v'= .slice none 0 0↔v= .slice none 0 0∧m=0)→(v'.ownBlock=v.ownBlock∨v'.ownBlock=some w.heap.size)→wpList P ops Q rest (a.put o.dst v') w'):
  wpList P ops Q (o::rest) a w:=by
 refine wpList_plain hgd fun K hK=> ?_
 obtain⟨v',w',hr,h2,h3,h4,h5⟩:=run_append_own_atM (P:=P) w base t o.type e i z size bytes ht hi hz hsize hby hzs hsz v n xs hown ad m c news hl hnews h1 h63 hbytes hbase
 unfold Oper.wp execOp
 simp only[ho,resolve,invoke,builtin,Sem.run_bind,Sem.run_pure,Result.andThen_ok,List.map_toArray,List.map_cons,List.map_nil,hs,hx,hr]
 exact hK _ _ (h v' w' h2 h3 h4 h5)
theorem run_append_own_stringM(base:Nat)(t u ty e:TypeId)(i:TypeInfo)(ht:P.underlying t=some (.slice e))(hu:P.underlying u=some .string)(hi:P.info? e=some i)(hz:i.zero=some (.int .u8 0))
  (hsize:i.size=1)(hby:i.bytes=1)
  (v:Value)(n:Nat)(xs:List Value)(hown:w.ownsRowM base e 1 v n xs)(s:ByteArray)
  (h63:n+s.size≤maxLen)(hbytes:n+s.size≤140737488355328)(hbase:base≤w.heap.size):
  ∃v' w',(Builtin.append_ #[t,u] ty #[v,.string s]).run P w= .ok v' w'∧w'.ownsRowM base e 1 v' (n+s.size) (xs++Lib.strCells s)∧w.grownBy w' v.ownBlock∧
   (v'.ownBlock=v.ownBlock∨v'.ownBlock=some w.heap.size):=by
 have hsl:=Lib.strCells_length s
 rcases hown.2 with⟨rfl,rfl⟩|⟨g,cap,cur,rfl,hbg,hh,hnc,hcm,hcs,htake⟩
 ·obtain⟨v',w',h2,h3,h4,h5⟩:=Lib.run_append_own_string (P:=P) w base t u ty e i ht hu hi hz hsize hby (.slice none 0 0) 0 xs ⟨hown.1,.inl ⟨rfl,rfl⟩⟩ s h63 hbytes hbase
  refine⟨v',w',h2,World.ownsRowM_of h3,h4,?_⟩
  rcases Nat.eq_zero_or_pos s.size with h0|h0
  ·left;rw[h5.2 ⟨rfl,h0⟩]
  ·right
   have hr:=run_append_nil_string (P:=P) w t u ty e i (.int .u8 0) ht hu hi hz s h0 (by omega) (by rw[hby];omega)
   rw[h2]at hr
   injection hr with hv _
   rw[hv];rfl
 ·by_cases hroom:n+s.size≤cap
  ·obtain⟨hown',hg⟩:=ownsRowM_room w (m:=s.size) (news:=Lib.strCells s) hown.1 (by rw[hsl,Nat.mul_one]) hbg hh hroom hcm hcs htake
   have hf:=Lib.run_firstCells_string (P:=P) w 1 s
   have hst:=run_storeCells_cells (P:=P) g (0+n*1) (Lib.strCells s) 0 w (fun j hj=>by rw[hh.cell];simp;omega) (fun j hj=>hh.frozen (by omega)) (Lib.strCells_oneCell s)
   simp only[Nat.add_zero,Nat.zero_add,Nat.mul_one]at hst hown' hg
   refine⟨.slice (some ⟨g,0,none⟩) (n+s.size) cap,w.setCells g n (Lib.strCells s),?_,hown',hg,.inl rfl⟩
   simp[Builtin.append_,run_underlying ht,run_underlying hu,sizeOf,typeInfo,hi,hsize,Builtin.lenOf,hroom,hf,Addr.add_lit,hst]
  ·have holds:∀j u,xs[j]? =some u→w.cell? ((⟨g,0,none⟩:Addr).add j)=some u:=hown.cells (g:=g) rfl
   have hxl:xs.length=n:=by simpa using hown.1
   have hr:=Lib.run_append_grow_string (P:=P) w t u ty e i (.int .u8 0) ht hu hi hz ⟨g,0,none⟩ n cap xs (by rw[hsize];simpa using hxl) holds s (by omega) (by omega) (by rw[hby];exact growslice_fits (by omega) (by omega))
   have hge:=grownCap_ge w (n+s.size) cap e
   refine⟨_,_,hr,⟨by rw[List.length_append,hxl,hsl,Nat.mul_one],.inr ⟨w.heap.size,_,_,rfl,hbase,.of (heap_alloc_new w.drew _),hge,grownCap_le_maxLen w (n+s.size) cap e h63,?_,?_⟩⟩,⟨rfl,rfl,rfl,by simp,fun k hk _=>heap_alloc_old w.drew _ k hk⟩,.inr rfl⟩
   ·simp only[Array.size_append,List.size_toArray,size_zeroCells,hxl,hsl,show(Value.int IntKind.u8 0).cells.size=1 from rfl]
    omega
   ·simp only[Array.toList_append,List.append_assoc]
    rw[←List.append_assoc]
    exact List.take_left' (by rw[List.length_append,hxl,hsl,Nat.mul_one])
theorem wpList_append_own_stringM{ops:Array Oper}{rest:List Oper}{o:Oper}{a:Act}{Q:Exit→Act→World→Prop}(hgd:o.guard=none)(sl x:Operand)(t u:TypeId)
  (ho:o.op= .call {callee:= .builtin .append,args:= #[sl,x],argTypes:= #[t,u]})
  (base:Nat)(e:TypeId)(i:TypeInfo)(ht:P.underlying t=some (.slice e))(hu:P.underlying u=some .string)(hi:P.info? e=some i)(hz:i.zero=some (.int .u8 0))
  (hsize:i.size=1)(hby:i.bytes=1)
  (v:Value)(n:Nat)(xs:List Value)(hs:a.eval sl=v)(hown:w.ownsRowM base e 1 v n xs)(s:ByteArray)(hx:a.eval x= .string s)
  (h63:n+s.size≤maxLen)(hbytes:n+s.size≤140737488355328)(hbase:base≤w.heap.size)
  (h:∀v' w',w'.ownsRowM base e 1 v' (n+s.size) (xs++Lib.strCells s)→w.grownBy w' v.ownBlock→(v'.ownBlock=v.ownBlock∨v'.ownBlock=some w.heap.size)→wpList P ops Q rest (a.put o.dst v') w'):wpList P ops Q (o::rest) a w:=by
 refine wpList_plain hgd fun K hK=> ?_
 obtain⟨v',w',hr,h2,h3,h4⟩:=run_append_own_stringM (P:=P) w base t u o.type e i ht hu hi hz hsize hby v n xs hown s h63 hbytes hbase
 unfold Oper.wp execOp
 simp only[ho,resolve,invoke,builtin,Sem.run_bind,Sem.run_pure,Result.andThen_ok,List.map_toArray,List.map_cons,List.map_nil,hs,hx,hr]
 exact hK _ _ (h v' w' h2 h3 h4)
theorem ownsRowM_bytes(base:Nat)(e:TypeId)(s:ByteArray)(hs:s.size≤maxLen)(hb:base≤w.heap.size):
  (Lib.bytesWorld w e s).ownsRowM base e 1 (.slice (some ⟨w.heap.size,0,none⟩) s.size (grownCap w s.size 0 e)) s.size (Lib.strCells s):=by
 have hge:=grownCap_ge w s.size 0 e
 have hsd:s.data.size=s.size:=rfl
 have hsz:(Lib.bytesCells w e s).size=grownCap w s.size 0 e:=by simp[Lib.bytesCells];omega
 refine⟨by rw[Lib.strCells_length,Nat.mul_one],.inr ⟨w.heap.size,_,Lib.bytesCells w e s,rfl,hb,⟨_,Lib.bytesWorld_at_new w e s,fun j hj=> ?_⟩,hge,grownCap_le_maxLen w s.size 0 e hs,by rw[hsz,Nat.mul_one],?_⟩⟩
 ·simp;omega
 ·simp only[Lib.bytesCells,Array.toList_append,Array.toList_map,Nat.mul_one]
  exact List.take_left' (by simp)
theorem grownBy_bytes(e:TypeId)(s:ByteArray)(row:Option Nat):w.grownBy (Lib.bytesWorld w e s) row:=
 ⟨rfl,rfl,rfl,by rw[Lib.bytesWorld_size];omega,fun k hk _=>Lib.bytesWorld_at_old w e s k hk⟩
end
end Go
