/- Rows whose elements lead to rows of their own, no two to one block: one such row appended to another; no condition. -/
import Derived.Test.YtmojemogpelpnaaGreatDoorWApart
import Derived.Test.YtmojemogpelpnaaGreatDoorWKept
namespace Go.Proofs.YtmojemogpelpnaaGreatDoorW.PrintWords
open Go.RowKit
namespace Kd
section
variable{P:Program}{ops:Array Oper}{rest:List Oper}{o:Oper}{a:Act}{Q:Exit→Act→World→Prop}{α:Type}{d:Kd α}{e:Nat}{base:Nat}
theorem S_readsM{W:World}{okp:Nat→Prop}{A:Option Addr}{m c:Nat}{ys:List α}(HY:S d e W base okp (.slice A m c) ys)(hm:m≤9223372036854775807):
  ∃f:Nat→Nat,ReadsRow (fun(p:α×Nat) cs=>d.M W base (fun k=>okp k∧f k=p.2) p.1 cs) d.sz W A m ys.zipIdx:=by
 obtain⟨f,hR⟩:=HY
 have hl:m=ys.zipIdx.length:=(R_reads' hR).1
 refine⟨f,hl.symm,hm,fun hp=> ?_⟩
 obtain⟨g,cap,e1,_⟩:=R_form hR (by omega)
 injection e1 with ea en ec
 subst ea
 refine⟨_,rfl,fun j p hj=> ?_⟩
 have hjl:j<ys.zipIdx.length:=(List.getElem?_eq_some_iff.1 hj).1
 obtain⟨cs,h1,h2,h3,_⟩:=R_elem hR p (j:Int) (by omega) (by omega)
 rw[Int.toNat_natCast,List.getD_eq_getElem?_getD,hj,Option.getD_some]at h2
 refine⟨cs,h1,d.M_mono (fun k hk=>⟨hk.1.1,hk.2⟩) h2,fun i u hu=> ?_⟩
 have:=h3 i u hu
 rw[add_at,Nat.zero_add]
 rw[Int.toNat_natCast]at this
 exact this
theorem zip_app(xs ys:List α):(xs++ys).zipIdx=xs.zipIdx++(ys.zipIdx.map fun p=>(p.1,p.2+xs.length)):=by
 rw[List.zipIdx_append]
 congr 1
 apply List.ext_getElem?
 intro j
 simp only[List.getElem?_map,List.getElem?_zipIdx,Option.map_map,Nat.zero_add]
 congr 1
 funext x
 simp[Nat.add_comm]
open Classical in
theorem S_append_rows(d:Kd α){w0 W:World}(base:Nat)(hgd:o.guard=none)(s x:Operand)(t e:TypeId)(z:Value)(bytes:Nat)
  (ho:o.op= .call {callee:= .builtin .append,args:= #[s,x],argTypes:= #[t,t]})
  (ht:P.underlying t=some (.slice e))(hinfo:(P.info? e).map (fun i=>(i.zero,i.size,i.bytes))=some (some z,d.sz,bytes))(hz:z.cells.size=d.sz)(hs0:0<d.sz)(hb0:0<bytes)
  (v:Value)(xs ys:List α)(A:Option Addr)(m c:Nat)(ok okp:Nat→Prop)(hs:a.eval s=v)(hx:a.eval x= .slice A m c)
  (HO:S d e W base (fun k=>ok k∧¬okp k) v xs)(HR:S d e W base okp (.slice A m c) ys)(hokp:∀k,okp k→ok k∧some k≠v.ownBlock)(hfresh:∀k,W.heap.size≤k→ok k)
  (HB:Below base w0 W)(hbase:base≤W.heap.size)(hl:(xs.length+m)*bytes≤140737488355328)
  (h:∀v1 w1,S d e w1 base ok v1 (xs++ys)→Below base w0 w1→W.grownBy w1 v.ownBlock→(v1.ownBlock=v.ownBlock∨∃b,v1.ownBlock=some b∧W.heap.size≤b)→wpList P ops Q rest (a.put o.dst v1) w1):
  wpList P ops Q (o::rest) a W:=by
 have hm:m≤9223372036854775807:=by
  have:=Nat.le_trans (Nat.le_mul_of_pos_right (xs.length+m) hb0) hl
  omega
 obtain⟨f2,hr2⟩:=S_readsM HR hm
 obtain⟨f1,hr1⟩:=HO
 have hR1:=R_tag (f':=fun k=>if okp k then f2 k+xs.length else f1 k) hr1 (fun k hk _=>if_neg hk.2)
 refine R_append_rows (tag (fun k=>if okp k then f2 k+xs.length else f1 k) d) (Rr:=fun(p:α×Nat) cs=>d.M W base (fun k=>okp k∧(if okp k then f2 k+xs.length else f1 k)=p.2) p.1 cs) base hgd s x t e z bytes ho ht hinfo hz hs0 hb0 v xs.zipIdx (ys.zipIdx.map fun p=>(p.1,p.2+xs.length)) A m c ok okp hs hx (R_mono hR1 (fun _ hk=>hk.1)) ?_ (fun p cs hp=>hp) hokp hfresh HB hbase (by rw[List.length_zipIdx];exact hl) ?_
 ·obtain⟨h1,h2,h3⟩:=hr2
  refine⟨by rw[List.length_map];exact h1,h2,fun hp=> ?_⟩
  obtain⟨ad,ea,hc⟩:=h3 hp
  refine⟨ad,ea,fun j p hj=> ?_⟩
  rw[List.getElem?_map]at hj
  obtain⟨q,hq,rfl⟩:=Option.map_eq_some_iff.1 hj
  obtain⟨cs,k1,k2,k3⟩:=hc j q hq
  exact⟨cs,k1,d.M_mono (fun k hk=>⟨hk.1,by rw[if_pos hk.1,hk.2]⟩) k2,k3⟩
 ·intro v1 w1 hr
  rw[←zip_app]at hr
  exact h v1 w1 ⟨_,hr⟩
end
end Kd
end Go.Proofs.YtmojemogpelpnaaGreatDoorW.PrintWords
