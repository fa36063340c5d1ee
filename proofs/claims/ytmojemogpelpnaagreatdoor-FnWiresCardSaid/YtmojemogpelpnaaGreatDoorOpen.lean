/- What an argument's reading says, told in the words of the printed contracts: a value of each type as a Lean value. Plain laws, of no function. -/
import Derived.Test.YtmojemogpelpnaaGreatDoorWWords
import Derived.Deep.Slices
import Derived.DataElems
import Derived.ChangeArms
namespace Go.Proofs.YtmojemogpelpnaaGreatDoor.Open
open Go.RowKit Go.Deep Go.ChangeShapes Go.WideShapes Go.Proofs.YtmojemogpelpnaaGreatDoorW.PrintWords
set_option linter.unusedVariables false
def Opens{α:Type}(P:Program)(w:World)(T:TypeId)(d:Kd α)(B:α→Prop):Prop:=
 ∀{H:Type}(enc:TypeId×Value→H)(base:Nat)(spare:Nat→Bool)(held:Bool)(fuel:Nat)(cs:List Value)(x:DataW H×List MemPlace),
  DataW.trod enc P w base spare held fuel T cs=some x→∃v,d.K w v cs∧B v
theorem opens_string{P:Program}{w:World}{T:TypeId}(hT:P.underlying T=some .string):Opens P w T Kd.string (fun s=>s.size≤9223372036854775807):=by
 intro H enc base spare held fuel cs x h
 obtain⟨s,rfl,_,hs⟩:=DataW.trod_string hT h
 exact⟨s,rfl,hs⟩
theorem opens_int{P:Program}{w:World}{T:TypeId}{k:IntKind}(hT:P.underlying T=some (.int k)):Opens P w T (Kd.int k) (fun n=>(Lit.int k n).wf=true):=by
 intro H enc base spare held fuel cs x h
 obtain⟨n,rfl,_,hn⟩:=DataW.trod_int hT h
 exact⟨n,rfl,hn⟩
theorem opens_bool{P:Program}{w:World}{T:TypeId}(hT:P.underlying T=some .bool):Opens P w T Kd.bool (fun _=>True):=by
 intro H enc base spare held fuel cs x h
 obtain⟨b,rfl,_⟩:=DataW.trod_bool hT h
 exact⟨b,rfl,trivial⟩
theorem list_choose{α:Type}{p:Nat→α→Prop}:∀n,(∀i,i<n→∃v,p i v)→∃l:List α,l.length=n∧∀i v,l[i]? =some v→p i v
 |0,_=>⟨[],rfl,fun i v h=>by simp at h⟩
 |n+1,h=>by
  obtain⟨l,hl,hp⟩:=list_choose n (fun i hi=>h i (by omega))
  obtain⟨v,hv⟩:=h n (by omega)
  refine⟨l++[v],by simp[hl],fun i u hu=> ?_⟩
  rcases Nat.lt_or_ge i l.length with hi|hi
  ·rw[List.getElem?_append_left hi]at hu
   exact hp i u hu
  ·rw[List.getElem?_append_right hi]at hu
   have hi0:i-l.length=0:=by
    rcases Nat.eq_zero_or_pos (i-l.length)with h0|h0
    ·exact h0
    ·rw[List.getElem?_eq_none (by simp;omega)]at hu;cases hu
   rw[hi0]at hu
   simp at hu
   subst hu
   have:i=n:=by omega
   rw[this];exact hv
theorem opens_slice{α:Type}{P:Program}{w:World}{T e:TypeId}{d:Kd α}{B:α→Prop}(hT:P.underlying T=some (.slice e))(hc:P.cellsOf e=d.sz)(he:Opens P w e d B):
  Opens P w T (Kd.slice e d) (fun l=>l.length≤9223372036854775807∧∀v∈l,B v):=by
 intro H enc base spare held fuel cs x h
 rcases open_slice hT h with⟨rfl,_⟩|⟨a,len,cap,m,n,D,Pl,rfl,hb,hl,hm,hmm,_,hx⟩
 ·exact⟨[],⟨none,0,rfl,Nat.le_refl _,⟨rfl,by simp,fun h0=>absurd h0 (by simp)⟩⟩,by simp,fun v hv=>by cases hv⟩
 ·have hlm:len≤m:=by rw[hmm];split<;>omega
  obtain⟨l,hll,hp⟩:=list_choose (p:=fun i (v:α)=>B v∧∃c,d.K w v c∧∀j u,c[j]? =some u→w.cell? (a.add (i*d.sz+j))=some u) len (fun i hi=>by
   obtain⟨cs',h1,h2⟩:=hx i (by omega)
   obtain⟨_,hlen,hcell⟩:=World.cells?_some h1
   obtain⟨v,hk,hB⟩:=he enc base spare held n cs' _ h2
   refine⟨v,hB,cs',hk,fun j u hu=> ?_⟩
   have hj:j<P.cellsOf e:=by rw[←hlen];exact(List.getElem?_eq_some_iff.1 hu).1
   have:=hcell j hj
   rw[Addr.add_add,hu,hc]at this
   exact this)
  have hmx':len≤9223372036854775807:=Nat.le_trans hl hm
  refine⟨l,⟨some a,cap,by rw[hll],by rw[hll];exact hl,⟨rfl,by rw[hll];exact hmx',fun _=>⟨a,rfl,fun j p hj=> ?_⟩⟩⟩,by rw[hll];exact hmx',fun v hv=> ?_⟩
  ·obtain⟨_,c,hk,hcc⟩:=hp j p hj
   exact⟨c,d.K_len hk,hk,hcc⟩
  ·obtain⟨i,hi⟩:=List.mem_iff_getElem?.1 hv
   exact(hp i v hi).1
def OpensF{α:Type}(P:Program)(w:World)(T:TypeId)(d:Kd α)(B:α→Prop)(fuel:Nat):Prop:=
 ∀{H:Type}(enc:TypeId×Value→H)(base:Nat)(spare:Nat→Bool)(held:Bool)(cs:List Value)(x:DataW H×List MemPlace),
  DataW.trod enc P w base spare held fuel T cs=some x→∃v,d.K w v cs∧B v
theorem opens_sliceF{α:Type}{P:Program}{w:World}{T e:TypeId}{d:Kd α}{B:α→Prop}{fuel:Nat}(hT:P.underlying T=some (.slice e))(hc:P.cellsOf e=d.sz)(he:∀n,n<fuel→OpensF P w e d B n):
  OpensF P w T (Kd.slice e d) (fun l=>l.length≤9223372036854775807∧∀v∈l,B v) fuel:=by
 intro H enc base spare held cs x h
 rcases DataW.trod_slice hT h with⟨rfl,_⟩|⟨a,len,cap,elems,rest,n,hfu,rfl,rfl,hb,hl,hm,hlen,hel,_,_⟩
 ·exact⟨[],⟨none,0,rfl,Nat.le_refl _,⟨rfl,by simp,fun h0=>absurd h0 (by simp)⟩⟩,by simp,fun v hv=>by cases hv⟩
 ·obtain⟨l,hll,hp⟩:=list_choose (p:=fun i (v:α)=>B v∧∃c,d.K w v c∧∀j u,c[j]? =some u→w.cell? (a.add (i*d.sz+j))=some u) len (fun i hi=>by
   have hx:=hel i hi
   rw[List.getElem?_eq_getElem (by omega)]at hx
   obtain⟨cs',h1,h2⟩:=Option.bind_eq_some_iff.1 hx
   obtain⟨_,hlen',hcell⟩:=World.cells?_some h1
   obtain⟨v,hk,hB⟩:=he n (by omega) enc base spare held cs' _ h2
   refine⟨v,hB,cs',hk,fun j u hu=> ?_⟩
   have hj:j<P.cellsOf e:=by rw[←hlen'];exact(List.getElem?_eq_some_iff.1 hu).1
   have:=hcell j hj
   rw[Addr.add_add,hu,hc]at this
   exact this)
  have hmx':len≤9223372036854775807:=Nat.le_trans hl hm
  refine⟨l,⟨some a,cap,by rw[hll],by rw[hll];exact hl,⟨rfl,by rw[hll];exact hmx',fun _=>⟨a,rfl,fun j p hj=> ?_⟩⟩⟩,by rw[hll];exact hmx',fun v hv=> ?_⟩
  ·obtain⟨_,c,hk,hcc⟩:=hp j p hj
   exact⟨c,d.K_len hk,hk,hcc⟩
  ·obtain⟨i,hi⟩:=List.mem_iff_getElem?.1 hv
   exact(hp i v hi).1
theorem slice_value{α:Type}{P:Program}{w:World}{e:TypeId}{d:Kd α}{l:List α}{cs:List Value}(h:(Kd.slice e d).K w l cs):∃A c,cs=[.slice A l.length c]∧l.length≤c∧d.C w A l.length l:=h
end Go.Proofs.YtmojemogpelpnaaGreatDoor.Open
