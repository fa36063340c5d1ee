import Derived.Test.YtmojemogpelpnaaGreatDoorWWords
set_option linter.unusedVariables false
namespace Go.Proofs.YtmojemogpelpnaaGreatDoorW.PrintWords
open Go.RowKit
namespace Kd
section
variable{P:Program}{ops:Array Oper}{o:Oper}{a:Act}{Q:Exit→Act→World→Prop}{Kc:Act→World→Prop}
theorem R_conv_str_step{w0 W:World}(base:Nat)(hw:Region.wanted o (yielded ops a.tmps)=true)(src dst e:TypeId)(x:Operand){u:TypeDesc}
  (ho:o.op= .convert src dst x)(hs:P.underlying src=some u)(hd:P.underlying dst=some (.slice e))(he:P.underlying e=some (.int .u8))
  (y:ByteArray)(ok:Nat→Prop)(hx:a.eval x= .string y)(hfresh:∀k,W.heap.size≤k→ok k)(HO:(Kd.int .u8).R e W base ok (.slice none 0 0) [])(HB:Below base w0 W)(hbase:base≤W.heap.size)(hl:y.size≤140737488355328)
  (h:∀v1 w1,(Kd.int .u8).R e w1 base ok v1 (bytesOf y)→Below base w0 w1→W.grownBy w1 (Value.ownBlock (.slice none 0 0))→(v1.ownBlock=(Value.slice none 0 0).ownBlock∨∃b,v1.ownBlock=some b∧W.heap.size≤b)→Kc (a.put o.dst v1) w1):
  if Region.wanted o (yielded ops a.tmps)=true then Oper.wp P o a W Kc Q else Kc (a.put o.dst undef) W:=by
 have hrun:=Lib.run_convert_string_bytes (P:=P) W src dst e y hs hd he
 have hown:=ownsRowM_bytes W base e y (by simp only[maxLen];omega) hbase
 have hc:encs (Value.int IntKind.u8) (bytesOf y)=Lib.strCells y:=by simp[encs,bytesOf,Lib.strCells]
 have hg:=grownBy_bytes W e y none
 refine event_step hw (show(execOp a.eval o).run P W=_ from by unfold execOp;simp only[ho,Sem.run_bind,Sem.run_pure,Result.andThen_ok,hx,hrun];rfl) (h _ _ (R_of_own (by rw[bytesOf_length,hc];exact hown) (fun k hk=> ?_)) (HB.grown hg hbase (fun k hk=>by cases hk)) ⟨hg.os,hg.tape,hg.output,hg.size,fun k hk _=>hg.block k hk (by simp)⟩ (.inr ⟨W.heap.size,by simp[Value.ownBlock],Nat.le_refl _⟩))
 have:W.heap.size=k:=by simpa[Value.ownBlock]using hk
 subst this
 exact hfresh _ (Nat.le_refl _)
end
end Kd
end Go.Proofs.YtmojemogpelpnaaGreatDoorW.PrintWords
