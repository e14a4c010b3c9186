/- Small facts that the contracts given by hand use: a row that is read at nil is empty; a call through a variable that holds a function. -/
import Derived.Test.YtaceidiookkocaaWWords
import Derived.Test.YtaceidiookkocaaWLast
import Derived.Test.YtaceidiookkocaaWMore
import Derived.Lib.LazyBuf
namespace Go.Proofs.Ytaceidiookkocaa.Ext
open Go.RowKit Go.Proofs.YtaceidiookkocaaW.PrintWords Go.Proofs.YtaceidiookkocaaW.PrintLast
theorem nil_of_C {α:Type} {d:Kd α} {w:World} {n:Nat} {xs:List α} (h:Kd.C d w none n xs):xs= []:=by
 rcases Nat.eq_zero_or_pos n with h0|h0
 ·exact List.eq_nil_of_length_eq_zero (h.1.trans h0)
 ·obtain⟨ad,he,_⟩:=h.2.2 h0
  cases he
section
variable {P:Program} {ops:Array Oper} {o:Oper} {rest:List Oper} {Q:Exit→Act→World→Prop} {a:Act} {W:World}
theorem gate_tmp {t:Tmp} {as:Array Operand} {ts:Array TypeId} (_ho:o.op=.call { callee:=.value (.tmp t),args:=as,argTypes:=ts }) (h:wpList P ops Q (o::rest) a W):wpList P ops Q (o::rest) a W:=h
theorem goesT_ {t:Tmp} {f:FuncId} {fn:Func} {as:Array Operand} {ts:Array TypeId} (N:Option Tmp) (hd:o.dst=N) (hg:o.guard=none) (hf:P.funcs[f]? =some fn) (hname:(fn.name== "runtime.NumGoroutine")=false) (hb:fn.body.isSome=true) (args:Array Value)
  (hop:o.op=.call { callee:=.value (.tmp t),args:=as,argTypes:=ts }) (hv:a.eval (.tmp t)=.func (.func f) #[] #[]) (hargs:as.map a.eval=args)
  (h:Calls P f args W fun e w'=>∃v,e=.returned v∧wpList P ops Q rest (a.put N v) w'):wpList P ops Q (o::rest) a W:=by
 refine wpList_plain hg fun K hK=> ?_
 have he:=enters_ hf hname hb args W
 have hrun:(execOp a.eval o).run P W=.ok (.enter f args) W:=by
  unfold execOp
  simp only[hop,resolve,hv]
  simp[Deferred.ofValue,invoke,hargs,he]
 unfold Oper.wp
 rw[hrun,Oper.upon_enter]
 refine h.mono fun e w'' hh=> ?_
 obtain⟨v,rfl,hk⟩:=hh
 subst hd
 exact hK _ _ hk
end
end Go.Proofs.Ytaceidiookkocaa.Ext
