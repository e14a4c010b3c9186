/- Small facts that the contracts given by hand use: a row that is read at nil is empty; a call through a variable that holds a function. -/
import Derived.Test.YtgdnlmfoghpeoaaGreatDoorWWords
import Derived.Test.YtgdnlmfoghpeoaaGreatDoorWLast
import Derived.Test.YtgdnlmfoghpeoaaGreatDoorWMore
import Derived.Lib.LazyBuf
namespace Go.Proofs.YtgdnlmfoghpeoaaGreatDoor.Ext
open Go.RowKit Go.Proofs.YtgdnlmfoghpeoaaGreatDoorW.PrintWords Go.Proofs.YtgdnlmfoghpeoaaGreatDoorW.PrintLast
theorem nil_of_C {α:Type} {d:Kd α} {w:World} {n:Nat} {xs:List α} (h:Kd.C d w none n xs):xs= []:=by
 rcases Nat.eq_zero_or_pos n with h0|h0
 ·exact List.eq_nil_of_length_eq_zero (h.1.trans h0)
 ·obtain⟨ad,he,_⟩:=h.2.2 h0
  cases he
theorem Q_reok {α:Type} {d:Kd α} {e:Nat} {W:World} {base:Nat} {ok1 ok:Nat→Prop} {v:Value} {xs:List α} (hE:d.E= []) (h:Kd.Q d e W base ok1 v xs) (hok:∀k,v.ownBlock=some k→ok k):Kd.Q d e W base ok v xs:=Kd.Q_mono (Kd.Q_tight hE h) (fun k hk=>hok k hk.symm)
section
variable {P:Program} {ops:Array Oper} {o:Oper} {rest:List Oper} {Q:Exit→Act→World→Prop} {a:Act} {W:World}
theorem gate_tmp {t:Tmp} {as:Array Operand} {ts:Array TypeId} (_ho:o.op=.call { callee:=.value (.tmp t),args:=as,argTypes:=ts }) (h:wpList P ops Q (o::rest) a W):wpList P ops Q (o::rest) a W:=h
theorem goesC_ {t:Tmp} {f:FuncId} {fn:Func} {ts:Array TypeId} {c:Value} (N:Option Tmp) (hd:o.dst=N) (hg:o.guard=none) (hf:P.funcs[f]? =some fn) (hname:(fn.name== "runtime.NumGoroutine")=false) (hb:fn.body.isSome=true) (x:Value) (y:Operand)
  (hop:o.op=.call { callee:=.value (.tmp t),args:= #[y],argTypes:=ts }) (hv:a.eval (.tmp t)=.func (.func f) #[] #[c]) (hargs:a.eval y=x)
  (h:Calls P f #[x,c] W fun e w'=>∃v,e=.returned v∧wpList P ops Q rest (a.put N v) w'):wpList P ops Q (o::rest) a W:=by
 refine wpList_plain hg fun K hK=> ?_
 have he:=enters_ hf hname hb #[x,c] W
 have hrun:(execOp a.eval o).run P W=.ok (.enter f #[x,c]) W:=by
  unfold execOp
  simp only[hop,resolve,hv]
  simp[Deferred.ofValue,invoke,hargs,he]
 unfold Oper.wp
 rw[hrun,Oper.upon_enter]
 refine h.mono fun e w'' hh=> ?_
 obtain⟨v,rfl,hk⟩:=hh
 subst hd
 exact hK _ _ hk
end
end Go.Proofs.YtgdnlmfoghpeoaaGreatDoor.Ext
