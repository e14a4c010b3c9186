/- A row of one's own filled from its own head, run by run ('copy' of a row onto itself): what a run leaves. -/
import Derived.Test.YtaceidiookkocaaDel
namespace Go.Proofs.Ytaceidiookkocaa.Rep
open Go.RowKit Go.Proofs.YtaceidiookkocaaW.PrintWords Go.Proofs.YtaceidiookkocaaW.PrintLast Go.Proofs.YtaceidiookkocaaW.PrintMore
theorem below_sets {w:World} {g:Nat}:∀(vs:List Value) (j:Nat) {W:World},Below w.heap.size w W→w.heap.size≤g→Below w.heap.size w (W.setCells g j vs)
 | [],_,_,h,_=>h
 |_::vs,j,_,h,hg=>below_sets vs (j+1) (below_set h hg) hg
theorem fill {e base g n c:Nat} {ok:Nat→Prop} (v z:Int):∀(m i k:Nat) {W:World},Kd.R (Kd.int .i64) e W base ok (.slice (some ⟨g,0,none⟩) n c) (List.replicate i v++List.replicate (m+k) z)→
  Kd.R (Kd.int .i64) e (W.setCells g i (List.replicate m (.int .i64 v))) base ok (.slice (some ⟨g,0,none⟩) n c) (List.replicate (i+m) v++List.replicate k z)
 |0,i,k,W,h=>by simpa[World.setCells]using h
 |m+1,i,k,W,h=>by
  have h1:=Kd.R_putn h (i:Int) v
  rw[Int.toNat_natCast]at h1
  have e:(List.replicate i v++List.replicate (m+1+k) z).set i v=List.replicate (i+1) v++List.replicate (m+k) z:=by
   rw[List.set_append_right _ _ (by simp),List.length_replicate,Nat.sub_self,show m+1+k=(m+k)+1 by omega,List.replicate_succ,List.set_cons_zero,List.replicate_succ',List.append_assoc]
   rfl
  rw[e]at h1
  have h2:=fill v z m (i+1) k h1
  rw[show i+1+m=i+(m+1) by omega]at h2
  exact h2
theorem reads {e base g n c:Nat} {ok:Nat→Prop} {W:World} {xs:List Int} (h:Kd.R (Kd.int .i64) e W base ok (.slice (some ⟨g,0,none⟩) n c) xs) (j:Nat) (hj:j<n):W.cell? ⟨g,j,none⟩=some (.int .i64 (xs.getD j 0)):=by
 obtain⟨ad,ea,hc⟩:=Kd.at_int (Kd.R_reads' h).2.2 (j:Int) (by omega) (by have:=(Kd.R_reads' h).1;omega)
 cases ea
 rw[Int.toNat_natCast,add_at,Nat.zero_add]at hc
 rw[hc]
 simp[rd]
theorem run_copy {P:Program} (t e0:TypeId) (ht:P.underlying t=some (.slice e0)) (hs:(P.info? e0).map (·.size)=some 1) {e base g n c i m d1 d2:Nat} {ok:Nat→Prop} {W:World} (v z:Int) (k:Nat)
  (h:Kd.R (Kd.int .i64) e W base ok (.slice (some ⟨g,0,none⟩) n c) (List.replicate i v++List.replicate (m+k) z)) (A:Addr) (hA:A=⟨g,0,none⟩) (sl dl:Nat) (hm:Nat.min sl dl=m) (hmi:m≤i) (ty:TypeId):
  (Builtin.copy_ #[t,t] ty #[.slice (some ⟨g,i,none⟩) dl d1,.slice (some A) sl d2]).run P W=.ok (goInt m) (W.setCells g i (List.replicate m (.int .i64 v))):=by
 subst hA
 have hn:=(Kd.R_reads' h).1
 have hc:=(Kd.R_reads' h).2.1
 simp only[List.length_append,List.length_replicate]at hn
 have key:=run_copy_cells (P:=P) W t t ty e0 g i dl d1 ⟨g,0,none⟩ sl d2 (List.replicate m (.int .i64 v)) ht hs (by rw[List.length_replicate];exact hm.symm) (fun j u hu=>by
   rw[List.getElem?_replicate]at hu
   split at hu
   ·rename_i hj
    have r:=reads h j (by omega)
    have e1:(List.replicate i v++List.replicate (m+k) z).getD j 0=v:=by
     rw[List.getD,List.getElem?_append_left (by simp;omega),List.getElem?_replicate,if_pos (by omega)]
     rfl
    rw[e1]at r
    rw[add_at,Nat.zero_add,r,←hu]
   ·cases hu) (fun j hj=>(Del.room h (i+j) (by rw[List.length_replicate]at hj;show i+j<c * 1;omega)).1) (fun j hj=>(Del.room h (i+j) (by rw[List.length_replicate]at hj;show i+j<c * 1;omega)).2) (fun u hu=>by
   rw[List.eq_of_mem_replicate hu]
   rfl)
 rw[List.length_replicate]at key
 exact key
theorem run_copy_in {P:Program} (t e0:TypeId) (ht:P.underlying t=some (.slice e0)) (hs:(P.info? e0).map (·.size)=some 1) {e base g n c:Nat} {ok:Nat→Prop} {W:World} (v z:Int) (k:Nat)
  (h:Kd.R (Kd.int .i64) e W base ok (.slice (some ⟨g,0,none⟩) n c) (List.replicate 0 v++List.replicate (1+k) z)) (A:Addr) (hA:W.cell? A=some (.int .i64 v)) (c2:Nat) (ty:TypeId):
  (Builtin.copy_ #[t,t] ty #[.slice (some ⟨g,0,none⟩) n c,.slice (some A) 1 c2]).run P W=.ok (goInt 1) (W.setCells g 0 (List.replicate 1 (.int .i64 v))):=by
 have hn:=(Kd.R_reads' h).1
 have hc:=(Kd.R_reads' h).2.1
 simp only[List.length_append,List.length_replicate]at hn
 have hmin:(List.replicate 1 (Value.int .i64 v)).length=Nat.min 1 n:=by
  rw[List.length_replicate]
  exact(Nat.min_eq_left (by omega)).symm
 have key:=run_copy_cells (P:=P) W t t ty e0 g 0 n c A 1 c2 (List.replicate 1 (.int .i64 v)) ht hs hmin (fun j u hu=>by
   rw[List.getElem?_replicate]at hu
   split at hu
   ·rename_i hj
    obtain rfl:j=0:=by omega
    cases hu
    have e2:A.add 0=A:=by simp[Addr.add]
    rw[e2]
    exact hA
   ·cases hu) (fun j hj=>(Del.room h (0+j) (by rw[List.length_replicate]at hj;show 0+j<c * 1;omega)).1) (fun j hj=>(Del.room h (0+j) (by rw[List.length_replicate]at hj;show 0+j<c * 1;omega)).2) (fun u hu=>by
   rw[List.eq_of_mem_replicate hu]
   rfl)
 exact key
section
variable {P:Program} {ops:Array Oper} {o:Oper} {a:Act} {Q:Exit→Act→World→Prop} {Kc:Act→World→Prop}
theorem copy_step {W W1:World} (hw:Region.wanted o (yielded ops a.tmps)=true) (x y:Operand) (t:TypeId) (ho:o.op=.call { callee:=.builtin .copy,args:= #[x,y],argTypes:= #[t,t] }) (v1 v2:Value) (hx:a.eval x=v1) (hy:a.eval y=v2) {v:Value}
  (hr:∀ty,(Builtin.copy_ #[t,t] ty #[v1,v2]).run P W=.ok v W1) (h:Kc (a.put o.dst v) W1):if Region.wanted o (yielded ops a.tmps)=true then Oper.wp P o a W Kc Q else Kc (a.put o.dst undef) W:=by
 rw[if_pos hw]
 unfold Oper.wp execOp
 simp only[ho,resolve,invoke,builtin,Sem.run_bind,Sem.run_pure,Result.andThen_ok,List.map_toArray,List.map_cons,List.map_nil,hx,hy,hr]
 exact h
theorem cut_rest (t e:TypeId) {i:TypeInfo} (ht:P.underlying t=some (.slice e)) (hi:P.info? e=some i) (hsz:i.size=1) (g n c j:Nat) (h1:j<n) (h2:n≤c):
  ∀W:World,(Instr.slice t (.slice (some ⟨g,0,none⟩) n c) (some (.int .i64 (j:Int))) none none).run P W=.ok (.slice (some ⟨g,j,none⟩) (n - j) (c - j)) W:=by
 intro W
 have hel:P.elem t=e:=by simp[Program.elem,ht]
 have hu:P.underlying t=some (.slice (P.elem t)):=by rw[hel];exact ht
 rw[run_slice_l W t _ n c hu .i64 j (by omega) (by omega),hel]
 have hne:¬c=j:=by omega
 have e2:((j:Int).toNat)=j:=Int.toNat_natCast j
 rw[e2]
 simp[sizeOf,typeInfo,hi,hsz,sliced,Result.andThen,hne,Addr.add]
 intro h;exact h.symm
end
end Go.Proofs.Ytaceidiookkocaa.Rep
