/- A row of one's own filled from its own head, run by run ('copy' of a row onto itself): what a run leaves. -/
import Derived.Test.YtgdnlmfoghpeoaaGreatDoorDel
namespace Go.Proofs.YtgdnlmfoghpeoaaGreatDoor.Rep
open Go.RowKit Go.Proofs.YtgdnlmfoghpeoaaGreatDoorW.PrintWords Go.Proofs.YtgdnlmfoghpeoaaGreatDoorW.PrintLast Go.Proofs.YtgdnlmfoghpeoaaGreatDoorW.PrintMore
theorem fill {e base g n c:Nat} {ok:Nat→Prop} (v z:Int):∀(m i k:Nat) {W:World},Kd.R (Kd.int .i64) e W base ok (.slice (some ⟨g,0,none⟩) n c) (List.replicate i v++List.replicate (m+k) z)→
  Kd.R (Kd.int .i64) e (W.setCells g i (List.replicate m (.int .i64 v))) base ok (.slice (some ⟨g,0,none⟩) n c) (List.replicate (i+m) v++List.replicate k z)
 |0,i,k,W,h=>by simpa[World.setCells]using h
 |m+1,i,k,W,h=>by
  have h1:=Kd.R_putn h (i:Int) v
  rw[Int.toNat_natCast]at h1
  have e:(List.replicate i v++List.replicate (m+1+k) z).set i v=List.replicate (i+1) v++List.replicate (m+k) z:=by
   rw[List.set_append_right _ _ (by simp),List.length_replicate,Nat.sub_self,show m+1+k=(m+k)+1 by omega,List.replicate_succ,List.set_cons_zero,List.replicate_succ',List.append_assoc]
   rfl
  rw[e]at h1
  have h2:=fill v z m (i+1) k h1
  rw[show i+1+m=i+(m+1) by omega]at h2
  exact h2
theorem reads {e base g n c:Nat} {ok:Nat→Prop} {W:World} {xs:List Int} (h:Kd.R (Kd.int .i64) e W base ok (.slice (some ⟨g,0,none⟩) n c) xs) (j:Nat) (hj:j<n):W.cell? ⟨g,j,none⟩=some (.int .i64 (xs.getD j 0)):=by
 obtain⟨ad,ea,hc⟩:=Kd.at_int (Kd.R_reads' h).2.2 (j:Int) (by omega) (by have:=(Kd.R_reads' h).1;omega)
 cases ea
 rw[Int.toNat_natCast,add_at,Nat.zero_add]at hc
 rw[hc]
 simp[rd]
section
variable {P:Program} {ops:Array Oper} {o:Oper} {a:Act} {Q:Exit→Act→World→Prop} {Kc:Act→World→Prop}
end
end Go.Proofs.YtgdnlmfoghpeoaaGreatDoor.Rep
