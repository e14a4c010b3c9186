/- The pure part of FnExactParseAct: over numbers and lists alone. No condition beyond the numbers' own kinds. -/
import Derived.Test.YtgdnlmfoghpeoaaDoorQFnExactParseAct3
import Derived.Test.YtgdnlmfoghpeoaaDoorLoops
import Derived.Test.YtgdnlmfoghpeoaaDoorJn
import Derived.Lib.ItoaLen
import Derived.Lib.Join
import Derived.Lib.SplitLaws
namespace Go.Proofs.YtgdnlmfoghpeoaaDoor.Pure
open Go.RowKit Go.Proofs.YtgdnlmfoghpeoaaDoor.PFnExactParseAct Go.Proofs.YtgdnlmfoghpeoaaDoorW.PrintWords Go.Proofs.YtgdnlmfoghpeoaaDoorW.PrintLast Go.Proofs.YtgdnlmfoghpeoaaDoorW.PrintMore
set_option linter.unusedVariables false
set_option linter.unusedSimpArgs false
theorem within_eq (a b c:Int):impl_within.f a b c=some (decide (b≤a∧a≤c)):=by
  unfold impl_within.f
  by_cases h:a ≥ b
  · rw[if_pos h];congr 1;simp;omega
  · rw[if_neg h];congr 1;simp;omega
theorem in_eq (a b c:Int):spec_l01In.f a b c=some (decide (b≤a∧a≤c)):=by
  unfold spec_l01In.f
  by_cases h:a ≥ b
  · rw[if_pos h];congr 1;simp;omega
  · rw[if_neg h];congr 1;simp;omega
def jok (i p c r:Int):Bool:=decide (1≤i∧i≤9999) && (decide (1≤p∧p≤64) && (decide (1≤c∧c≤20) && decide (0≤r∧r≤9)))
theorem ijok_eq (i p c:Int) (d:Bool) (r:Int) (h:Bool):impl_JobOk.f i p c d r h=some (jok i p c r):=by
  unfold impl_JobOk.f jok
  simp only[within_eq,Option.bind_some]
  cases decide (1≤i∧i≤9999)<;>cases decide (1≤p∧p≤64)<;>cases decide (1≤c∧c≤20)<;>simp
theorem sjok_eq (i p c:Int) (d:Bool) (r:Int) (h:Bool):spec_JobOk.f i p c d r h=some (jok i p c r):=by
  unfold spec_JobOk.f jok
  simp only[in_eq,Option.bind_some]
  cases decide (1≤i∧i≤9999)<;>cases decide (1≤p∧p≤64)<;>cases decide (1≤c∧c≤20)<;>simp
def aok (k a b c:Int):Bool:=if k=1 then jok a b 1 c else if k=2∨k=4 then decide (a=0∧b=0∧c=0) else if k=3 then decide ((1≤a∧a≤5)∧b=0∧c=0) else if k=5 then decide ((1≤a∧a≤9999)∧b=0∧c=0) else false
theorem zero3 (a b c:Int):(if a=0 then(if b=0 then(some (c==0)) else some false) else some false)=some (decide (a=0∧b=0∧c=0)):=by
  by_cases h:a=0<;>by_cases h2:b=0<;>by_cases h3:c=0<;>simp[h,h2,h3]
theorem zero2 (p:Prop) [Decidable p] (b c:Int):(if decide p=true then(if b=0 then(some (c==0)) else some false) else some false)=some (decide (p∧b=0∧c=0)):=by
  by_cases h:p<;>by_cases h2:b=0<;>by_cases h3:c=0<;>simp[h,h2,h3]
theorem iaok_eq (K a b c:Int):Ev (fun k=>impl_ActOk.f k K a b c) (aok K a b c):=by
  unfold impl_ActOk.f aok
  by_cases h1:K=1
  · simp only[if_pos h1,impl_jobOf.f,ijok_eq,Option.bind_some]
    exact Ev.now _
  simp only[if_neg h1]
  by_cases h2:K=2
  · simp only[if_pos h2,h2,true_or,if_true]
    exact Loops.Ev.one (fun k=>by simp only[impl_ActOk.j0,beq_self_eq_true,if_true,zero3])
  simp only[if_neg h2]
  by_cases h4:K=4
  · simp only[h4,or_true,if_true]
    exact Loops.Ev.one (fun k=>by simp only[impl_ActOk.j0,beq_self_eq_true,if_true,zero3])
  rw[if_neg (show ¬(K=2∨K=4) by omega)]
  refine Loops.Ev.one (fun k=> ?_)
  simp only[impl_ActOk.j0]
  rw[if_neg (by simp[h4])]
  by_cases h3:K=3
  · simp only[if_pos h3,within_eq,Option.bind_some,zero2]
  simp only[if_neg h3]
  by_cases h5:K=5
  · simp only[if_pos h5,within_eq,Option.bind_some,zero2]
  · simp only[if_neg h5]
theorem saok_eq (K a b c:Int):Ev (fun k=>spec_ActOk.f k K a b c) (aok K a b c):=by
  unfold spec_ActOk.f aok
  by_cases h1:K=1
  · simp only[if_pos h1,spec_l39Job.f,sjok_eq,Option.bind_some]
    exact Ev.now _
  simp only[if_neg h1]
  by_cases h3:K=3
  · simp only[if_pos h3,if_neg (show ¬(K=2∨K=4) by omega),in_eq,Option.bind_some,zero2]
    exact Ev.now _
  simp only[if_neg h3]
  by_cases h2:K=2
  · simp only[if_pos h2,h2,true_or,if_true]
    exact Loops.Ev.one (fun k=>by simp only[spec_ActOk.j0,beq_self_eq_true,if_true,zero3])
  simp only[if_neg h2]
  by_cases h4:K=4
  · simp only[h4,or_true,if_true]
    exact Loops.Ev.one (fun k=>by simp only[spec_ActOk.j0,beq_self_eq_true,if_true,zero3])
  rw[if_neg (show ¬(K=2∨K=4) by omega)]
  refine Loops.Ev.one (fun k=> ?_)
  simp only[spec_ActOk.j0]
  rw[if_neg (by simp[h4])]
  by_cases h5:K=5
  · simp only[if_pos h5,in_eq,Option.bind_some,zero2]
  · simp only[if_neg h5]
def I (n:Int):ByteArray:=⟨(Lib.itoa n).toArray⟩
theorem I_size (n:Int) (h0: -9223372036854775808≤n) (h1:n≤9223372036854775807):(I n).size≤21:=by
  have:=Lib.itoa_length_le n h0 h1
  show(Lib.itoa n).toArray.size≤21
  simpa using this
def dg0 (u:Nat):List UInt8:=if u=0 then [] else Lib.decDigits u
theorem dg0_step (u:Nat) (h:0<u):dg0 u=dg0 (u / 10)++ [UInt8.ofNat (48+u % 10)]:=by
  unfold dg0
  rw[if_neg (by omega),Lib.decDigits]
  by_cases h1:u<10
  · rw[dif_pos h1,if_pos (by omega),Nat.mod_eq_of_lt h1];rfl
  · rw[dif_neg h1,if_neg (by omega)]
theorem ba_nil (s:ByteArray):(⟨([]:List UInt8).toArray⟩:ByteArray)++s=s:=by
  apply ByteArray.ext;simp[ByteArray.data_append]
theorem ba_app (xs ys:List UInt8) (s:ByteArray):(⟨xs.toArray⟩:ByteArray)++((⟨ys.toArray⟩:ByteArray)++s)=(⟨(xs++ys).toArray⟩:ByteArray)++s:=by
  apply ByteArray.ext
  simp only[ByteArray.data_append]
  rw[←Array.append_assoc]
  simp
theorem sfig (d:Nat) (h:d<10):spec_l01Figure.f (d:Int)=some ((48+d:Nat):Int):=by
  unfold spec_l01Figure.f
  rw[if_pos (by omega),IntWalk.wrap64_in _ (by omega)]
  congr 1
  omega
theorem sfmt_loop:∀(u:Nat) (s:ByteArray),s.size+u≤9223372036854775807→Ev (fun k=>spec_FormatInt.l0 k (u:Int) false s) ((⟨(dg0 u).toArray⟩:ByteArray)++s):=by
  intro u
  induction u using Nat.strongRecOn with
  |_ u ih=>
    intro s hs
    by_cases h0:u=0
    · subst h0
      refine Loops.Ev.one (fun k=> ?_)
      simp only[spec_FormatInt.l0]
      rw[if_pos (by rfl),if_neg (by simp)]
      simp only[dg0,if_true,ba_nil]
    · have hm:Int.tmod (u:Int) 10=((u % 10:Nat):Int):=by rw[Int.tmod_eq_emod_of_nonneg (by omega)];omega
      have hd:Int.tdiv (u:Int) 10=((u / 10:Nat):Int):=by rw[Int.tdiv_eq_ediv_of_nonneg (by omega)];omega
      have hst:strOfNums [((48+u % 10:Nat):Int)]=(⟨[UInt8.ofNat (48+u % 10)].toArray⟩:ByteArray):=by unfold strOfNums;rw[List.map_cons,List.map_nil,Int.toNat_natCast]
      refine Ev.step (f:=fun k=>spec_FormatInt.l0 k ((u / 10:Nat):Int) false ((⟨[UInt8.ofNat (48+u % 10)].toArray⟩:ByteArray)++s)) (fun k=> ?_) ?_
      · simp only[spec_FormatInt.l0]
        rw[if_neg (by omega),hm,if_neg (by omega),sfig _ (Nat.mod_lt _ (by decide))]
        simp only[Option.bind_some,hst,hd]
        rw[if_pos (by show 1+s.size≤_;omega),IntWalk.wrap64_in _ (by omega)]
      · refine Loops.Ev.eq (ih (u / 10) (by omega) _ ?_) ?_
        · rw[ByteArray.size_append]
          show 1+s.size+u / 10≤_
          omega
        · rw[ba_app,←dg0_step u (by omega)]
theorem sfmt_eq (n:Int) (h0:0≤n) (h1:n≤9223372036854775807):Ev (fun k=>spec_FormatInt.f k n) (I n):=by
  unfold spec_FormatInt.f
  obtain⟨u,rfl⟩:∃u:Nat,n=u:=⟨n.toNat,by omega⟩
  by_cases hz:u=0
  · subst hz
    refine Loops.Ev.const ?_
    try rw[if_pos rfl]
    have e0:Lib.itoa 0= [48]:=by
      have h:=Lib.itoa_nonneg 0
      rw[Lib.decDigits,dif_pos (by decide)]at h
      exact h
    simp[I,e0]
  · have hf:decide ((u:Int)<0)=false:=decide_eq_false (by omega)
    simp only[if_neg (show ¬((u:Int)=0) by omega),hf]
    refine Loops.Ev.eq (sfmt_loop u ⟨#[]⟩ (by show 0+u≤_;omega)) ?_
    apply ByteArray.ext
    simp[I,Lib.itoa_nonneg,dg0,hz,ByteArray.data_append]
theorem ifmt_eq (n:Int) (h0: -9223372036854775808≤n) (h1:n≤9223372036854775807):impl_FormatInt.f n=some (I n):=by
  have e:∀x:Option ByteArray,(x.bind fun t=>some t)=x:=fun x=>by cases x<;>rfl
  unfold impl_FormatInt.f
  rw[e]
  first|(unfold strconv_Itoa.f;rw[if_pos h0,if_pos h1];rfl)|(unfold strconv_Itoa_43.f;rw[if_pos h0,if_pos h1];rfl)|(unfold strconv_Itoa_35.f;rw[if_pos h0,if_pos h1];rfl)
def fa (K a b c:Int):ByteArray×Bool:=if aok K a b c=true then((if K=1 then(⟨#[97,100,100,32]⟩:ByteArray)++I a++(⟨#[32]⟩:ByteArray)++I b++(⟨#[32]⟩:ByteArray)++I c else if K=2 then(⟨#[116,97,107,101]⟩:ByteArray) else if K=3 then(⟨#[108,105,110,101,32]⟩:ByteArray)++I a else if K=4 then(⟨#[102,105,110,105,115,104]⟩:ByteArray) else(⟨#[114,101,108,101,97,115,101,32]⟩:ByteArray)++I a),true) else((⟨#[]⟩:ByteArray),false)
theorem aok_in {K a b c:Int} (h:aok K a b c=true):(K=1∨K=2∨K=3∨K=4∨K=5)∧(0≤a∧a≤9999)∧(0≤b∧b≤9999)∧(0≤c∧c≤9999):=by
  unfold aok at h
  by_cases h1:K=1
  · rw[if_pos h1]at h
    unfold jok at h
    simp only[decide_eq_true_eq,Bool.and_eq_true]at h
    omega
  rw[if_neg h1]at h
  by_cases h2:K=2∨K=4
  · rw[if_pos h2]at h
    simp only[decide_eq_true_eq]at h
    omega
  rw[if_neg h2]at h
  by_cases h3:K=3
  · rw[if_pos h3]at h
    simp only[decide_eq_true_eq]at h
    omega
  rw[if_neg h3]at h
  by_cases h5:K=5
  · rw[if_pos h5]at h
    simp only[decide_eq_true_eq]at h
    omega
  rw[if_neg h5]at h
  cases h
theorem ifa_eq (K a b c:Int):Ev (fun k=>impl_FormatAct.f k K a b c) (fa K a b c):=by
  unfold impl_FormatAct.f
  refine Ev.bind (iaok_eq K a b c) ?_
  unfold fa
  by_cases hk:aok K a b c=true
  · simp only[if_pos hk]
    obtain⟨hK,ha,hb,hc⟩:=aok_in hk
    have sa:=I_size a (by omega) (by omega)
    have sb:=I_size b (by omega) (by omega)
    have sc:=I_size c (by omega) (by omega)
    simp only[ifmt_eq a (by omega) (by omega),ifmt_eq b (by omega) (by omega),ifmt_eq c (by omega) (by omega),Option.bind_some]
    refine Loops.Ev.const ?_
    have z4:(⟨#[97,100,100,32]⟩:ByteArray).size=4:=rfl
    have z1:(⟨#[32]⟩:ByteArray).size=1:=rfl
    by_cases h1:K=1
    · simp only[if_pos h1,ByteArray.size_append,z4,z1]
      rw[if_pos (by omega),if_pos (by omega),if_pos (by omega),if_pos (by omega),if_pos (by omega)]
    simp only[if_neg h1]
    by_cases h2:K=2
    · simp only[if_pos h2]
    simp only[if_neg h2]
    by_cases h3:K=3
    · simp only[if_pos h3]
      rw[if_pos (by omega)]
    simp only[if_neg h3]
    by_cases h4:K=4
    · simp only[if_pos h4]
    simp only[if_neg h4]
    rw[if_pos (by omega)]
  · simp only[if_neg hk]
    exact Ev.now _
theorem sfa_eq (K a b c:Int):Ev (fun k=>spec_FormatAct.f k K a b c) (fa K a b c):=by
  unfold spec_FormatAct.f
  refine Ev.bind (saok_eq K a b c) ?_
  unfold fa
  by_cases hk:aok K a b c=true
  · simp only[if_pos hk,Option.bind_some]
    obtain⟨hK,ha,hb,hc⟩:=aok_in hk
    have sa:=I_size a (by omega) (by omega)
    have sb:=I_size b (by omega) (by omega)
    have sc:=I_size c (by omega) (by omega)
    have z1:(⟨#[32]⟩:ByteArray).size=1:=rfl
    have fA:=sfmt_eq a (by omega) (by omega)
    have fB:=sfmt_eq b (by omega) (by omega)
    have fC:=sfmt_eq c (by omega) (by omega)
    simp only[if_pos (show 0≤K by omega),if_pos (show K<(([(⟨#[]⟩:ByteArray),(⟨#[97,100,100]⟩:ByteArray),(⟨#[116,97,107,101]⟩:ByteArray),(⟨#[108,105,110,101]⟩:ByteArray),(⟨#[102,105,110,105,115,104]⟩:ByteArray),(⟨#[114,101,108,101,97,115,101]⟩:ByteArray)]:List ByteArray).length:Int) by simp only[List.length_cons,List.length_nil];omega)]
    rcases hK with rfl|rfl|rfl|rfl|rfl
    · have e1:rdOf ByteArray.empty [(⟨#[]⟩:ByteArray),(⟨#[97,100,100]⟩:ByteArray),(⟨#[116,97,107,101]⟩:ByteArray),(⟨#[108,105,110,101]⟩:ByteArray),(⟨#[102,105,110,105,115,104]⟩:ByteArray),(⟨#[114,101,108,101,97,115,101]⟩:ByteArray)] 1=(⟨#[97,100,100]⟩:ByteArray):=rfl
      have e2:(⟨#[97,100,100]⟩:ByteArray)++(⟨#[32]⟩:ByteArray)=(⟨#[97,100,100,32]⟩:ByteArray):=rfl
      have z3:(⟨#[97,100,100]⟩:ByteArray).size=3:=rfl
      simp only[if_true,e1,z3,ByteArray.size_append,z1]
      simp only[if_pos (show 3+1≤9223372036854775807 by omega)]
      refine Ev.bind fA ?_
      simp only[if_pos (show 3+1+(I a).size≤9223372036854775807 by omega),if_pos (show 3+1+(I a).size+1≤9223372036854775807 by omega)]
      refine Ev.bind fB ?_
      simp only[if_pos (show 3+1+(I a).size+1+(I b).size≤9223372036854775807 by omega),if_pos (show 3+1+(I a).size+1+(I b).size+1≤9223372036854775807 by omega)]
      refine Ev.bind fC ?_
      simp only[if_pos (show 3+1+(I a).size+1+(I b).size+1+(I c).size≤9223372036854775807 by omega),e2]
      exact Ev.now _
    · exact Ev.now _
    · have e1:rdOf ByteArray.empty [(⟨#[]⟩:ByteArray),(⟨#[97,100,100]⟩:ByteArray),(⟨#[116,97,107,101]⟩:ByteArray),(⟨#[108,105,110,101]⟩:ByteArray),(⟨#[102,105,110,105,115,104]⟩:ByteArray),(⟨#[114,101,108,101,97,115,101]⟩:ByteArray)] 3=(⟨#[108,105,110,101]⟩:ByteArray):=rfl
      have e2:(⟨#[108,105,110,101]⟩:ByteArray)++(⟨#[32]⟩:ByteArray)=(⟨#[108,105,110,101,32]⟩:ByteArray):=rfl
      have z3:(⟨#[108,105,110,101]⟩:ByteArray).size=4:=rfl
      simp only[if_neg (show ¬((3:Int)=1) by omega),if_neg (show ¬((3:Int)=2) by omega),if_true,e1,z3,ByteArray.size_append,z1]
      simp only[if_pos (show 4+1≤9223372036854775807 by omega)]
      refine Ev.bind fA ?_
      simp only[if_pos (show 4+1+(I a).size≤9223372036854775807 by omega),e2]
      exact Ev.now _
    · exact Ev.now _
    · have e1:rdOf ByteArray.empty [(⟨#[]⟩:ByteArray),(⟨#[97,100,100]⟩:ByteArray),(⟨#[116,97,107,101]⟩:ByteArray),(⟨#[108,105,110,101]⟩:ByteArray),(⟨#[102,105,110,105,115,104]⟩:ByteArray),(⟨#[114,101,108,101,97,115,101]⟩:ByteArray)] 5=(⟨#[114,101,108,101,97,115,101]⟩:ByteArray):=rfl
      have e2:(⟨#[114,101,108,101,97,115,101]⟩:ByteArray)++(⟨#[32]⟩:ByteArray)=(⟨#[114,101,108,101,97,115,101,32]⟩:ByteArray):=rfl
      have z3:(⟨#[114,101,108,101,97,115,101]⟩:ByteArray).size=7:=rfl
      simp only[if_neg (show ¬((5:Int)=1) by omega),if_neg (show ¬((5:Int)=2) by omega),if_neg (show ¬((5:Int)=3) by omega),if_neg (show ¬((5:Int)=4) by omega),if_true,e1,z3,ByteArray.size_append,z1]
      simp only[if_pos (show 7+1≤9223372036854775807 by omega)]
      refine Ev.bind fA ?_
      simp only[if_pos (show 7+1+(I a).size≤9223372036854775807 by omega),e2]
      exact Ev.now _
  · simp only[if_neg hk]
    exact Ev.now _
def pcs:List UInt8→List (List UInt8)
  | []=> [[]]
  |c::r=>if c=32 then []::pcs r else(match pcs r with| []=> [[c]]|p::ps=>(c::p)::ps)
def go:List UInt8→List UInt8→List (List UInt8)
  |cur,[]=>if cur= [] then [] else [cur]
  |cur,c::r=>if c=32 then(if cur= [] then go [] r else cur::go [] r) else go (cur++ [c]) r
def jn:List (List UInt8)→List UInt8
  | []=> []
  | [x]=>x
  |x::y::r=>x++32::jn (y::r)
def nes (l:List (List UInt8)):List (List UInt8):=l.filter fun x=>decide (x≠ [])
theorem pcs_cons (s:List UInt8):∃p ps,pcs s=p::ps:=by
  cases s with
  |nil=>exact⟨_,_,rfl⟩
  |cons c r=>
    unfold pcs
    split
    · exact⟨_,_,rfl⟩
    · cases pcs r with
      |nil=>exact⟨_,_,rfl⟩
      |cons p ps=>exact⟨_,_,rfl⟩
theorem go_pcs:∀(r cur:List UInt8) (p:List UInt8) (ps:List (List UInt8)),pcs r=p::ps→go cur r=nes ((cur++p)::ps)
  | [],cur,p,ps,h=>by
    simp only[pcs,List.cons.injEq]at h
    obtain⟨rfl,rfl⟩:=h
    by_cases hc:cur= []<;>simp[go,nes,hc]
  |c::r,cur,p,ps,h=>by
    obtain⟨q,qs,hq⟩:=pcs_cons r
    unfold pcs at h
    by_cases hc:c=32
    · rw[if_pos hc]at h
      simp only[List.cons.injEq]at h
      obtain⟨rfl,rfl⟩:=h
      have ih:=go_pcs r [] q qs hq
      unfold go
      rw[if_pos hc,ih,hq]
      by_cases hcur:cur= []<;>simp[nes,hcur]
    · rw[if_neg hc,hq]at h
      simp only[List.cons.injEq]at h
      obtain⟨rfl,rfl⟩:=h
      unfold go
      rw[if_neg hc,go_pcs r (cur++ [c]) q qs hq]
      simp[List.append_assoc]
theorem go_nil_pcs (s:List UInt8):go [] s=nes (pcs s):=by
  obtain⟨p,ps,h⟩:=pcs_cons s
  rw[go_pcs s [] p ps h,h];rfl
theorem pcs_none:∀s:List UInt8,(32:UInt8) ∉ s→pcs s= [s]
  | [],_=>rfl
  |c::r,h=>by
    simp only[List.mem_cons,not_or]at h
    unfold pcs
    rw[if_neg (fun e=>h.1 e.symm),pcs_none r h.2]
theorem pcs_hit:∀p r:List UInt8,(32:UInt8) ∉ p→pcs (p++32::r)=p::pcs r
  | [],r,_=>by simp[pcs]
  |c::p,r,h=>by
    simp only[List.mem_cons,not_or]at h
    rw[List.cons_append,pcs,if_neg (fun e=>h.1 e.symm),pcs_hit p r h.2]
theorem occ_none (s:List UInt8) (h:(32:UInt8) ∉ s) (j:Nat):Lib.occAt s [32] j=false:=by
  cases hb:Lib.occAt s [32] j with
  |false=>rfl
  |true=>
    have:=Lib.occAt_head (c:=32) (t:= []) rfl hb
    exact absurd (List.mem_of_getElem? this) h
theorem splitK_pcs:∀(n:Nat) (s:List UInt8),s.length≤n→Lib.splitK [32] 0 (Lib.count s [32]) s=pcs s:=by
  intro n
  induction n with
  |zero=>
    intro s hs
    have:s= []:=List.length_eq_zero_iff.1 (by omega)
    subst this
    rw[Lib.count_miss (Lib.index_none (fun j _=>occ_none [] (by simp) j))]
    rfl
  |succ n ih=>
    intro s hs
    by_cases hm:(32:UInt8) ∈ s
    · obtain⟨p,r,rfl,hp⟩:=List.eq_append_cons_of_mem hm
      have hidx:Lib.index (p++32::r) [32]=(p.length:Nat):=by
        refine Lib.index_first (by simp) ?_ ?_
        · simp[Lib.occAt]
        · intro j hj
          cases hb:Lib.occAt (p++32::r) [32] j with
          |false=>rfl
          |true=>
            have:=Lib.occAt_head (c:=32) (t:= []) rfl hb
            rw[List.getElem?_append_left hj]at this
            exact absurd (List.mem_of_getElem? this) hp
      have hd:(p++32::r).drop (p.length+1)=r:=by simp[List.drop_append]
      rw[Lib.count_hit (by simp) hidx,Nat.add_comm]
      unfold Lib.splitK
      rw[hidx,if_neg (by simp),pcs_hit p r hp]
      have e1:((p.length:Nat):Int).toNat=p.length:=by omega
      rw[e1]
      show(p++32::r).take (p.length+0)::Lib.splitK [32] 0 (Lib.count ((p++32::r).drop (p.length+1)) [32]) ((p++32::r).drop (p.length+1))=_
      rw[hd,ih r (by simp at hs;omega)]
      simp
    · rw[Lib.count_miss (Lib.index_none (fun j _=>occ_none s hm j)),pcs_none s hm]
      rfl
theorem split_pcs (s:ByteArray):(Lib.splitB ⟨#[32]⟩ 0 (Lib.countB s ⟨#[32]⟩) s).map (·.data.toList)=pcs s.data.toList:=by
  rw[Lib.splitB_data]
  exact splitK_pcs _ _ (Nat.le_refl _)
def Good (x:List UInt8):Prop:=x≠ []∧(32:UInt8) ∉ x
theorem go_free:∀(p cur t:List UInt8),(32:UInt8) ∉ p→go cur (p++t)=go (cur++p) t
  | [],cur,t,_=>by simp
  |c::p,cur,t,h=>by
    simp only[List.mem_cons,not_or]at h
    rw[List.cons_append,go,if_neg (fun e=>h.1 e.symm),go_free p _ t h.2]
    simp
theorem go_jn:∀(fs:List (List UInt8)) (t:List UInt8),t= []∨t= [32]→(∀x ∈ fs,Good x)→go [] (jn fs++t)=fs
  | [],t,ht,_=>by rcases ht with rfl|rfl<;>simp[jn,go]
  | [x],t,ht,h=>by
    have hx:=h x (by simp)
    rw[jn,go_free x [] t hx.2]
    rcases ht with rfl|rfl<;>simp[go,hx.1]
  |x::y::r,t,ht,h=>by
    have hx:=h x (by simp)
    rw[jn,List.append_assoc,go_free x [] _ hx.2,List.cons_append,go,if_pos rfl,if_neg (by simpa using hx.1),go_jn (y::r) t ht (fun z hz=>h z (by simp[hz]))]
    simp
theorem jn_inj {fs gs:List (List UInt8)} (hf:∀x ∈ fs,Good x) (hg:∀x ∈ gs,Good x) (h:jn fs=jn gs):fs=gs:=by
  have a:=go_jn fs [] (Or.inl rfl) hf
  have b:=go_jn gs [] (Or.inl rfl) hg
  rw[h]at a
  exact a.symm.trans b
theorem go_good:∀(r cur:List UInt8),(32:UInt8) ∉ cur→ ∀x ∈ go cur r,Good x
  | [],cur,h,x,hx=>by
    unfold go at hx
    split at hx
    · simp at hx
    · rename_i h1
      simp only[List.mem_singleton]at hx
      subst hx
      exact⟨h1,h⟩
  |c::r,cur,h,x,hx=>by
    unfold go at hx
    split at hx
    · split at hx
      · exact go_good r [] (by simp) x hx
      · rename_i h1
        rcases List.mem_cons.1 hx with rfl|hx
        · exact⟨h1,h⟩
        · exact go_good r [] (by simp) x hx
    · rename_i h0
      exact go_good r (cur++ [c]) (by simp[h];exact fun e=>h0 e.symm) x hx
theorem join_jn:∀fs:List (List UInt8),Lib.join fs [32]=jn fs
  | []=>rfl
  | [x]=>by rw[Lib.join_one,jn]
  |x::y::r=>by
    rw[Lib.join_cons,jn,←join_jn (y::r),Lib.join_cons]
    simp[Lib.joinTail]
theorem jn_snoc:∀(fs:List (List UInt8)) (x:List UInt8),fs≠ []→jn (fs++ [x])=jn fs++32::x
  | [],x,h=>absurd rfl h
  | [y],x,_=>rfl
  |y::z::r,x,_=>by
    have:=jn_snoc (z::r) x (by simp)
    rw[List.cons_append]at this
    rw[List.cons_append,List.cons_append,jn,this,jn]
    simp
theorem evs {α:Type} {g:Nat→Option α} {r:α} (h:Ev (fun k=>g (k+1)) r):Ev g r:=Ev.step (fun _=>rfl) h
theorem bt_drop {s:ByteArray} {i:Nat} {c:UInt8} {r:List UInt8} (h:s.data.toList.drop i=c::r):bt s (i:Int)=(c.toNat:Int)∧i<s.size∧s.data.toList.drop (i+1)=r:=by
  have hl:i<s.data.toList.length:=by
    rcases Nat.lt_or_ge i s.data.toList.length with h'|h'
    · exact h'
    · rw[List.drop_eq_nil_of_le h']at h;cases h
  rw[List.drop_eq_getElem_cons hl]at h
  simp only[List.cons.injEq]at h
  have hs:i<s.size:=by simpa using hl
  refine⟨?_,hs,h.2⟩
  have:=bt_at s (i:Int) (by simpa using hs)
  rw[←this,←h.1]
  simp
  rfl
def Dig (c:UInt8):Prop:=48≤c.toNat∧c.toNat≤57
instance (c:UInt8):Decidable (Dig c):=by unfold Dig;exact inferInstance
def pv:List UInt8→Nat→Nat
  | [],n=>n
  |c::r,n=>pv r (10 * n+(c.toNat - 48))
def pfin (s:ByteArray) (x:Nat):Int×Bool:=if(x:Int) >1000000000 then(0,false) else if(I x).toList=s.toList then((x:Int),true) else(0,false)
def pres (s:ByteArray) (r:List UInt8) (x:Nat):Int×Bool:=if ∀c ∈ r,Dig c then pfin s (pv r x) else(0,false)
def pu (s:ByteArray):Int×Bool:=if s.size >10 then(0,false) else pres s s.data.toList 0
theorem pl {G:Nat→Int→Int→Option (Int×Bool)} (s:ByteArray) (hs:s.size≤10)
    (h1:∀(k x i:Nat),x<10000000000→i<s.size→G (k+1) (x:Int) (i:Int)=if bt s (i:Int)<48 then some (0,false) else if bt s (i:Int) >57 then some (0,false) else G k (10 * (x:Int)+(bt s (i:Int) - 48)) ((i+1:Nat):Int))
    (h2:∀x:Nat,x≤10000000000→Ev (fun k=>G k (x:Int) (s.size:Int)) (pfin s x)):
    ∀(r:List UInt8) (i x:Nat),s.data.toList.drop i=r→i+r.length=s.size→x<10 ^ i→Ev (fun k=>G k (x:Int) (i:Int)) (pres s r x)
  | [],i,x,h,hi,hx=>by
    have hp:10 ^ i≤10 ^ 10:=Nat.pow_le_pow_right (by decide) (by simp at hi;omega)
    have e:i=s.size:=by simpa using hi
    subst e
    unfold pres
    rw[if_pos (by simp)]
    exact h2 x (by omega)
  |c::r,i,x,h,hi,hx=>by
    obtain⟨hb,hlt,hd⟩:=bt_drop h
    have hp:10 ^ i≤10 ^ 9:=Nat.pow_le_pow_right (by decide) (by omega)
    have hc:=c.toNat_lt
    by_cases h0:Dig c
    · have ih:=pl s hs h1 h2 r (i+1) (10 * x+(c.toNat - 48)) hd (by simp at hi;omega) (by rw[Nat.pow_succ];unfold Dig at h0;omega)
      refine Ev.step (f:=fun k=>G k ((10 * x+(c.toNat - 48):Nat):Int) ((i+1:Nat):Int)) (fun k=> ?_) ?_
      · unfold Dig at h0
        rw[h1 k x i (by omega) hlt,hb,if_neg (by omega),if_neg (by omega)]
        congr 1
        omega
      · refine Loops.Ev.eq ih ?_
        unfold pres
        simp only[List.forall_mem_cons,pv,h0,true_and]
    · refine Loops.Ev.one (fun k=> ?_)
      rw[h1 k x i (by omega) hlt,hb]
      have e:pres s (c::r) x=(0,false):=by
        unfold pres
        rw[if_neg (fun hh=>h0 (hh c (by simp)))]
      rw[e]
      unfold Dig at h0
      by_cases h2:(c.toNat:Int)<48
      · rw[if_pos h2]
      · rw[if_neg h2,if_pos (by omega)]
theorem spu_eq (s:ByteArray):Ev (fun k=>spec_ParseUint.f k s) (pu s):=by
  unfold spec_ParseUint.f pu
  by_cases h10:s.size >10
  · rw[if_pos h10];simp only[if_pos (show(s.size:Int) >10 by omega)];exact Ev.now _
  rw[if_neg h10]
  simp only[if_neg (show ¬(s.size:Int) >10 by omega)]
  refine pl (G:=fun k x i=>spec_ParseUint.l0 k s x i) s (by omega) ?_ ?_ s.data.toList 0 0 rfl (by simp) (by decide)
  · intro k x i hx hi
    have hb:=bt_range s (i:Int)
    simp only[spec_ParseUint.l0]
    rw[if_pos (by omega),if_pos (by omega)]
    rw[Loops.wrap_succ hi (by omega),IntWalk.wrap64_in (bt s (i:Int)) (by omega),IntWalk.wrap64_in (10 * (x:Int)) (by omega),IntWalk.wrap64_in (10 * (x:Int)+bt s (i:Int)) (by omega),IntWalk.wrap64_in _ (by omega)]
    rw[show 10 * (x:Int)+bt s (i:Int) - 48=10 * (x:Int)+(bt s (i:Int) - 48) by omega]
  · intro x hx
    refine evs ?_
    simp only[spec_ParseUint.l0]
    simp only[if_neg (show ¬(s.size:Int)<(s.size:Int) by omega)]
    unfold pfin
    by_cases h9:(x:Int) >1000000000
    · simp only[if_pos h9];exact Ev.now _
    · simp only[if_neg h9]
      refine Ev.bind (sfmt_eq (x:Int) (by omega) (by omega)) ?_
      by_cases he:(I (x:Int)).toList=s.toList
      · simp only[if_pos he];exact Ev.now _
      · simp only[if_neg he];exact Ev.now _
theorem I_ne (n:Int):(I n).toList≠ []:=by
  rw[ByteArray.toList_eq]
  show(Lib.itoa n).toArray.toList≠ []
  have h:=Lib.decDigits_length
  intro e
  have e':Lib.itoa n= []:=by simpa using e
  by_cases hneg:n<0
  · obtain⟨u,rfl⟩:∃u:Nat,n= -(u:Int):=⟨n.natAbs,by omega⟩
    rw[Lib.itoa_neg u (by omega)]at e'
    cases e'
  · obtain⟨u,rfl⟩:∃u:Nat,n=u:=⟨n.toNat,by omega⟩
    rw[Lib.itoa_nonneg,Lib.decDigits]at e'
    split at e'<;>simp at e'
theorem ipu_eq (s:ByteArray):Ev (fun k=>impl_ParseUint.f k s) (pu s):=by
  unfold impl_ParseUint.f
  by_cases hz:(s.size:Int)=0
  · simp only[if_pos hz]
    refine Loops.Ev.one (fun k=> ?_)
    simp only[impl_ParseUint.j0,if_true]
    have hn:s.data.toList= []:=by
      apply List.length_eq_zero_iff.1
      simp
      have:s.data.size=s.size:=rfl
      have h2:s.size=0:=by omega
      have h3:s.data.size=0:=by rw[this];exact h2
      simpa using h3
    unfold pu pres
    rw[if_neg (by omega),hn,if_pos (by simp)]
    unfold pv pfin
    rw[if_neg (by omega),if_neg]
    rw[ByteArray.toList_eq s,hn]
    exact I_ne _
  · simp only[if_neg hz]
    refine evs ?_
    simp only[impl_ParseUint.j0]
    unfold pu
    by_cases h10:s.size >10
    · rw[if_pos h10]
      simp only[decide_eq_true (show(s.size:Int) >10 by omega),if_true]
      exact Ev.now _
    rw[if_neg h10]
    simp only[decide_eq_false (show ¬(s.size:Int) >10 by omega),Bool.false_eq_true,if_false]
    refine pl (G:=fun k x i=>impl_ParseUint.l0 k s x i) s (by omega) ?_ ?_ s.data.toList 0 0 rfl (by simp) (by decide)
    · intro k x i hx hi
      have hb:=bt_range s (i:Int)
      simp only[impl_ParseUint.l0]
      rw[if_pos (by omega),if_pos (by omega)]
      by_cases h1:bt s (i:Int)<48
      · rw[if_pos h1,if_pos h1]
      rw[if_neg h1,if_neg h1]
      by_cases h2:bt s (i:Int) >57
      · rw[if_pos h2,if_pos h2]
      rw[if_neg h2,if_neg h2]
      rw[Loops.wrap_succ hi (by omega),IntWalk.wrap64_in ((x:Int) * 10) (by omega),show(bt s (i:Int) - 48) % 256=bt s (i:Int) - 48 by omega,IntWalk.wrap64_in _ (by omega),Int.mul_comm]
    · intro x hx
      refine evs ?_
      simp only[impl_ParseUint.l0]
      simp only[if_neg (show ¬(s.size:Int)<(s.size:Int) by omega)]
      refine Loops.Ev.const ?_
      unfold pfin
      by_cases h9:(x:Int) >1000000000
      · simp only[if_pos h9]
      · simp only[if_neg h9,ifmt_eq (x:Int) (by omega) (by omega),Option.bind_some]
        by_cases he:(I (x:Int)).toList=s.toList
        · simp only[if_pos he]
        · simp only[if_neg he]
theorem pv_append:∀(a b:List UInt8) (x:Nat),pv (a++b) x=pv b (pv a x)
  | [],_,_=>rfl
  |c::a,b,x=>by rw[List.cons_append,pv,pv,pv_append a b]
theorem dig_all (u:Nat):(∀c ∈ Lib.decDigits u,Dig c)∧pv (Lib.decDigits u) 0=u∧(32:UInt8) ∉ Lib.decDigits u∧Lib.decDigits u≠ []:=by
  induction u using Nat.strongRecOn with
  |_ u ih=>
    have hd:∀v:Nat,v<10→(UInt8.ofNat (48+v)).toNat=48+v:=fun v hv=>by
      rw[UInt8.toNat_ofNat'];omega
    have h32:∀v:Nat,v<10→ ¬(32:UInt8)=UInt8.ofNat (48+v):=fun v hv e=>by
      have:=congrArg UInt8.toNat e
      rw[hd v hv]at this
      simp at this
      omega
    by_cases h:u<10
    · rw[Lib.decDigits_one h]
      refine⟨fun c hc=> ?_,?_,?_,by simp⟩
      · simp only[List.mem_singleton]at hc
        subst hc
        unfold Dig
        rw[hd u h];omega
      · simp only[pv,hd u h];omega
      · simp only[List.mem_singleton];exact h32 u h
    · rw[Lib.decDigits,dif_neg h]
      obtain⟨i1,i2,i3,_⟩:=ih (u / 10) (by omega)
      refine⟨fun c hc=> ?_,?_,?_,by simp⟩
      · rcases List.mem_append.1 hc with hc|hc
        · exact i1 c hc
        · simp only[List.mem_singleton]at hc
          subst hc
          unfold Dig
          rw[hd _ (Nat.mod_lt _ (by decide))];omega
      · rw[pv_append,i2]
        simp only[pv,hd _ (Nat.mod_lt u (by decide:0<10))]
        omega
      · rw[List.mem_append,not_or]
        exact⟨i3,by simp only[List.mem_singleton];exact h32 _ (Nat.mod_lt _ (by decide))⟩
theorem I_data (u:Nat):(I (u:Int)).data.toList=Lib.decDigits u:=by
  show(Lib.itoa (u:Int)).toArray.toList=_
  rw[Lib.itoa_nonneg]
theorem decl_le:∀(m u:Nat),u<10 ^ (m+1)→(Lib.decDigits u).length≤m+1:=by
  intro m
  induction m with
  |zero=>intro u hu;rw[Lib.decDigits_one (by simpa using hu)];simp
  |succ m ih=>
    intro u hu
    by_cases h:u<10
    · rw[Lib.decDigits_one h];simp
    · rw[Lib.decDigits,dif_neg h,List.length_append]
      have:=ih (u / 10) (by rw[Nat.pow_succ]at hu;omega)
      simp
      omega
theorem pu_I (a:Int) (h0:0≤a) (h1:a≤9999):pu (I a)=(a,true):=by
  obtain⟨u,rfl⟩:∃u:Nat,a=u:=⟨a.toNat,by omega⟩
  obtain⟨d1,d2,_,_⟩:=dig_all u
  have hl:=decl_le 3 u (by omega)
  have hs:(I (u:Int)).size=(Lib.decDigits u).length:=by
    rw[←I_data u];simp
  unfold pu pres
  rw[if_neg (by rw[hs];omega),I_data,if_pos d1,d2]
  unfold pfin
  rw[if_neg (by omega),if_pos rfl]
theorem I_good (a:Int) (h0:0≤a):Good (I a).data.toList:=by
  obtain⟨u,rfl⟩:∃u:Nat,a=u:=⟨a.toNat,by omega⟩
  rw[I_data]
  exact⟨(dig_all u).2.2.2,(dig_all u).2.2.1⟩
def Val (c:UInt8):Prop:=32≤c.toNat∧c.toNat≤126
instance (c:UInt8):Decidable (Val c):=by unfold Val;exact inferInstance
def toB (x:List UInt8):ByteArray:=⟨x.toArray⟩
theorem toB_data (x:List UInt8):(toB x).data.toList=x:=by simp[toB]
theorem B_ext {a b:ByteArray} (h:a.data.toList=b.data.toList):a=b:=by
  apply ByteArray.ext
  exact Array.toList_inj.1 h
def sfin (fs:List (List UInt8)):List ByteArray×Bool:=if fs.length >24 then([],false) else(fs.map toB,true)
def sf (s:ByteArray):List ByteArray×Bool:=if s.size >600 then([],false) else if ∀c ∈ s.data.toList,Val c then sfin (go [] s.data.toList) else([],false)
def sres (r cur:List UInt8) (acc:List (List UInt8)):List ByteArray×Bool:=if ∀c ∈ r,Val c then sfin (acc++go cur r) else([],false)
theorem ssf_loop (s:ByteArray) (hs:s.size≤600):∀(r:List UInt8) (i b:Nat) (acc:List (List UInt8)),s.data.toList.drop i=r→i+r.length=s.size→b≤i→acc.length≤i→
    Ev (fun k=>spec_SplitFields.l0 k s (acc.map toB) (b:Int) (i:Int)) (sres r ((s.data.toList.take i).drop b) acc)
  | [],i,b,acc,h,hi,hb,ha=>by
    have e:i=s.size:=by simpa using hi
    have hcl:((s.data.toList.take i).drop b).length=i - b:=by simp;omega
    refine evs ?_
    simp only[spec_SplitFields.l0]
    simp only[if_pos (show(i:Int)≤(s.size:Int) by omega),if_neg (show ¬(i:Int)<(s.size:Int) by omega)]
    refine evs ?_
    simp only[spec_SplitFields.j1,Bool.false_eq_true,if_false]
    simp only[if_neg (show ¬(i:Int)<(s.size:Int) by omega)]
    refine evs ?_
    simp only[spec_SplitFields.j2,Bool.false_eq_true,if_false]
    rw[IntWalk.wrap64_in _ (by omega)]
    unfold sres
    rw[if_pos (by simp)]
    have fin:∀a2:List (List UInt8),Ev (fun k=>spec_SplitFields.l0 k s (a2.map toB) ((i:Int)+1) ((i:Int)+1)) (sfin a2):=fun a2=>by
      refine Loops.Ev.one (fun k=> ?_)
      simp only[spec_SplitFields.l0]
      rw[if_neg (by omega)]
      unfold sfin
      by_cases h24:a2.length >24
      · rw[if_pos h24,if_pos (by simp;omega)]
      · rw[if_neg h24,if_neg (by simp;omega)]
    by_cases hbi:b<i
    · simp only[if_pos (show(b:Int)<(i:Int) by omega),if_pos (show(0:Int)≤(b:Int) by omega),if_pos (show(b:Int)≤(i:Int) by omega),if_pos (show(i:Int)≤(s.size:Int) by omega)]
      simp only[if_pos (show(acc.map toB).length<8796093022208 by simp;omega)]
      have hx:s.extract (b:Int).toNat (i:Int).toNat=toB ((s.data.toList.take i).drop b):=by
        apply B_ext
        rw[toB_data,Lib.extract_data,List.drop_take]
        simp
      rw[hx,show acc.map toB++ [toB ((s.data.toList.take i).drop b)]=(acc++ [(s.data.toList.take i).drop b]).map toB by simp]
      refine Loops.Ev.eq (fin _) ?_
      rw[go,if_neg (fun e0=>by rw[e0]at hcl;simp at hcl;omega)]
    · simp only[if_neg (show ¬(b:Int)<(i:Int) by omega)]
      refine Loops.Ev.eq (fin _) ?_
      rw[go,if_pos (List.length_eq_zero_iff.1 (by omega)),List.append_nil]
  |c::r,i,b,acc,h,hi,hb,ha=>by
    obtain⟨hbt,hlt,hd⟩:=bt_drop h
    have hc:=c.toNat_lt
    have hcl:((s.data.toList.take i).drop b).length=i - b:=by
      have:s.data.toList.length=s.size:=by simp
      rw[List.length_drop,List.length_take,this];omega
    refine evs ?_
    simp only[spec_SplitFields.l0]
    simp only[if_pos (show(i:Int)≤(s.size:Int) by omega),if_pos (show(i:Int)<(s.size:Int) by omega),if_pos (show(0:Int)≤(i:Int) by omega),hbt]
    by_cases hv:Val c
    · have hv':=hv
      unfold Val at hv'
      simp only[if_neg (show ¬(c.toNat:Int)<32 by omega),decide_eq_false (show ¬(c.toNat:Int) >126 by omega)]
      refine evs ?_
      simp only[spec_SplitFields.j1,Bool.false_eq_true,if_false]
      simp only[if_pos (show(i:Int)<(s.size:Int) by omega),if_pos (show(0:Int)≤(i:Int) by omega),hbt]
      refine evs ?_
      have hsr:∀cur a2,sres (c::r) cur a2=if ∀x ∈ r,Val x then sfin (a2++go cur (c::r)) else([],false):=fun cur a2=>by
        unfold sres
        simp only[List.forall_mem_cons,hv,true_and]
      by_cases h32:c=32
      · subst h32
        simp only[spec_SplitFields.j2]
        simp only[show(((32:UInt8).toNat:Int) !=32)=false from by decide,Bool.false_eq_true,if_false]
        rw[IntWalk.wrap64_in _ (by omega),show(i:Int)+1=((i+1:Nat):Int) by omega]
        have hcur:(s.data.toList.take (i+1)).drop (i+1)= []:=by
          apply List.length_eq_zero_iff.1
          rw[List.length_drop,List.length_take];omega
        by_cases hbi:b<i
        · simp only[if_pos (show(b:Int)<(i:Int) by omega),if_pos (show(0:Int)≤(b:Int) by omega),if_pos (show(b:Int)≤(i:Int) by omega),if_pos (show(i:Int)≤(s.size:Int) by omega)]
          simp only[if_pos (show(acc.map toB).length<8796093022208 by simp;omega)]
          have hx:s.extract (b:Int).toNat (i:Int).toNat=toB ((s.data.toList.take i).drop b):=by
            apply B_ext
            rw[toB_data,Lib.extract_data,List.drop_take]
            simp
          rw[hx,show acc.map toB++ [toB ((s.data.toList.take i).drop b)]=(acc++ [(s.data.toList.take i).drop b]).map toB by simp]
          have ih:=ssf_loop s hs r (i+1) (i+1) (acc++ [(s.data.toList.take i).drop b]) hd (by simp at hi;omega) (Nat.le_refl _) (by simp;omega)
          refine Loops.Ev.eq ih ?_
          rw[hsr,go,if_pos rfl,if_neg (show ¬(s.data.toList.take i).drop b= [] from fun e0=>by rw[e0]at hcl;simp at hcl;omega),hcur]
          unfold sres
          rw[List.append_assoc];rfl
        · simp only[if_neg (show ¬(b:Int)<(i:Int) by omega)]
          have ih:=ssf_loop s hs r (i+1) (i+1) acc hd (by simp at hi;omega) (Nat.le_refl _) (by omega)
          refine Loops.Ev.eq ih ?_
          rw[hsr,go,if_pos rfl,if_pos (show(s.data.toList.take i).drop b= [] from List.length_eq_zero_iff.1 (by omega)),hcur]
          rfl
      · have hne:((c.toNat:Int) !=32)=true:=by
          simp only[bne_iff_ne,ne_eq]
          intro e0
          apply h32
          apply UInt8.toNat_inj.1
          show c.toNat=32
          omega
        simp only[spec_SplitFields.j2,hne,if_true]
        rw[IntWalk.wrap64_in _ (by omega),show(i:Int)+1=((i+1:Nat):Int) by omega]
        have ih:=ssf_loop s hs r (i+1) b acc hd (by simp at hi;omega) (by omega) (by omega)
        refine Loops.Ev.eq ih ?_
        have hcur:(s.data.toList.take (i+1)).drop b=(s.data.toList.take i).drop b++ [c]:=by
          have hl:i<s.data.toList.length:=by simpa using hlt
          have hg:s.data.toList[i]=c:=by
            rw[List.drop_eq_getElem_cons hl]at h
            simp only[List.cons.injEq]at h
            exact h.1
          rw[List.take_succ_eq_append_getElem hl,hg,List.drop_append_of_le_length (by rw[List.length_take];omega)]
        rw[hsr,go,if_neg h32,hcur]
        rfl
    · have hsr:sres (c::r) ((s.data.toList.take i).drop b) acc=([],false):=by
        unfold sres
        rw[if_neg (fun hh=>hv (hh c (by simp)))]
      rw[hsr]
      unfold Val at hv
      by_cases h32:(c.toNat:Int)<32
      · simp only[if_pos h32]
        refine Loops.Ev.one (fun k=> ?_)
        simp only[spec_SplitFields.j1,if_true]
      · simp only[if_neg h32,decide_eq_true (show(c.toNat:Int) >126 by omega)]
        refine Loops.Ev.one (fun k=> ?_)
        simp only[spec_SplitFields.j1,if_true]
theorem ssf_eq (s:ByteArray):Ev (fun k=>spec_SplitFields.f k s) (sf s):=by
  unfold spec_SplitFields.f sf
  simp only[Option.bind_some]
  by_cases h:s.size >600
  · rw[if_pos h];simp only[if_pos (show(s.size:Int) >600 by omega)];exact Ev.now _
  · rw[if_neg h]
    simp only[if_neg (show ¬(s.size:Int) >600 by omega)]
    refine Loops.Ev.eq (ssf_loop s (by omega) s.data.toList 0 0 [] rfl (by simp) (Nat.le_refl _) (Nat.le_refl _)) ?_
    unfold sres
    simp
theorem isf_l1 (P:List ByteArray) (hP:P.length≤601):∀(r:List ByteArray) (i:Nat) (acc:List ByteArray),P.drop i=r→i+r.length=P.length→acc.length≤i→
    Ev (fun k=>impl_SplitFields.l1 k acc P (P.length:Int) (i:Int)) (if(acc++r.filter fun x=>decide (x.data.toList≠ [])).length >24 then([],false) else(acc++r.filter fun x=>decide (x.data.toList≠ []),true))
  | [],i,acc,h,hi,ha=>by
    have e:i=P.length:=by simpa using hi
    refine Loops.Ev.one (fun k=> ?_)
    simp only[impl_SplitFields.l1]
    rw[if_neg (by omega)]
    simp only[List.filter_nil,List.append_nil]
    by_cases h24:acc.length >24
    · rw[if_pos h24,if_pos (by omega)]
    · rw[if_neg h24,if_neg (by omega)]
  |x::r,i,acc,h,hi,ha=>by
    have hl:i<P.length:=by simp at hi;omega
    have hx:rdOf ByteArray.empty P (i:Int)=x:=by
      rw[List.drop_eq_getElem_cons hl]at h
      simp only[List.cons.injEq]at h
      rw[Loops.rdOf_nat,List.getD_eq_getElem?_getD,List.getElem?_eq_getElem hl]
      exact h.1
    have hd:P.drop (i+1)=r:=by
      rw[List.drop_eq_getElem_cons hl]at h
      simp only[List.cons.injEq]at h
      exact h.2
    refine evs ?_
    simp only[impl_SplitFields.l1]
    simp only[if_pos (show(i:Int)<(P.length:Int) by omega),if_pos (show(0:Int)≤(i:Int) by omega),hx,ByteArray.toList_eq]
    rw[Loops.wrap_succ hl (by omega)]
    by_cases he:x.data.toList= []
    · simp only[if_pos he]
      refine Loops.Ev.eq (isf_l1 P hP r (i+1) acc hd (by simp at hi;omega) (by omega)) ?_
      rw[List.filter_cons_of_neg (by rw[decide_eq_true_eq];exact fun h=>h he)]
    · simp only[if_neg he,if_pos (show acc.length<8796093022208 by omega)]
      refine Loops.Ev.eq (isf_l1 P hP r (i+1) (acc++ [x]) hd (by simp at hi;omega) (by simp;omega)) ?_
      rw[List.filter_cons_of_pos (by rw[decide_eq_true_eq];exact he),List.append_assoc]
      rfl
theorem isf_l0 (s:ByteArray) (hs:s.size≤600) {R:List ByteArray×Bool} (hR:Ev (fun k=>impl_SplitFields.l0 k s (s.size:Int)) R):∀(r:List UInt8) (i:Nat),s.data.toList.drop i=r→i+r.length=s.size→
    Ev (fun k=>impl_SplitFields.l0 k s (i:Int)) (if ∀c ∈ r,Val c then R else([],false))
  | [],i,h,hi=>by
    have e:i=s.size:=by simpa using hi
    subst e
    rw[if_pos (by simp)]
    exact hR
  |c::r,i,h,hi=>by
    obtain⟨hbt,hlt,hd⟩:=bt_drop h
    refine evs ?_
    simp only[impl_SplitFields.l0]
    simp only[if_pos (show(i:Int)<(s.size:Int) by omega),if_pos (show(0:Int)≤(i:Int) by omega),hbt]
    by_cases hv:Val c
    · have hv':=hv
      unfold Val at hv'
      simp only[if_neg (show ¬(c.toNat:Int)<32 by omega),if_neg (show ¬(c.toNat:Int) >126 by omega)]
      rw[Loops.wrap_succ hlt (by omega)]
      refine Loops.Ev.eq (isf_l0 s hs hR r (i+1) hd (by simp at hi;omega)) ?_
      simp only[List.forall_mem_cons,hv,true_and]
    · rw[if_neg (fun hh=>hv (hh c (by simp)))]
      unfold Val at hv
      by_cases h32:(c.toNat:Int)<32
      · simp only[if_pos h32];exact Ev.now _
      · simp only[if_neg h32,if_pos (show(c.toNat:Int) >126 by omega)];exact Ev.now _
theorem isf_eq (s:ByteArray):Ev (fun k=>impl_SplitFields.f k s) (sf s):=by
  unfold impl_SplitFields.f sf
  by_cases h:s.size >600
  · rw[if_pos h];simp only[if_pos (show(s.size:Int) >600 by omega)];exact Ev.now _
  rw[if_neg h]
  simp only[if_neg (show ¬(s.size:Int) >600 by omega)]
  refine isf_l0 s (by omega) ?_ s.data.toList 0 rfl (by simp)
  refine evs ?_
  simp only[impl_SplitFields.l0]
  simp only[if_neg (show ¬(s.size:Int)<(s.size:Int) by omega)]
  have h1:(1:Nat)≤(⟨#[32]⟩:ByteArray).size:=by decide
  have hf:strings_Split.f s ⟨#[32]⟩=some (Lib.splitB ⟨#[32]⟩ 0 (Lib.countB s ⟨#[32]⟩) s):=by
    unfold strings_Split.f
    rw[if_pos (by omega),if_pos h1]
  simp only[hf,Option.bind_some]
  have hm:=split_pcs s
  have hlen:=Lib.splitB_all ⟨#[32]⟩ h1 0 _ s rfl
  have hle:=Lib.countB_le ⟨#[32]⟩ h1 s.size s (Nat.le_refl _)
  generalize Lib.splitB ⟨#[32]⟩ 0 (Lib.countB s ⟨#[32]⟩) s=P at hm hlen
  refine Loops.Ev.eq (isf_l1 P (by omega) P 0 [] rfl (by simp) (Nat.le_refl _)) ?_
  have hfl:(P.filter fun x=>decide (x.data.toList≠ []))=(go [] s.data.toList).map toB:=by
    rw[go_nil_pcs,←hm]
    clear hm hlen
    induction P with
    |nil=>rfl
    |cons x r ih=>
      have hx:toB x.data.toList=x:=B_ext (toB_data _)
      unfold nes at ih ⊢
      rw[List.map_cons,List.filter_cons,List.filter_cons]
      by_cases he:x.data.toList= []
      · rw[if_neg (by simp[he]),if_neg (by simp[he])];exact ih
      · rw[if_pos (by simp[he]),if_pos (by simp[he]),List.map_cons,hx,ih]
  rw[List.nil_append,hfl]
  unfold sfin
  simp only[List.length_map]
theorem sf_good {s:ByteArray} {fs:List ByteArray} (h:sf s=(fs,true)):∀x ∈ fs,Good x.data.toList:=by
  unfold sf sfin at h
  split at h
  · cases h
  · split at h
    · split at h
      · cases h
      · simp only[Prod.mk.injEq,and_true]at h
        intro x hx
        rw[←h]at hx
        obtain⟨y,hy,rfl⟩:=List.mem_map.1 hx
        rw[toB_data]
        exact go_good _ [] (by simp) y hy
    · cases h
def wd (K:Int):List UInt8:=if K=1 then [97,100,100] else if K=2 then [116,97,107,101] else if K=3 then [108,105,110,101] else if K=4 then [102,105,110,105,115,104] else [114,101,108,101,97,115,101]
def ag (K a b c:Int):List Int:=if K=1 then [a,b,c] else if K=3∨K=5 then [a] else []
def tx (K a b c:Int):List (List UInt8):=wd K::(ag K a b c).map fun n=>(I n).data.toList
theorem fa_tx {K a b c:Int} (h:aok K a b c=true):(fa K a b c).1.data.toList=jn (tx K a b c)∧(fa K a b c).2=true:=by
  obtain⟨hK,_⟩:=aok_in h
  unfold fa
  rw[if_pos h]
  rcases hK with rfl|rfl|rfl|rfl|rfl<;>simp[tx,wd,ag,jn,ByteArray.data_append]
theorem fa_not {K a b c:Int} (h:¬aok K a b c=true):fa K a b c=((⟨#[]⟩:ByteArray),false):=by
  unfold fa;rw[if_neg h]
theorem wd_good (K:Int):Good (wd K):=by
  unfold wd Good
  split
  · decide
  split
  · decide
  split
  · decide
  split
  · decide
  · decide
theorem tx_good {K a b c:Int} (h:aok K a b c=true):∀x ∈ tx K a b c,Good x:=by
  obtain⟨_,ha,hb,hc⟩:=aok_in h
  intro x hx
  unfold tx ag at hx
  rcases List.mem_cons.1 hx with rfl|hx
  · exact wd_good K
  · obtain⟨n,hn,rfl⟩:=List.mem_map.1 hx
    refine I_good n ?_
    split at hn
    · simp only[List.mem_cons,List.not_mem_nil,or_false]at hn;omega
    · split at hn
      · simp only[List.mem_singleton]at hn;omega
      · cases hn
abbrev KS:List Km.E:= [([114,101,108,101,97,115,101],5),([102,105,110,105,115,104],4),([108,105,110,101],3),([116,97,107,101],2),([97,100,100],1)]
theorem look_wd {K:Int} (h:K=1∨K=2∨K=3∨K=4∨K=5):Km.look KS (wd K)=K:=by
  rcases h with rfl|rfl|rfl|rfl|rfl<;>rfl
def vl (rs:List ByteArray) (i:Nat):Int:=if i<rs.length then(pu (rs.getD i ByteArray.empty)).1 else 0
def allok (rs:List ByteArray):Bool:=rs.all fun x=>(pu x).2
theorem core {K a b c:Int} {fs:List ByteArray} (h:aok K a b c=true) (hf:∀x ∈ fs,Good x.data.toList) (he:(fa K a b c).1.data.toList=jn (fs.map (·.data.toList))):fs.map (·.data.toList)=tx K a b c:=by
  rw[(fa_tx h).1]at he
  refine(jn_inj (tx_good h) ?_ he).symm
  intro x hx
  obtain⟨y,hy,rfl⟩:=List.mem_map.1 hx
  exact hf y hy
theorem core_ok {K a b c:Int} {f0:ByteArray} {rs:List ByteArray} (h:aok K a b c=true) (hf:∀x ∈ f0::rs,Good x.data.toList) (he:(fa K a b c).1.data.toList=jn ((f0::rs).map (·.data.toList))):Km.look KS f0.data.toList=K∧allok rs=true:=by
  have hc:=core h hf he
  obtain⟨hK,ha,hb,hc'⟩:=aok_in h
  unfold tx at hc
  simp only[List.map_cons,List.cons.injEq]at hc
  refine⟨by rw[hc.1];exact look_wd hK,?_⟩
  have hrs:rs=(ag K a b c).map I:=by
    have h2:=hc.2
    clear hc he hf
    generalize ag K a b c=ns at h2
    induction ns generalizing rs with
    |nil=>simpa using h2
    |cons n ns ih=>
      cases rs with
      |nil=>cases h2
      |cons x r=>
        simp only[List.map_cons,List.cons.injEq]at h2 ⊢
        exact⟨B_ext h2.1,ih h2.2⟩
  unfold allok
  rw[hrs,List.all_eq_true]
  intro x hx
  obtain⟨n,hn,rfl⟩:=List.mem_map.1 hx
  have hn':0≤n∧n≤9999:=by
    unfold ag at hn
    split at hn
    · simp only[List.mem_cons,List.not_mem_nil,or_false]at hn;omega
    · split at hn
      · simp only[List.mem_singleton]at hn;omega
      · cases hn
  rw[pu_I n hn'.1 hn'.2]
def pa (fs:List ByteArray):Int×Int×Int×Int×Bool:=match fs with
  | []=>(0,0,0,0,false)
  |f0::rs=>if rs.length≤3∧allok rs=true∧aok (Km.look KS f0.data.toList) (vl rs 0) (vl rs 1) (vl rs 2)=true∧(fa (Km.look KS f0.data.toList) (vl rs 0) (vl rs 1) (vl rs 2)).1.data.toList=jn ((f0::rs).map (·.data.toList)) then(Km.look KS f0.data.toList,vl rs 0,vl rs 1,vl rs 2,true) else(0,0,0,0,false)
def paa (s:ByteArray):Int×Int×Int×Int×Bool:=if(sf s).2=true then pa (sf s).1 else(0,0,0,0,false)
theorem ip_l0:∀(fs:List ByteArray) (i:Nat) (a b c:Int),Ev (fun k=>impl_ParseAct.l0 k fs i a b c) (if allok fs=true then some (if i≤0∧0<i+fs.length then(pu (fs.getD (0 - i) ByteArray.empty)).1 else a,if i≤1∧1<i+fs.length then(pu (fs.getD (1 - i) ByteArray.empty)).1 else b,if i≤2∧2<i+fs.length then(pu (fs.getD (2 - i) ByteArray.empty)).1 else c) else none)
  | [],i,a,b,c=>by
    refine Loops.Ev.const ?_
    unfold allok
    rw[if_pos (by simp),if_neg (by simp),if_neg (by simp),if_neg (by simp)]
  |f::fs,i,a,b,c=>by
    simp only[impl_ParseAct.l0]
    refine Ev.bind (ipu_eq f) ?_
    by_cases h:(pu f).2=true
    · simp only[if_pos h]
      refine Loops.Ev.eq (ip_l0 fs (i+1) _ _ _) ?_
      have ha:allok (f::fs)=allok fs:=by unfold allok;rw[List.all_cons,h,Bool.true_and]
      rw[ha]
      by_cases h2:allok fs=true
      · rw[if_pos h2,if_pos h2]
        have key:∀(m:Nat) (z:Int),(if i+1≤m∧m<i+1+fs.length then(pu (fs.getD (m - (i+1)) ByteArray.empty)).1 else if i=m then(pu f).1 else z)=if i≤m∧m<i+(f::fs).length then(pu ((f::fs).getD (m - i) ByteArray.empty)).1 else z:=by
          intro m z
          rw[List.length_cons]
          by_cases e:i=m
          · subst e
            rw[if_neg (by omega),if_pos rfl,if_pos (by omega),Nat.sub_self];rfl
          · by_cases hm:i+1≤m∧m<i+1+fs.length
            · rw[if_pos hm,if_pos (by omega),show m - i=(m - (i+1))+1 by omega];rfl
            · rw[if_neg hm,if_neg e,if_neg (by omega)]
        rw[key 0 a,key 1 b,key 2 c]
      · rw[if_neg h2,if_neg h2]
    · simp only[if_neg h]
      have ha:¬allok (f::fs)=true:=by unfold allok;rw[List.all_cons];simp[h]
      rw[if_neg ha]
      exact Ev.now _
theorem lens_small:∀(fs:List (List UInt8)) (n:Nat),(∀x ∈ fs,x.length≤n)→Lib.lens fs≤fs.length * n
  | [],n,_=>by simp[Lib.lens]
  |x::r,n,h=>by
    have:=lens_small r n (fun y hy=>h y (by simp[hy]))
    have hx:=h x (by simp)
    unfold Lib.lens at this ⊢
    simp only[List.map_cons,List.sum_cons,List.length_cons,Nat.succ_mul]
    omega
theorem go_short:∀(r cur:List UInt8),∀x ∈ go cur r,x.length≤cur.length+r.length
  | [],cur,x,hx=>by
    unfold go at hx
    split at hx
    · simp at hx
    · simp only[List.mem_singleton]at hx;subst hx;simp
  |c::r,cur,x,hx=>by
    unfold go at hx
    split at hx
    · split at hx
      · have:=go_short r [] x hx;simp at this ⊢;omega
      · rcases List.mem_cons.1 hx with rfl|hx
        · simp
        · have:=go_short r [] x hx;simp at this ⊢;omega
    · have:=go_short r (cur++ [c]) x hx;simp at this ⊢;omega
theorem sf_short {s:ByteArray} {fs:List ByteArray} (h:sf s=(fs,true)):∀x ∈ fs,x.data.toList.length≤600:=by
  unfold sf sfin at h
  split at h
  · cases h
  · rename_i h6
    split at h
    · split at h
      · cases h
      · simp only[Prod.mk.injEq,and_true]at h
        intro x hx
        rw[←h]at hx
        obtain⟨y,hy,rfl⟩:=List.mem_map.1 hx
        rw[toB_data]
        have:=go_short s.data.toList [] y hy
        simp at this
        have e:s.data.size=s.size:=rfl
        omega
    · cases h
theorem ipa_eq (s:ByteArray):Ev (fun k=>impl_ParseAct.f k s) (paa s):=by
  unfold impl_ParseAct.f paa
  refine Ev.bind (isf_eq s) ?_
  rcases hs:sf s with⟨fs,ok⟩
  cases ok with
  |false=>simp only[Bool.false_eq_true,if_false];exact Ev.now _
  |true=>
    simp only[if_true]
    have hg:=sf_good hs
    have hsh:=sf_short hs
    cases fs with
    |nil=>exact Ev.now _
    |cons f0 rs=>
      have h0:=hsh f0 (by simp)
      have h0':f0.size≤600:=by simpa using h0
      dsimp only
      by_cases h3:rs.length≤3
      · simp only[if_pos h3,if_pos (show f0.size≤9223372036854775807 by omega)]
        refine Ev.bind (ip_l0 rs 0 0 0 0) ?_
        unfold pa
        by_cases hok:allok rs=true
        · simp only[if_pos hok]
          have hv:∀m:Nat,(if 0≤m∧m<0+rs.length then(pu (rs.getD (m - 0) ByteArray.empty)).1 else(0:Int))=vl rs m:=fun m=>by
            unfold vl
            by_cases hm:m<rs.length
            · rw[if_pos (by omega),if_pos hm];rfl
            · rw[if_neg (by omega),if_neg hm]
          simp only[hv 0,hv 1,hv 2]
          refine Ev.bind (ifa_eq (Km.look KS f0.data.toList) (vl rs 0) (vl rs 1) (vl rs 2)) ?_
          by_cases hk:aok (Km.look KS f0.data.toList) (vl rs 0) (vl rs 1) (vl rs 2)=true
          · obtain⟨e1,e2⟩:=fa_tx hk
            simp only[e2,if_true]
            have hl:=lens_small ((f0::rs).map (·.data.toList)) 600 (fun x hx=>by obtain⟨y,hy,rfl⟩:=List.mem_map.1 hx;exact hsh y hy)
            rw[List.length_map,List.length_cons]at hl
            have hj:strings_Join.f (f0::rs) ⟨#[32]⟩=some (toB (jn ((f0::rs).map (·.data.toList)))):=by
              unfold strings_Join.f
              rw[if_pos rfl,if_pos (by rw[List.length_cons];omega),if_pos (by omega),join_jn]
              rfl
            simp only[hj,Option.bind_some,ByteArray.toList_eq,toB_data]
            refine Loops.Ev.const ?_
            by_cases he:(fa (Km.look KS f0.data.toList) (vl rs 0) (vl rs 1) (vl rs 2)).1.data.toList=jn ((f0::rs).map (·.data.toList))
            · rw[if_pos he,if_pos ⟨h3,hok,hk,he⟩]
            · rw[if_neg he,if_neg (fun hh=>he hh.2.2.2)]
          · simp only[fa_not hk,Bool.false_eq_true,if_false]
            rw[if_neg (fun hh=>hk hh.2.2.1)]
            exact Ev.now _
        · simp only[if_neg hok]
          rw[if_neg (fun hh=>hok hh.2.1)]
          exact Ev.now _
      · simp only[if_neg h3]
        unfold pa
        simp only[if_neg (show ¬(rs.length≤3∧_) from fun hh=>h3 hh.1)]
        exact Ev.now _
theorem sp_l1 (s:ByteArray) (ns:List Int) (h3:3≤ns.length) (res:Int×Int×Int×Int×Bool):
    ∀(m:Nat) (K:Int),K+m=6→1≤K→
    (∀J:Int,1≤J→J<K→ ¬(aok J (rd ns 0) (rd ns 1) (rd ns 2)=true∧(fa J (rd ns 0) (rd ns 1) (rd ns 2)).1.data.toList=s.data.toList))→
    (res=(0,0,0,0,false)∧(∀J:Int,¬(aok J (rd ns 0) (rd ns 1) (rd ns 2)=true∧(fa J (rd ns 0) (rd ns 1) (rd ns 2)).1.data.toList=s.data.toList))∨
     ∃J:Int,res=(J,rd ns 0,rd ns 1,rd ns 2,true)∧aok J (rd ns 0) (rd ns 1) (rd ns 2)=true∧(fa J (rd ns 0) (rd ns 1) (rd ns 2)).1.data.toList=s.data.toList∧
       ∀J':Int,(aok J' (rd ns 0) (rd ns 1) (rd ns 2)=true∧(fa J' (rd ns 0) (rd ns 1) (rd ns 2)).1.data.toList=s.data.toList)→J'=J)→
    Ev (fun k=>spec_ParseAct.l1 k s ns K) res
  |0,K,hK,h1,hJ,hr=>by
    refine evs ?_
    simp only[spec_ParseAct.l1]
    simp only[if_neg (show ¬K≤5 by omega)]
    rcases hr with⟨rfl,_⟩|⟨J,_,hk,he,_⟩
    · exact Ev.now _
    · obtain⟨hj,_⟩:=aok_in hk
      exact absurd ⟨hk,he⟩ (hJ J (by omega) (by omega))
  |m+1,K,hK,h1,hJ,hr=>by
    refine evs ?_
    simp only[spec_ParseAct.l1]
    simp only[if_pos (show K≤5 by omega),if_pos (show(0:Int)<(ns.length:Int) by omega),if_pos (show(1:Int)<(ns.length:Int) by omega),if_pos (show(2:Int)<(ns.length:Int) by omega)]
    refine Ev.bind (sfa_eq K (rd ns 0) (rd ns 1) (rd ns 2)) ?_
    simp only[ByteArray.toList_eq]
    have go_on:¬(aok K (rd ns 0) (rd ns 1) (rd ns 2)=true∧(fa K (rd ns 0) (rd ns 1) (rd ns 2)).1.data.toList=s.data.toList)→Ev (fun k=>spec_ParseAct.l1 k s ns (wrap64 (K+1))) res:=fun hn=>by
      rw[IntWalk.wrap64_in _ (by omega)]
      refine sp_l1 s ns h3 res m (K+1) (by omega) (by omega) (fun J a b=> ?_) hr
      by_cases e:J=K
      · subst e;exact hn
      · exact hJ J a (by omega)
    by_cases hk:aok K (rd ns 0) (rd ns 1) (rd ns 2)=true
    · simp only[(fa_tx hk).2,if_true]
      by_cases he:(fa K (rd ns 0) (rd ns 1) (rd ns 2)).1.data.toList=s.data.toList
      · simp only[if_pos he]
        rcases hr with⟨_,hn⟩|⟨J,rfl,_,_,hu⟩
        · exact absurd ⟨hk,he⟩ (hn K)
        · rw[hu K ⟨hk,he⟩];exact Ev.now _
      · simp only[if_neg he]
        exact go_on (fun hh=>he hh.2)
    · simp only[fa_not hk,Bool.false_eq_true,if_false]
      exact go_on (fun hh=>hk hh.1)
theorem vl_rd (rs:List ByteArray) (i:Nat) (hi:i<3):rd (rs.map (fun x=>(pu x).1)++ [0,0,0]) (i:Int)=vl rs i:=by
  rw[Loops.rd_nat,List.getD_eq_getElem?_getD]
  unfold vl
  by_cases h:i<rs.length
  · rw[if_pos h,List.getElem?_append_left (by simpa using h),List.getElem?_map,List.getElem?_eq_getElem h,List.getD_eq_getElem?_getD,List.getElem?_eq_getElem h];rfl
  · rw[if_neg h,List.getElem?_append_right (by simp;omega),List.length_map]
    obtain⟨j,hj⟩:∃j,i - rs.length=j:=⟨_,rfl⟩
    have:j<3:=by omega
    rw[hj]
    have h4:j=0∨j=1∨j=2:=by omega
    rcases h4 with rfl|rfl|rfl<;>rfl
theorem sp_l0 (f0:ByteArray) (all:List ByteArray) (hall:all.length≤3) (hg:∀x ∈ f0::all,Good x.data.toList) (hsh:∀x ∈ f0::all,x.data.toList.length≤600):
    ∀(rs done:List ByteArray),all=done++rs→ ∀(s:ByteArray),s.data.toList=jn ((f0::done).map (·.data.toList))→s.size≤601 * (done.length+1)→
    Ev (fun k=>spec_ParseAct.l0 k (f0::all) s (done.map fun x=>(pu x).1) ((done.length+1:Nat):Int)) (pa (f0::all))
  | [],done,h,s,hs,hz=>by
    rw[List.append_nil]at h
    subst h
    refine evs ?_
    simp only[spec_ParseAct.l0]
    simp only[if_neg (show ¬((all.length+1:Nat):Int)<(((f0::all).length:Nat):Int) by simp),Option.bind_some]
    simp only[if_pos (show(all.map fun x=>(pu x).1).length+([0,0,0]:List Int).length<17592186044416 by simp;omega)]
    refine sp_l1 s _ (by simp) (pa (f0::all)) 5 1 (by omega) (by omega) (fun J a b=>by omega) ?_
    have v0:rd (all.map (fun x=>(pu x).1)++ [0,0,0]) 0=vl all 0:=vl_rd all 0 (by omega)
    have v1:rd (all.map (fun x=>(pu x).1)++ [0,0,0]) 1=vl all 1:=vl_rd all 1 (by omega)
    have v2:rd (all.map (fun x=>(pu x).1)++ [0,0,0]) 2=vl all 2:=vl_rd all 2 (by omega)
    rw[v0,v1,v2,hs]
    unfold pa
    dsimp only
    by_cases hc:all.length≤3∧allok all=true∧aok (Km.look KS f0.data.toList) (vl all 0) (vl all 1) (vl all 2)=true∧(fa (Km.look KS f0.data.toList) (vl all 0) (vl all 1) (vl all 2)).1.data.toList=jn ((f0::all).map (·.data.toList))
    · rw[if_pos hc]
      right
      refine⟨_,rfl,hc.2.2.1,hc.2.2.2,fun J' hJ'=> ?_⟩
      exact(core_ok hJ'.1 hg hJ'.2).1.symm
    · rw[if_neg hc]
      left
      refine⟨rfl,fun J hJ=>hc ?_⟩
      obtain⟨e1,e2⟩:=core_ok hJ.1 hg hJ.2
      rw[e1]
      exact⟨hall,e2,hJ.1,hJ.2⟩
  |x::rs,done,h,s,hs,hz=>by
    have hlen:all.length=done.length+(rs.length+1):=by rw[h];simp
    have hx:rdOf ByteArray.empty (f0::all) ((done.length+1:Nat):Int)=x:=by
      rw[Loops.rdOf_nat,List.getD_eq_getElem?_getD,List.getElem?_cons_succ,h,List.getElem?_append_right (Nat.le_refl _),Nat.sub_self];rfl
    have hxs:=hsh x (by rw[h];simp)
    have hxs':x.size≤600:=by simpa using hxs
    have z1:(⟨#[32]⟩:ByteArray).size=1:=rfl
    refine evs ?_
    simp only[spec_ParseAct.l0]
    simp only[if_pos (show((done.length+1:Nat):Int)<(((f0::all).length:Nat):Int) by rw[List.length_cons];omega),hx,ByteArray.size_append,z1]
    simp only[if_pos (show s.size+1≤9223372036854775807 by omega),if_pos (show(0:Int)≤((done.length+1:Nat):Int) by omega),if_pos (show s.size+1+x.size≤9223372036854775807 by omega)]
    refine Ev.bind (spu_eq x) ?_
    simp only[if_pos (show(done.map fun x=>(pu x).1).length<17592186044416 by rw[List.length_map];omega)]
    rw[IntWalk.wrap64_in _ (by omega),show((done.length+1:Nat):Int)+1=(((done++ [x]).length+1:Nat):Int) by simp,show(done.map fun x=>(pu x).1)++ [(pu x).1]=(done++ [x]).map fun x=>(pu x).1 by simp]
    refine sp_l0 f0 all hall hg hsh rs (done++ [x]) (by rw[h];simp) _ ?_ ?_
    · have e:=jn_snoc ((f0::done).map (·.data.toList)) x.data.toList (by simp)
      rw[show(f0::(done++ [x])).map (·.data.toList)=(f0::done).map (·.data.toList)++ [x.data.toList] by simp,e,←hs]
      simp[ByteArray.data_append]
    · rw[ByteArray.size_append,ByteArray.size_append,z1,List.length_append]
      simp
      omega
theorem spa_eq (s:ByteArray):Ev (fun k=>spec_ParseAct.f k s) (paa s):=by
  unfold spec_ParseAct.f paa
  refine Ev.bind (ssf_eq s) ?_
  rcases hs:sf s with⟨fs,ok⟩
  have hj:∀fs:List ByteArray,Ev (fun k=>spec_ParseAct.j0 k fs true) (0,0,0,0,false):=fun fs=>Loops.Ev.one (fun k=>by simp only[spec_ParseAct.j0,if_true])
  cases ok with
  |false=>simp only[Bool.false_eq_true,if_false];exact hj fs
  |true=>
    simp only[if_true]
    have hg:=sf_good hs
    have hsh:=sf_short hs
    by_cases h4:1≤fs.length∧fs.length≤4
    · have hi:spec_l01In.f (fs.length:Int) 1 4=some true:=by unfold spec_l01In.f;rw[if_pos (by omega),decide_eq_true (by omega)]
      simp only[hi,Option.bind_some,Bool.not_true]
      refine evs ?_
      simp only[spec_ParseAct.j0,Bool.false_eq_true,if_false]
      simp only[if_pos (show(0:Int)<(fs.length:Int) by omega)]
      cases fs with
      |nil=>simp at h4
      |cons f0 rs=>
        have e0:rdOf ByteArray.empty (f0::rs) 0=f0:=rfl
        rw[e0]
        have h0:=hsh f0 (by simp)
        refine sp_l0 f0 rs (by simp at h4;omega) hg hsh rs [] rfl f0 rfl ?_
        have:f0.size≤600:=by simpa using h0
        simp
        omega
    · have hi:spec_l01In.f (fs.length:Int) 1 4=some false:=by
        unfold spec_l01In.f
        by_cases h1:(fs.length:Int) ≥ 1
        · rw[if_pos h1,decide_eq_false (by omega)]
        · rw[if_neg h1]
      simp only[hi,Option.bind_some,Bool.not_false]
      refine Loops.Ev.eq (hj fs) ?_
      cases fs with
      |nil=>rfl
      |cons f0 rs=>
        unfold pa
        simp at h4
        dsimp only
        rw[if_neg (fun hh=>by omega)]
theorem FnExactParseAct:∀(a0:ByteArray),(a0.size≤maxLen)→ ∃k,laws_FnExactParseAct.f k a0=some true:=by
  intro s _
  refine Ev.rounds ?_
  unfold laws_FnExactParseAct.f
  by_cases h:(s.size:Int) >1048576
  · simp only[if_pos h];exact Ev.now _
  simp only[if_neg h]
  refine Ev.bind (spa_eq s) (Ev.bind (ipa_eq s) ?_)
  refine Loops.Ev.const ?_
  unfold laws_eqAct.f
  simp
end Go.Proofs.YtgdnlmfoghpeoaaDoor.Pure
