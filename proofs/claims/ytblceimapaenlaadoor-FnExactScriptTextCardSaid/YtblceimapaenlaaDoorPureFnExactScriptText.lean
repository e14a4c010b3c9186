/- The pure part of FnExactScriptText: over numbers and lists alone. No condition beyond the numbers' own kinds. -/
import Derived.Test.YtblceimapaenlaaDoorQFnExactScriptText2
import Derived.Test.YtblceimapaenlaaDoorLot
import Derived.Lib.ItoaLen
namespace Go.Proofs.YtblceimapaenlaaDoor.Pure
open Go.RowKit Go.Proofs.YtblceimapaenlaaDoor.PFnExactScriptText Go.Proofs.YtblceimapaenlaaDoorW.PrintWords Go.Proofs.YtblceimapaenlaaDoorW.PrintLast Go.Proofs.YtblceimapaenlaaDoorW.PrintMore
set_option linter.unusedVariables false
set_option linter.unusedSimpArgs false
theorem within_eq (a b c:Int):impl_within.f a b c=some (decide (b≤a∧a≤c)):=by
 unfold impl_within.f
 by_cases h:a ≥ b
 ·rw[if_pos h];congr 1;simp;omega
 ·rw[if_neg h];congr 1;simp;omega
theorem in_eq (a b c:Int):spec_l01In.f a b c=some (decide (b≤a∧a≤c)):=by
 unfold spec_l01In.f
 by_cases h:a ≥ b
 ·rw[if_pos h];congr 1;simp;omega
 ·rw[if_neg h];congr 1;simp;omega
def jok (i p c r:Int):Bool:=decide (1≤i∧i≤9999) && (decide (1≤p∧p≤64) && (decide (1≤c∧c≤20) && decide (0≤r∧r≤9)))
theorem jok_true {i p c r:Int} (h:jok i p c r=true):(1≤i∧i≤9999)∧(1≤p∧p≤64)∧(1≤c∧c≤20)∧0≤r∧r≤9:=by
 simp only[jok,Bool.and_eq_true,decide_eq_true_eq]at h;omega
theorem jok_mk {i p c r:Int} (h:(1≤i∧i≤9999)∧(1≤p∧p≤64)∧(1≤c∧c≤20)∧0≤r∧r≤9):jok i p c r=true:=by
 simp only[jok,Bool.and_eq_true,decide_eq_true_eq];omega
theorem ijok_eq (i p c:Int) (d:Bool) (r:Int) (h:Bool):impl_JobOk.f i p c d r h=some (jok i p c r):=by
 unfold impl_JobOk.f jok
 simp only[within_eq,Option.bind_some]
 cases decide (1≤i∧i≤9999)<;>cases decide (1≤p∧p≤64)<;>cases decide (1≤c∧c≤20)<;>simp
theorem sjok_eq (i p c:Int) (d:Bool) (r:Int) (h:Bool):spec_JobOk.f i p c d r h=some (jok i p c r):=by
 unfold spec_JobOk.f jok
 simp only[in_eq,Option.bind_some]
 cases decide (1≤i∧i≤9999)<;>cases decide (1≤p∧p≤64)<;>cases decide (1≤c∧c≤20)<;>simp
def aok (k a b c:Int):Bool:=if k=1 then jok a b 1 c else if k=2∨k=4 then decide (a=0∧b=0∧c=0) else if k=3 then decide ((1≤a∧a≤5)∧b=0∧c=0) else if k=5 then decide ((1≤a∧a≤9999)∧b=0∧c=0) else false
theorem zero3 (a b c:Int):(if a=0 then(if b=0 then(some (c==0)) else some false) else some false)=some (decide (a=0∧b=0∧c=0)):=by
 by_cases h:a=0<;>by_cases h2:b=0<;>by_cases h3:c=0<;>simp[h,h2,h3]
theorem zero2 (p:Prop) [Decidable p] (b c:Int):(if decide p=true then(if b=0 then(some (c==0)) else some false) else some false)=some (decide (p∧b=0∧c=0)):=by
 by_cases h:p<;>by_cases h2:b=0<;>by_cases h3:c=0<;>simp[h,h2,h3]
theorem iaok_eq (K a b c:Int):Ev (fun k=>impl_ActOk.f k K a b c) (aok K a b c):=by
 unfold impl_ActOk.f aok
 by_cases h1:K=1
 ·simp only[if_pos h1,impl_jobOf.f,ijok_eq,Option.bind_some]
  exact Ev.now _
 simp only[if_neg h1]
 by_cases h2:K=2
 ·simp only[if_pos h2,h2,true_or,if_true]
  exact Loops.Ev.one (fun k=>by simp only[impl_ActOk.j0,beq_self_eq_true,if_true,zero3])
 simp only[if_neg h2]
 by_cases h4:K=4
 ·simp only[h4,or_true,if_true]
  exact Loops.Ev.one (fun k=>by simp only[impl_ActOk.j0,beq_self_eq_true,if_true,zero3])
 rw[if_neg (show ¬(K=2∨K=4) by omega)]
 refine Loops.Ev.one (fun k=> ?_)
 simp only[impl_ActOk.j0]
 rw[if_neg (by simp[h4])]
 by_cases h3:K=3
 ·simp only[if_pos h3,within_eq,Option.bind_some,zero2]
 simp only[if_neg h3]
 by_cases h5:K=5
 ·simp only[if_pos h5,within_eq,Option.bind_some,zero2]
 ·simp only[if_neg h5]
theorem saok_eq (K a b c:Int):Ev (fun k=>spec_ActOk.f k K a b c) (aok K a b c):=by
 unfold spec_ActOk.f aok
 by_cases h1:K=1
 ·simp only[if_pos h1,spec_l39Job.f,sjok_eq,Option.bind_some]
  exact Ev.now _
 simp only[if_neg h1]
 by_cases h3:K=3
 ·simp only[if_pos h3,if_neg (show ¬(K=2∨K=4) by omega),in_eq,Option.bind_some,zero2]
  exact Ev.now _
 simp only[if_neg h3]
 by_cases h2:K=2
 ·simp only[if_pos h2,h2,true_or,if_true]
  exact Loops.Ev.one (fun k=>by simp only[spec_ActOk.j0,beq_self_eq_true,if_true,zero3])
 simp only[if_neg h2]
 by_cases h4:K=4
 ·simp only[h4,or_true,if_true]
  exact Loops.Ev.one (fun k=>by simp only[spec_ActOk.j0,beq_self_eq_true,if_true,zero3])
 rw[if_neg (show ¬(K=2∨K=4) by omega)]
 refine Loops.Ev.one (fun k=> ?_)
 simp only[spec_ActOk.j0]
 rw[if_neg (by simp[h4])]
 by_cases h5:K=5
 ·simp only[if_pos h5,in_eq,Option.bind_some,zero2]
 ·simp only[if_neg h5]
def I (n:Int):ByteArray:=⟨(Lib.itoa n).toArray⟩
theorem I_size (n:Int) (h0: -9223372036854775808≤n) (h1:n≤9223372036854775807):(I n).size≤21:=by
 have:=Lib.itoa_length_le n h0 h1
 show(Lib.itoa n).toArray.size≤21
 simpa using this
def dg0 (u:Nat):List UInt8:=if u=0 then [] else Lib.decDigits u
theorem dg0_step (u:Nat) (h:0<u):dg0 u=dg0 (u / 10)++ [UInt8.ofNat (48+u % 10)]:=by
 unfold dg0
 rw[if_neg (by omega),Lib.decDigits]
 by_cases h1:u<10
 ·rw[dif_pos h1,if_pos (by omega),Nat.mod_eq_of_lt h1];rfl
 ·rw[dif_neg h1,if_neg (by omega)]
theorem ba_nil (s:ByteArray):(⟨([]:List UInt8).toArray⟩:ByteArray)++s=s:=by
 apply ByteArray.ext;simp[ByteArray.data_append]
theorem ba_app (xs ys:List UInt8) (s:ByteArray):(⟨xs.toArray⟩:ByteArray)++((⟨ys.toArray⟩:ByteArray)++s)=(⟨(xs++ys).toArray⟩:ByteArray)++s:=by
 apply ByteArray.ext
 simp only[ByteArray.data_append]
 rw[←Array.append_assoc]
 simp
theorem sfig (d:Nat) (h:d<10):spec_l01Figure.f (d:Int)=some ((48+d:Nat):Int):=by
 unfold spec_l01Figure.f
 rw[if_pos (by omega),IntWalk.wrap64_in _ (by omega)]
 congr 1
 omega
theorem sfmt_loop:∀(u:Nat) (s:ByteArray),s.size+u≤9223372036854775807→Ev (fun k=>spec_FormatInt.l0 k (u:Int) false s) ((⟨(dg0 u).toArray⟩:ByteArray)++s):=by
 intro u
 induction u using Nat.strongRecOn with
 |_ u ih=>
  intro s hs
  by_cases h0:u=0
  ·subst h0
   refine Loops.Ev.one (fun k=> ?_)
   simp only[spec_FormatInt.l0]
   rw[if_pos (by rfl),if_neg (by simp)]
   simp only[dg0,if_true,ba_nil]
  ·have hm:Int.tmod (u:Int) 10=((u % 10:Nat):Int):=by rw[Int.tmod_eq_emod_of_nonneg (by omega)];omega
   have hd:Int.tdiv (u:Int) 10=((u / 10:Nat):Int):=by rw[Int.tdiv_eq_ediv_of_nonneg (by omega)];omega
   have hst:strOfNums [((48+u % 10:Nat):Int)]=(⟨[UInt8.ofNat (48+u % 10)].toArray⟩:ByteArray):=by unfold strOfNums;rw[List.map_cons,List.map_nil,Int.toNat_natCast]
   refine Ev.step (f:=fun k=>spec_FormatInt.l0 k ((u / 10:Nat):Int) false ((⟨[UInt8.ofNat (48+u % 10)].toArray⟩:ByteArray)++s)) (fun k=> ?_) ?_
   ·simp only[spec_FormatInt.l0]
    rw[if_neg (by omega),hm,if_neg (by omega),sfig _ (Nat.mod_lt _ (by decide))]
    simp only[Option.bind_some,hst,hd]
    rw[if_pos (by show 1+s.size≤_;omega),IntWalk.wrap64_in _ (by omega)]
   ·refine Loops.Ev.eq (ih (u / 10) (by omega) _ ?_) ?_
    ·rw[ByteArray.size_append]
     show 1+s.size+u / 10≤_
     omega
    ·rw[ba_app,←dg0_step u (by omega)]
theorem sfmt_eq (n:Int) (h0:0≤n) (h1:n≤9223372036854775807):Ev (fun k=>spec_FormatInt.f k n) (I n):=by
 unfold spec_FormatInt.f
 obtain⟨u,rfl⟩:∃u:Nat,n=u:=⟨n.toNat,by omega⟩
 by_cases hz:u=0
 ·subst hz
  refine Loops.Ev.const ?_
  try rw[if_pos rfl]
  have e0:Lib.itoa 0= [48]:=by
   have h:=Lib.itoa_nonneg 0
   rw[Lib.decDigits,dif_pos (by decide)]at h
   exact h
  simp[I,e0]
 ·have hf:decide ((u:Int)<0)=false:=decide_eq_false (by omega)
  simp only[if_neg (show ¬((u:Int)=0) by omega),hf]
  refine Loops.Ev.eq (sfmt_loop u ⟨#[]⟩ (by show 0+u≤_;omega)) ?_
  apply ByteArray.ext
  simp[I,Lib.itoa_nonneg,dg0,hz,ByteArray.data_append]
theorem ifmt_eq (n:Int) (h0: -9223372036854775808≤n) (h1:n≤9223372036854775807):impl_FormatInt.f n=some (I n):=by
 have e:∀x:Option ByteArray,(x.bind fun t=>some t)=x:=fun x=>by cases x<;>rfl
 unfold impl_FormatInt.f
 rw[e]
 first|(unfold strconv_Itoa.f;rw[if_pos h0,if_pos h1];rfl)|(unfold strconv_Itoa_43.f;rw[if_pos h0,if_pos h1];rfl)
def fa (K a b c:Int):ByteArray×Bool:=if aok K a b c=true then((if K=1 then(⟨#[97,100,100,32]⟩:ByteArray)++I a++(⟨#[32]⟩:ByteArray)++I b++(⟨#[32]⟩:ByteArray)++I c else if K=2 then(⟨#[116,97,107,101]⟩:ByteArray) else if K=3 then(⟨#[108,105,110,101,32]⟩:ByteArray)++I a else if K=4 then(⟨#[102,105,110,105,115,104]⟩:ByteArray) else(⟨#[114,101,108,101,97,115,101,32]⟩:ByteArray)++I a),true) else((⟨#[]⟩:ByteArray),false)
theorem aok_in {K a b c:Int} (h:aok K a b c=true):(K=1∨K=2∨K=3∨K=4∨K=5)∧(0≤a∧a≤9999)∧(0≤b∧b≤9999)∧(0≤c∧c≤9999):=by
 unfold aok at h
 by_cases h1:K=1
 ·rw[if_pos h1]at h
  unfold jok at h
  simp only[decide_eq_true_eq,Bool.and_eq_true]at h
  omega
 rw[if_neg h1]at h
 by_cases h2:K=2∨K=4
 ·rw[if_pos h2]at h
  simp only[decide_eq_true_eq]at h
  omega
 rw[if_neg h2]at h
 by_cases h3:K=3
 ·rw[if_pos h3]at h
  simp only[decide_eq_true_eq]at h
  omega
 rw[if_neg h3]at h
 by_cases h5:K=5
 ·rw[if_pos h5]at h
  simp only[decide_eq_true_eq]at h
  omega
 rw[if_neg h5]at h
 cases h
theorem ifa_eq (K a b c:Int):Ev (fun k=>impl_FormatAct.f k K a b c) (fa K a b c):=by
 unfold impl_FormatAct.f
 refine Ev.bind (iaok_eq K a b c) ?_
 unfold fa
 by_cases hk:aok K a b c=true
 ·simp only[if_pos hk]
  obtain⟨hK,ha,hb,hc⟩:=aok_in hk
  have sa:=I_size a (by omega) (by omega)
  have sb:=I_size b (by omega) (by omega)
  have sc:=I_size c (by omega) (by omega)
  simp only[ifmt_eq a (by omega) (by omega),ifmt_eq b (by omega) (by omega),ifmt_eq c (by omega) (by omega),Option.bind_some]
  refine Loops.Ev.const ?_
  have z4:(⟨#[97,100,100,32]⟩:ByteArray).size=4:=rfl
  have z1:(⟨#[32]⟩:ByteArray).size=1:=rfl
  by_cases h1:K=1
  ·simp only[if_pos h1,ByteArray.size_append,z4,z1]
   rw[if_pos (by omega),if_pos (by omega),if_pos (by omega),if_pos (by omega),if_pos (by omega)]
  simp only[if_neg h1]
  by_cases h2:K=2
  ·simp only[if_pos h2]
  simp only[if_neg h2]
  by_cases h3:K=3
  ·simp only[if_pos h3]
   rw[if_pos (by omega)]
  simp only[if_neg h3]
  by_cases h4:K=4
  ·simp only[if_pos h4]
  simp only[if_neg h4]
  rw[if_pos (by omega)]
 ·simp only[if_neg hk]
  exact Ev.now _
theorem sfa_eq (K a b c:Int):Ev (fun k=>spec_FormatAct.f k K a b c) (fa K a b c):=by
 unfold spec_FormatAct.f
 refine Ev.bind (saok_eq K a b c) ?_
 unfold fa
 by_cases hk:aok K a b c=true
 ·simp only[if_pos hk,Option.bind_some]
  obtain⟨hK,ha,hb,hc⟩:=aok_in hk
  have sa:=I_size a (by omega) (by omega)
  have sb:=I_size b (by omega) (by omega)
  have sc:=I_size c (by omega) (by omega)
  have z1:(⟨#[32]⟩:ByteArray).size=1:=rfl
  have fA:=sfmt_eq a (by omega) (by omega)
  have fB:=sfmt_eq b (by omega) (by omega)
  have fC:=sfmt_eq c (by omega) (by omega)
  simp only[if_pos (show 0≤K by omega),if_pos (show K<(([(⟨#[]⟩:ByteArray),(⟨#[97,100,100]⟩:ByteArray),(⟨#[116,97,107,101]⟩:ByteArray),(⟨#[108,105,110,101]⟩:ByteArray),(⟨#[102,105,110,105,115,104]⟩:ByteArray),(⟨#[114,101,108,101,97,115,101]⟩:ByteArray)]:List ByteArray).length:Int) by simp only[List.length_cons,List.length_nil];omega)]
  rcases hK with rfl|rfl|rfl|rfl|rfl
  ·have e1:rdOf ByteArray.empty [(⟨#[]⟩:ByteArray),(⟨#[97,100,100]⟩:ByteArray),(⟨#[116,97,107,101]⟩:ByteArray),(⟨#[108,105,110,101]⟩:ByteArray),(⟨#[102,105,110,105,115,104]⟩:ByteArray),(⟨#[114,101,108,101,97,115,101]⟩:ByteArray)] 1=(⟨#[97,100,100]⟩:ByteArray):=rfl
   have e2:(⟨#[97,100,100]⟩:ByteArray)++(⟨#[32]⟩:ByteArray)=(⟨#[97,100,100,32]⟩:ByteArray):=rfl
   have z3:(⟨#[97,100,100]⟩:ByteArray).size=3:=rfl
   simp only[if_true,e1,z3,ByteArray.size_append,z1]
   simp only[if_pos (show 3+1≤9223372036854775807 by omega)]
   refine Ev.bind fA ?_
   simp only[if_pos (show 3+1+(I a).size≤9223372036854775807 by omega),if_pos (show 3+1+(I a).size+1≤9223372036854775807 by omega)]
   refine Ev.bind fB ?_
   simp only[if_pos (show 3+1+(I a).size+1+(I b).size≤9223372036854775807 by omega),if_pos (show 3+1+(I a).size+1+(I b).size+1≤9223372036854775807 by omega)]
   refine Ev.bind fC ?_
   simp only[if_pos (show 3+1+(I a).size+1+(I b).size+1+(I c).size≤9223372036854775807 by omega),e2]
   exact Ev.now _
  ·exact Ev.now _
  ·have e1:rdOf ByteArray.empty [(⟨#[]⟩:ByteArray),(⟨#[97,100,100]⟩:ByteArray),(⟨#[116,97,107,101]⟩:ByteArray),(⟨#[108,105,110,101]⟩:ByteArray),(⟨#[102,105,110,105,115,104]⟩:ByteArray),(⟨#[114,101,108,101,97,115,101]⟩:ByteArray)] 3=(⟨#[108,105,110,101]⟩:ByteArray):=rfl
   have e2:(⟨#[108,105,110,101]⟩:ByteArray)++(⟨#[32]⟩:ByteArray)=(⟨#[108,105,110,101,32]⟩:ByteArray):=rfl
   have z3:(⟨#[108,105,110,101]⟩:ByteArray).size=4:=rfl
   simp only[if_neg (show ¬((3:Int)=1) by omega),if_neg (show ¬((3:Int)=2) by omega),if_true,e1,z3,ByteArray.size_append,z1]
   simp only[if_pos (show 4+1≤9223372036854775807 by omega)]
   refine Ev.bind fA ?_
   simp only[if_pos (show 4+1+(I a).size≤9223372036854775807 by omega),e2]
   exact Ev.now _
  ·exact Ev.now _
  ·have e1:rdOf ByteArray.empty [(⟨#[]⟩:ByteArray),(⟨#[97,100,100]⟩:ByteArray),(⟨#[116,97,107,101]⟩:ByteArray),(⟨#[108,105,110,101]⟩:ByteArray),(⟨#[102,105,110,105,115,104]⟩:ByteArray),(⟨#[114,101,108,101,97,115,101]⟩:ByteArray)] 5=(⟨#[114,101,108,101,97,115,101]⟩:ByteArray):=rfl
   have e2:(⟨#[114,101,108,101,97,115,101]⟩:ByteArray)++(⟨#[32]⟩:ByteArray)=(⟨#[114,101,108,101,97,115,101,32]⟩:ByteArray):=rfl
   have z3:(⟨#[114,101,108,101,97,115,101]⟩:ByteArray).size=7:=rfl
   simp only[if_neg (show ¬((5:Int)=1) by omega),if_neg (show ¬((5:Int)=2) by omega),if_neg (show ¬((5:Int)=3) by omega),if_neg (show ¬((5:Int)=4) by omega),if_true,e1,z3,ByteArray.size_append,z1]
   simp only[if_pos (show 7+1≤9223372036854775807 by omega)]
   refine Ev.bind fA ?_
   simp only[if_pos (show 7+1+(I a).size≤9223372036854775807 by omega),e2]
   exact Ev.now _
 ·simp only[if_neg hk]
  exact Ev.now _
theorem szActS_eq (l:List S23) (a:Int) (hl:l.length≤9223372036854775807) (h0:0≤a) (h1:a≤1048576):∃t,laws_szActS.f l a=some t∧(0≤t→t≤a∧l.length≤1048576):=by
 unfold laws_szActS.f
 rw[Loops.wrap_in (show -9223372036854775808≤a - (l.length:Int) by omega) (by omega)]
 by_cases h:a - (l.length:Int)<0
 ·rw[if_pos h];exact⟨-1,rfl,fun h=>absurd h (by omega)⟩
 ·rw[if_neg h];exact⟨_,rfl,fun h=>by omega⟩
def aconv (x:S23):S26:=⟨x.f0,x.f1,x.f2,x.f3⟩
theorem toActS_eq (l:List S23) (hl:l.length≤1048576):Ev (fun k=>laws_toActS.f k l) (l.map aconv):=by
 unfold laws_toActS.f
 simp only[if_pos (show(0:Int)≤(l.length:Int) by omega),Int.toNat_natCast,if_pos (show l.length≤8796093022208 by omega)]
 refine Loops.map_loop (G:=fun k i o=>laws_toActS.l0 k l o i) l z23 z26 aconv (fun k i o hi ho=> ?_) (fun k o=> ?_)
 ·simp only[laws_toActS.l0,laws_toAct.f,Option.bind_some]
  rw[if_pos (by omega),if_pos (by omega),if_pos (by omega),Loops.wrap_succ hi (by omega)]
  simp[rd_T23,aconv]
 ·simp only[laws_toActS.l0]
  rw[if_neg (by omega)]
theorem eqAct_eq (a b c d:Int):laws_eqAct.f a b c d a b c d=some true:=by
 unfold laws_eqAct.f
 simp
theorem eqActS_eq (l:List S26) (hl:l.length≤4194304):Ev (fun k=>laws_eqActS.f k l l) true:=by
 unfold laws_eqActS.f
 simp only[if_true]
 exact Loops.plain_loop (G:=fun k i=>laws_eqActS.l0 k l l i) l.length (by omega) (fun k i hi=>by
  simp only[laws_eqActS.l0,eqAct_eq,Option.bind_some,if_true]
  rw[if_pos (by omega),if_pos (by omega),if_pos (by omega)]) (fun k=>by
  simp only[laws_eqActS.l0]
  rw[if_neg (by omega)])
theorem bytes_len (s:ByteArray):(bytesOf s).length=s.size:=by simp[bytesOf]
theorem fa_size (K a b c:Int):(fa K a b c).1.size≤80:=by
 unfold fa
 by_cases hk:aok K a b c=true
 ·rw[if_pos hk]
  obtain⟨hK,ha,hb,hc⟩:=aok_in hk
  have sa:=I_size a (by omega) (by omega)
  have sb:=I_size b (by omega) (by omega)
  have sc:=I_size c (by omega) (by omega)
  have z4:(⟨#[97,100,100,32]⟩:ByteArray).size=4:=rfl
  have z1:(⟨#[32]⟩:ByteArray).size=1:=rfl
  have y1:(⟨#[116,97,107,101]⟩:ByteArray).size=4:=rfl
  have y2:(⟨#[108,105,110,101,32]⟩:ByteArray).size=5:=rfl
  have y3:(⟨#[102,105,110,105,115,104]⟩:ByteArray).size=6:=rfl
  have y4:(⟨#[114,101,108,101,97,115,101,32]⟩:ByteArray).size=8:=rfl
  dsimp only
  repeat' split
  all_goals simp only[ByteArray.size_append,z4,z1,y1,y2,y3,y4]
  all_goals omega
 ·rw[if_neg hk]
  show 0≤80
  omega
def stx (acc:List Int):List S26→ByteArray×Bool
 | []=>(strOfNums acc,true)
 |x::xs=>if(fa x.f0 x.f1 x.f2 x.f3).2=true then stx (acc++bytesOf ((fa x.f0 x.f1 x.f2 x.f3).1++(⟨#[10]⟩:ByteArray))) xs else((⟨#[]⟩:ByteArray),false)
theorem rdA2 (l:List S26) (i:Nat):rd_T26 l (i:Int)=l.getD i z26:=by simp[rd_T26]
theorem iscript_loop (A:List S26) (hA:A.length≤40):∀(d i:Nat) (acc:List Int),i+d=A.length→acc.length≤100 * i→
  Ev (fun k=>impl_ScriptText.l0 k acc A (A.length:Int) (i:Int)) (stx acc (A.drop i)):=by
 intro d
 induction d with
 |zero=>
  intro i acc hi ha
  obtain rfl:i=A.length:=by omega
  rw[List.drop_length]
  refine Loops.Ev.one (fun k=> ?_)
  simp only[impl_ScriptText.l0,stx,if_neg (show ¬(A.length:Int)<(A.length:Int) by omega)]
 |succ d ih=>
  intro i acc hi ha
  rw[Loops.drop_cons_getD A z26 i (by omega),stx]
  have hs:=fa_size (A.getD i z26).f0 (A.getD i z26).f1 (A.getD i z26).f2 (A.getD i z26).f3
  have hn:(⟨#[10]⟩:ByteArray).size=1:=rfl
  refine Loops.Ev.succ ?_
  simp only[impl_ScriptText.l0,if_pos (show(i:Int)<(A.length:Int) by omega),if_pos (show 0≤(i:Int) by omega),rdA2]
  refine Ev.bind (ifa_eq _ _ _ _) ?_
  by_cases hk:(fa (A.getD i z26).f0 (A.getD i z26).f1 (A.getD i z26).f2 (A.getD i z26).f3).2=true
  ·simp only[if_pos hk]
   simp only[if_pos (show(fa (A.getD i z26).f0 (A.getD i z26).f1 (A.getD i z26).f2 (A.getD i z26).f3).1.size+1≤9223372036854775807 by omega),if_pos (show acc.length+((fa (A.getD i z26).f0 (A.getD i z26).f1 (A.getD i z26).f2 (A.getD i z26).f3).1++(⟨#[10]⟩:ByteArray)).size<140737488355328 by rw[ByteArray.size_append];omega),Loops.wrap_succ (n:=A.length) (i:=i) (by omega) (by omega)]
   exact ih (i+1) _ (by omega) (by rw[List.length_append,bytes_len,ByteArray.size_append];omega)
  ·simp only[if_neg hk]
   exact Ev.now _
theorem sscript_loop (A:List S26) (hA:A.length≤40):∀(d i:Nat) (acc:List Int),i+d=A.length→acc.length≤100 * i→
  Ev (fun k=>spec_ScriptText.l0 k A acc (i:Int)) (stx acc (A.drop i)):=by
 intro d
 induction d with
 |zero=>
  intro i acc hi ha
  obtain rfl:i=A.length:=by omega
  rw[List.drop_length]
  refine Loops.Ev.one (fun k=> ?_)
  simp only[spec_ScriptText.l0,stx,if_neg (show ¬(A.length:Int)<(A.length:Int) by omega)]
 |succ d ih=>
  intro i acc hi ha
  rw[Loops.drop_cons_getD A z26 i (by omega),stx]
  have hs:=fa_size (A.getD i z26).f0 (A.getD i z26).f1 (A.getD i z26).f2 (A.getD i z26).f3
  have hn:(⟨#[10]⟩:ByteArray).size=1:=rfl
  refine Loops.Ev.succ ?_
  simp only[spec_ScriptText.l0,if_pos (show(i:Int)<(A.length:Int) by omega),if_pos (show 0≤(i:Int) by omega),rdA2]
  refine Ev.bind (sfa_eq _ _ _ _) ?_
  by_cases hk:(fa (A.getD i z26).f0 (A.getD i z26).f1 (A.getD i z26).f2 (A.getD i z26).f3).2=true
  ·simp only[if_pos hk,if_neg (show ¬(A.length:Int) >40 by omega)]
   simp only[if_pos (show(fa (A.getD i z26).f0 (A.getD i z26).f1 (A.getD i z26).f2 (A.getD i z26).f3).1.size+1≤9223372036854775807 by omega),if_pos (show acc.length+((fa (A.getD i z26).f0 (A.getD i z26).f1 (A.getD i z26).f2 (A.getD i z26).f3).1++(⟨#[10]⟩:ByteArray)).size<140737488355328 by rw[ByteArray.size_append];omega),Loops.wrap_succ (n:=A.length) (i:=i) (by omega) (by omega)]
   exact ih (i+1) _ (by omega) (by rw[List.length_append,bytes_len,ByteArray.size_append];omega)
  ·simp only[if_neg hk]
   exact Ev.now _
theorem script_both (A:List S26) (hA:A.length≤1048576):∃v,Ev (fun k=>spec_ScriptText.f k A) v∧Ev (fun k=>impl_ScriptText.f k A) v:=by
 by_cases h4:A.length≤40
 ·refine⟨stx [] A,?_,?_⟩
  ·unfold spec_ScriptText.f
   simpa using sscript_loop A h4 A.length 0 [] (by omega) (by simp)
  ·unfold impl_ScriptText.f
   simp only[if_neg (show ¬(A.length:Int) >40 by omega)]
   simpa using iscript_loop A h4 A.length 0 [] (by omega) (by simp)
 ·refine⟨((⟨#[]⟩:ByteArray),false),?_,?_⟩
  ·unfold spec_ScriptText.f
   refine Loops.Ev.succ ?_
   have e0:=rdA2 A 0
   simp only[Int.natCast_zero]at e0
   simp only[spec_ScriptText.l0,if_pos (show(0:Int)<(A.length:Int) by omega),if_pos (show(0:Int)≤0 by omega),e0]
   refine Ev.bind (sfa_eq _ _ _ _) ?_
   simp only[if_pos (show(A.length:Int) >40 by omega)]
   split
   ·exact Ev.now _
   ·exact Ev.now _
  ·unfold impl_ScriptText.f
   simp only[if_pos (show(A.length:Int) >40 by omega)]
   exact Ev.now _
theorem FnExactScriptText:∀(l0:List (S23)),(l0.length≤maxLen∧ ∀x ∈ l0,(Lit.int .i64 x.f0).wf=true∧(Lit.int .i64 x.f1).wf=true∧(Lit.int .i64 x.f2).wf=true∧(Lit.int .i64 x.f3).wf=true)→ ∃k,laws_FnExactScriptText.f k l0=some true:=by
 intro K ⟨hK,_⟩
 have e:maxLen=9223372036854775807:=by decide
 rw[e]at hK
 refine Ev.rounds ?_
 unfold laws_FnExactScriptText.f
 obtain⟨t2,ht2,hs2⟩:=szActS_eq K 1048576 hK (by omega) (by omega)
 simp only[ht2,Option.bind_some]
 by_cases h0:t2<0
 ·simp only[if_pos h0];exact Ev.now _
 obtain⟨_,hK⟩:=hs2 (by omega)
 simp only[if_neg h0]
 have ta:=toActS_eq K hK
 have hk:(K.map aconv).length=K.length:=by simp
 obtain⟨v,es,ei⟩:=script_both (K.map aconv) (by omega)
 refine Ev.bind ta (Ev.bind es (Ev.bind ta (Ev.bind ei ?_)))
 simp only[if_true,bne_self_eq_false]
 refine Loops.Ev.succ ?_
 simp only[laws_FnExactScriptText.j0,Bool.false_eq_true,if_false]
 refine Ev.bind ta (Ev.bind (eqActS_eq (K.map aconv) (by omega)) ?_)
 simp only[if_true]
 exact Ev.now _
end Go.Proofs.YtblceimapaenlaaDoor.Pure
