/- The pure part of FnExactFormatMachine: over numbers and lists alone. No condition beyond the numbers' own kinds. -/
import Derived.Test.YtblceimapaenlaaDoorQFnExactFormatMachine8
import Derived.Test.YtblceimapaenlaaDoorLot
import Derived.Lib.ItoaLen
namespace Go.Proofs.YtblceimapaenlaaDoor.Pure
open Go.RowKit Go.Proofs.YtblceimapaenlaaDoor.PFnExactFormatMachine Go.Proofs.YtblceimapaenlaaDoorW.PrintWords Go.Proofs.YtblceimapaenlaaDoorW.PrintLast Go.Proofs.YtblceimapaenlaaDoorW.PrintMore
set_option linter.unusedVariables false
set_option linter.unusedSimpArgs false
theorem within_eq (a b c:Int):impl_within.f a b c=some (decide (b≤a∧a≤c)):=by
  unfold impl_within.f
  by_cases h:a ≥ b
  · rw[if_pos h];congr 1;simp;omega
  · rw[if_neg h];congr 1;simp;omega
theorem in_eq (a b c:Int):spec_l01In.f a b c=some (decide (b≤a∧a≤c)):=by
  unfold spec_l01In.f
  by_cases h:a ≥ b
  · rw[if_pos h];congr 1;simp;omega
  · rw[if_neg h];congr 1;simp;omega
theorem toIntS_eq (l:List Int) (hl:l.length≤4194304):Ev (fun k=>laws_toIntS.f k l) l:=by
  unfold laws_toIntS.f
  simp only[if_pos (show(0:Int)≤(l.length:Int) by omega),Int.toNat_natCast,if_pos (show l.length≤35184372088832 by omega)]
  exact Loops.copy_loop (G:=fun k i o=>laws_toIntS.l0 k l o i) l 0 (by omega) (fun k i o=>by simp only[laws_toIntS.l0,rd])
theorem eqIntS_eq (l:List Int) (hl:l.length≤4194304):Ev (fun k=>laws_eqIntS.f k l l) true:=by
  unfold laws_eqIntS.f
  simp only[if_true]
  exact Loops.plain_loop (G:=fun k i=>laws_eqIntS.l0 k l l i) l.length (by omega) (fun k i hi=>by
    simp only[laws_eqIntS.l0]
    rw[if_pos (by omega),if_pos (by omega),if_pos (by omega),if_pos trivial]) (fun k=>by
    simp only[laws_eqIntS.l0]
    rw[if_neg (by omega)])
def seqB:Int→List Int→Bool
  |_,[]=>true
  |a,x::xs=>decide (x=a) && seqB (a+1) xs
theorem seqB_append (l m:List Int):∀a,seqB a (l++m)=(seqB a l && seqB (a+l.length) m):=by
  induction l with
  |nil=>intro a;simp[seqB]
  |cons x xs ih=>
    intro a
    simp only[List.cons_append,seqB,ih,Bool.and_assoc,List.length_cons]
    rw[show a+1+(xs.length:Int)=a+((xs.length+1:Nat):Int) by omega]
theorem seq_loop {G:Nat→Int→Option Bool} {r:Bool} (l:List Int) (a:Int) (hl:l.length≤9223372036854775807)
    (hG:∀k (i:Nat),i<l.length→G (k+1) (i:Int)=if l.getD i 0=a+i then G k (wrap64 ((i:Int)+1)) else some false)
    (fin:Ev (fun k=>G k (l.length:Int)) r):Ev (fun k=>G k 0) (seqB a l && r):=by
  have key:=Loops.back_loop (G:=fun k i (_:Unit)=>G k i) (fun i _=>seqB (a+i) (l.drop i) && r) l.length (fun i _ hi ih=>by
    rw[Loops.drop_cons_getD l 0 i hi]
    by_cases h:l.getD i 0=a+i
    · refine Ev.step (f:=fun k=>G k ((i+1:Nat):Int)) (fun k=>by rw[hG k i hi,if_pos h,Loops.wrap_succ hi hl]) ?_
      simp only[seqB,decide_eq_true h,Bool.true_and]
      rw[show a+(i:Int)+1=a+((i+1:Nat):Int) by omega]
      exact ih ()
    · refine Loops.Ev.one (fun k=> ?_)
      rw[hG k i hi,if_neg h]
      simp only[seqB,decide_eq_false h,Bool.false_and]) (fun _=>by simpa[seqB]using fin) ()
  simpa using key
theorem concat_eq (A B:List Int) (hA:A.length≤1048576) (hB:B.length≤1048576):Ev (fun k=>slices_Concat_int_int.f k [A,B]) (A++B):=by
  refine⟨6,fun k hk=> ?_⟩
  obtain⟨k,rfl⟩:∃j,k=j+6:=⟨k - 6,by omega⟩
  have w1:wrap64 (0+1)=1:=by unfold wrap64;omega
  have w2:wrap64 (1+1)=2:=by unfold wrap64;omega
  have hl:(([A,B].length:Nat):Int)=2:=rfl
  have e0:rd_L3 [A,B] 0=A:=rfl
  have e1:rd_L3 [A,B] 1=B:=rfl
  have wA:wrap64 (0+(A.length:Int))=A.length:=by unfold wrap64;omega
  have wB:wrap64 ((A.length:Int)+(B.length:Int))=A.length+B.length:=by unfold wrap64;omega
  unfold slices_Concat_int_int.f
  show slices_Concat_int_int.l0 (k+5+1) [A,B] 0 [A,B] (([A,B].length:Nat):Int) 0=_
  rw[slices_Concat_int_int.l0,hl,if_pos (by omega),if_pos (by omega),if_pos (by omega),e0,wA,if_neg (by omega),w1]
  show slices_Concat_int_int.l0 (k+4+1) [A,B] (A.length:Int) [A,B] 2 1=_
  rw[slices_Concat_int_int.l0,hl,if_pos (by omega),if_pos (by omega),if_pos (by omega),e1,wB,if_neg (by omega),w2]
  show slices_Concat_int_int.l0 (k+3+1) [A,B] ((A.length:Int)+B.length) [A,B] 2 2=_
  rw[slices_Concat_int_int.l0,hl,if_neg (by omega),if_neg (by omega),if_neg (by omega)]
  show slices_Concat_int_int.l1 (k+2+1) [] [A,B] 2 0=_
  rw[slices_Concat_int_int.l1,hl,if_pos (by omega),if_pos (by omega),if_pos (by omega),e0,if_pos (by simp;omega),w1,List.nil_append]
  show slices_Concat_int_int.l1 (k+1+1) A [A,B] 2 1=_
  rw[slices_Concat_int_int.l1,hl,if_pos (by omega),if_pos (by omega),if_pos (by omega),e1,if_pos (by omega),w2]
  show slices_Concat_int_int.l1 (k+1) (A++B) [A,B] 2 2=_
  rw[slices_Concat_int_int.l1,if_neg (by omega)]
def lineOk (s n:Int) (A B:List Int) (w:Int):Bool:=decide (((0≤s∧s≤40)∧n≤s)∧(A.length:Int)≤5∧(0≤w∧w≤100000)∧(B.length:Int)+A.length=n) && seqB 0 (B++A)
theorem iline_eq (s n:Int) (A B:List Int) (w:Int) (st:Bool) (hA:A.length≤1048576) (hB:B.length≤1048576):Ev (fun k=>impl_LineOk.f k s n A B w st) (lineOk s n A B w):=by
  have jt:Ev (fun k=>impl_LineOk.j0 k true s n A B w st) false:=Loops.Ev.one (fun k=>by simp only[impl_LineOk.j0,if_true])
  have jf:Ev (fun k=>impl_LineOk.j0 k false s n A B w st) (seqB 0 (B++A)):=by
    refine Loops.Ev.succ ?_
    simp only[impl_LineOk.j0,Bool.false_eq_true,if_false]
    refine(Ev.bind (concat_eq B A hB hA) ?_)
    have key:=seq_loop (G:=fun k i=>impl_LineOk.l0 k (B++A) ((B++A).length:Int) i) (r:=true) (B++A) 0 (by simp;omega) (fun k i hi=>by
      simp only[impl_LineOk.l0]
      rw[if_pos (by omega),if_pos (by omega),if_pos (by omega),Loops.rd_nat,Int.zero_add]) (Loops.Ev.one (fun k=>by
      simp only[impl_LineOk.l0]
      rw[if_neg (by omega)]))
    simpa using key
  unfold impl_LineOk.f lineOk
  simp only[within_eq,Option.bind_some,decide_eq_true_eq]
  by_cases h1:0≤s∧s≤40
  · simp only[if_pos h1]
    by_cases h2:n >s
    · simp only[if_pos h2]
      exact Loops.Ev.eq jt (by rw[decide_eq_false (by omega)];rfl)
    · simp only[if_neg h2]
      by_cases h3:(A.length:Int) >5
      · simp only[if_pos h3]
        exact Loops.Ev.eq jt (by rw[decide_eq_false (by omega)];rfl)
      · simp only[if_neg h3]
        by_cases h4:0≤w∧w≤100000
        · simp only[if_pos h4]
          rw[Loops.wrap_in (show -9223372036854775808≤(B.length:Int)+(A.length:Int) by omega) (by omega)]
          by_cases h5:(B.length:Int)+A.length=n
          · rw[show((B.length:Int)+(A.length:Int) !=n)=false by simp[h5],decide_eq_true (by omega),Bool.true_and]
            exact jf
          · rw[show((B.length:Int)+(A.length:Int) !=n)=true by simp[h5]]
            exact Loops.Ev.eq jt (by rw[decide_eq_false (by omega)];rfl)
        · simp only[if_neg h4]
          exact Loops.Ev.eq jt (by rw[decide_eq_false (by omega)];rfl)
  · simp only[if_neg h1]
    exact Loops.Ev.eq jt (by rw[decide_eq_false (by omega)];rfl)
theorem sline_eq (s n:Int) (A B:List Int) (w:Int) (st:Bool) (hA:A.length≤1048576) (hB:B.length≤1048576):Ev (fun k=>spec_LineOk.f k s n A B w st) (lineOk s n A B w):=by
  have jt:Ev (fun k=>spec_LineOk.j0 k true s n A B w st) false:=Loops.Ev.one (fun k=>by simp only[spec_LineOk.j0,if_true])
  have jf:Ev (fun k=>spec_LineOk.j0 k false s n A B w st) (seqB 0 (B++A)):=by
    refine Ev.step (f:=fun k=>spec_LineOk.l0 k 0 s n A B w st) (fun k=>by simp only[spec_LineOk.j0,Bool.false_eq_true,if_false]) ?_
    rw[seqB_append]
    refine seq_loop (G:=fun k i=>spec_LineOk.l0 k i s n A B w st) B 0 (by omega) (fun k i hi=>by
      simp only[spec_LineOk.l0]
      rw[if_pos (by omega),if_pos (by omega),Loops.rd_nat,Int.zero_add]) (Ev.step (f:=fun k=>spec_LineOk.l1 k 0 s n A B w st) (fun k=>by
      simp only[spec_LineOk.l0]
      rw[if_neg (by omega)]) ?_)
    have key:=seq_loop (G:=fun k i=>spec_LineOk.l1 k i s n A B w st) (r:=true) A (0+B.length) (by omega) (fun k i hi=>by
      simp only[spec_LineOk.l1]
      rw[if_pos (by omega),if_pos (by omega),Loops.rd_nat,Loops.wrap_in (show -9223372036854775808≤(B.length:Int)+(i:Int) by omega) (by omega),Int.zero_add]) (Loops.Ev.one (fun k=>by
      simp only[spec_LineOk.l1]
      rw[if_neg (by omega)]))
    simpa using key
  unfold spec_LineOk.f lineOk
  simp only[in_eq,Option.bind_some,decide_eq_true_eq]
  by_cases h1:0≤s∧s≤40
  · simp only[if_pos h1]
    by_cases h2:0≤n∧n≤s
    · simp only[if_pos h2]
      by_cases h3:(A.length:Int) >5
      · simp only[if_pos h3]
        exact Loops.Ev.eq jt (by rw[decide_eq_false (by omega)];rfl)
      · simp only[if_neg h3]
        by_cases h4:0≤w∧w≤100000
        · simp only[if_pos h4]
          rw[Loops.wrap_in (show -9223372036854775808≤(B.length:Int)+(A.length:Int) by omega) (by omega)]
          by_cases h5:(B.length:Int)+A.length=n
          · rw[show((B.length:Int)+(A.length:Int) !=n)=false by simp[h5],decide_eq_true (by omega),Bool.true_and]
            exact jf
          · rw[show((B.length:Int)+(A.length:Int) !=n)=true by simp[h5]]
            exact Loops.Ev.eq jt (by rw[decide_eq_false (by omega)];rfl)
        · simp only[if_neg h4]
          exact Loops.Ev.eq jt (by rw[decide_eq_false (by omega)];rfl)
    · simp only[if_neg h2]
      exact Loops.Ev.eq jt (by rw[decide_eq_false (by omega)];rfl)
  · simp only[if_neg h1]
    exact Loops.Ev.eq jt (by rw[decide_eq_false (by omega)];rfl)
theorem all_range {G:Nat→Int→Option Bool} {r:Bool} (n:Nat) (p:Nat→Bool) (step:∀(i:Nat) (R:Bool),i<n→Ev (fun k=>G k ((i+1:Nat):Int)) R→Ev (fun k=>G k (i:Int)) (p i && R))
    (fin:Ev (fun k=>G k (n:Int)) r):Ev (fun k=>G k 0) ((List.range n).all p && r):=by
  have key:∀(m i:Nat),i+m=n→Ev (fun k=>G k (i:Int)) ((List.range' i m).all p && r):=by
    intro m
    induction m with
    | zero => intro i h; obtain rfl : i = n := by omega
              simpa using fin
    |succ m ih=>
      intro i h
      have h2:=step i _ (by omega) (ih (i+1) (by omega))
      rw[←Bool.and_assoc]at h2
      rw[List.range'_succ,List.all_cons]
      exact h2
  have h:=key n 0 (by omega)
  rw[←List.range_eq_range']at h
  exact h
def jok (i p c r:Int):Bool:=decide (1≤i∧i≤9999) && (decide (1≤p∧p≤64) && (decide (1≤c∧c≤20) && decide (0≤r∧r≤9)))
theorem jok_true {i p c r:Int} (h:jok i p c r=true):(1≤i∧i≤9999)∧(1≤p∧p≤64)∧(1≤c∧c≤20)∧0≤r∧r≤9:=by
  simp only[jok,Bool.and_eq_true,decide_eq_true_eq]at h;omega
theorem jok_mk {i p c r:Int} (h:(1≤i∧i≤9999)∧(1≤p∧p≤64)∧(1≤c∧c≤20)∧0≤r∧r≤9):jok i p c r=true:=by
  simp only[jok,Bool.and_eq_true,decide_eq_true_eq];omega
theorem ijok_eq (i p c:Int) (d:Bool) (r:Int) (h:Bool):impl_JobOk.f i p c d r h=some (jok i p c r):=by
  unfold impl_JobOk.f jok
  simp only[within_eq,Option.bind_some]
  cases decide (1≤i∧i≤9999)<;>cases decide (1≤p∧p≤64)<;>cases decide (1≤c∧c≤20)<;>simp
theorem sjok_eq (i p c:Int) (d:Bool) (r:Int) (h:Bool):spec_JobOk.f i p c d r h=some (jok i p c r):=by
  unfold spec_JobOk.f jok
  simp only[in_eq,Option.bind_some]
  cases decide (1≤i∧i≤9999)<;>cases decide (1≤p∧p≤64)<;>cases decide (1≤c∧c≤20)<;>simp
theorem rdJ (l:List S40) (i:Nat):rd_T40 l (i:Int)=l.getD i z40:=by simp[rd_T40]
def jokAt (l:List S40) (i:Nat):Bool:=jok (l.getD i z40).f0 (l.getD i z40).f1 (l.getD i z40).f2 (l.getD i z40).f4
def newAt (l:List S40) (i:Nat):Bool:=(List.range i).all fun j=>decide ((l.getD j z40).f0≠(l.getD i z40).f0)
def jobsOk (l:List S40):Bool:=decide (l.length≤12) && (List.range l.length).all fun i=>jokAt l i && newAt l i
theorem jobIdx_first:∀(l:List S40) (b a:Int) (i:Nat),i<l.length→(l.getD i z40).f0=b→(jobIdx l b a=a+i ↔ ∀j,j<i→(l.getD j z40).f0≠b):=by
  intro l
  induction l with
  |nil=>intro b a i h;exact absurd h (by simp)
  |cons y ys ih=>
    intro b a i h hb
    unfold jobIdx
    cases i with
    |zero=>
      simp only[List.getD_cons_zero]at hb
      rw[if_pos hb]
      exact⟨fun _ j hj=>absurd hj (by omega),fun _=>by simp⟩
    |succ i=>
      simp only[List.getD_cons_succ]at hb
      by_cases hy:y.f0=b
      · rw[if_pos hy]
        exact⟨fun e=>absurd e (by omega),fun e=>absurd hy (e 0 (by omega))⟩
      · rw[if_neg hy]
        have h2:=ih b (a+1) i (by simpa using h) hb
        rw[show a+((i+1:Nat):Int)=a+1+(i:Int) by omega,h2]
        constructor
        · intro e j hj
          cases j with
          |zero=>exact hy
          |succ j=>exact e j (by omega)
        · intro e j hj
          exact e (j+1) (by omega)
theorem newAt_iff (l:List S40) (i:Nat) (h:i<l.length):(jobIdx l (l.getD i z40).f0 0=(i:Int)) ↔ newAt l i=true:=by
  have h1:=jobIdx_first l (l.getD i z40).f0 0 i h rfl
  rw[Int.zero_add]at h1
  rw[h1]
  unfold newAt
  rw[List.all_eq_true]
  constructor
  · intro e x hx
    exact decide_eq_true (e x (List.mem_range.1 hx))
  · intro e j hj
    exact of_decide_eq_true (e j (List.mem_range.2 hj))
theorem ijobs_eq (l:List S40):Ev (fun k=>impl_JobsOk.f k l) (jobsOk l):=by
  unfold impl_JobsOk.f jobsOk
  by_cases h:(l.length:Int) >12
  · simp only[if_pos h,decide_eq_false (show ¬l.length≤12 by omega),Bool.false_and]
    exact Ev.now _
  simp only[if_neg h,decide_eq_true (show l.length≤12 by omega),Bool.true_and]
  have key:=all_range (G:=fun k i=>impl_JobsOk.l0 k l l (l.length:Int) i) (r:=true) l.length (fun i=>jokAt l i && newAt l i) (fun i R hi hR=>by
    refine Loops.Ev.succ ?_
    simp only[impl_JobsOk.l0,if_pos (show(i:Int)<(l.length:Int) by omega),if_pos (show 0≤(i:Int) by omega),rdJ,ijok_eq,Option.bind_some,impl_jobAt.f,if_pos (show l.length<4611686018427387904 by omega)]
    rw[Loops.wrap_succ hi (by omega)]
    show Ev (fun k=>if jokAt l i=true then _ else _) _
    by_cases h1:jokAt l i=true
    · simp only[if_pos h1]
      by_cases h2:newAt l i=true
      · simp only[if_pos ((newAt_iff l i hi).2 h2),h1,h2,Bool.true_and]
        exact hR
      · simp only[if_neg (fun e=>h2 ((newAt_iff l i hi).1 e)),Bool.eq_false_iff.mpr h2,Bool.and_false,Bool.false_and]
        exact Ev.now _
    · simp only[if_neg h1,Bool.eq_false_iff.mpr h1,Bool.false_and]
      exact Ev.now _) (Loops.Ev.one (fun k=>by
      simp only[impl_JobsOk.l0]
      rw[if_neg (by omega)]))
  simpa using key
theorem sjobs_eq (l:List S40) (hl:l.length≤4194304):Ev (fun k=>spec_JobsOk.f k l) (jobsOk l):=by
  unfold spec_JobsOk.f jobsOk
  have key:=all_range (G:=fun k i=>spec_JobsOk.l0 k l i) (r:=decide (l.length≤12)) l.length (fun i=>jokAt l i && newAt l i) (fun i R hi hR=>by
    refine Loops.Ev.succ ?_
    simp only[spec_JobsOk.l0,if_pos (show(i:Int)<(l.length:Int) by omega),if_pos (show 0≤(i:Int) by omega),rdJ,sjok_eq,Option.bind_some]
    show Ev (fun k=>if jokAt l i=true then _ else _) _
    by_cases h1:jokAt l i=true
    · simp only[if_pos h1,h1,Bool.true_and]
      refine all_range (G:=fun k j=>spec_JobsOk.l1 k l (i:Int) j) (r:=R) i (fun j=>decide ((l.getD j z40).f0≠(l.getD i z40).f0)) (fun j R2 hj hR2=> ?_) (Loops.Ev.succ ?_)
      · refine Loops.Ev.succ ?_
        simp only[spec_JobsOk.l1,if_pos (show(j:Int)<(i:Int) by omega),if_pos (show 0≤(j:Int) by omega),if_pos (show(j:Int)<(l.length:Int) by omega),if_pos (show 0≤(i:Int) by omega),if_pos (show(i:Int)<(l.length:Int) by omega),rdJ]
        rw[Loops.wrap_succ hj (by omega)]
        by_cases h2:(l.getD j z40).f0=(l.getD i z40).f0
        · simp only[if_pos h2,decide_eq_false (show ¬((l.getD j z40).f0≠(l.getD i z40).f0) from fun e=>e h2),Bool.false_and]
          exact Ev.now _
        · simp only[if_neg h2,decide_eq_true h2,Bool.true_and]
          exact hR2
      · simp only[spec_JobsOk.l1,if_neg (show ¬(i:Int)<(i:Int) by omega)]
        rw[Loops.wrap_succ hi (by omega)]
        exact hR
    · simp only[if_neg h1,Bool.eq_false_iff.mpr h1,Bool.false_and]
      exact Ev.now _) (Loops.Ev.one (fun k=>by
      simp only[spec_JobsOk.l0]
      rw[if_neg (by omega)]
      congr 2
      apply propext
      omega))
  rw[Bool.and_comm]at key
  exact key
def sheets (p:Int) (d:Bool):Int:=if d=true then(p+1) / 2 else p
theorem sheets_in (p:Int) (d:Bool) (h:1≤p∧p≤64):1≤sheets p d∧sheets p d≤64:=by
  unfold sheets
  split<;>omega
def jsh (i p c:Int) (d:Bool) (r:Int):Int:=if jok i p c r=true then c * sheets p d else 0
theorem jsh_in (i p c:Int) (d:Bool) (r:Int):0≤jsh i p c d r∧jsh i p c d r≤1280:=by
  unfold jsh
  split
  · rename_i h
    have hj:=jok_true h
    have hs:=sheets_in p d hj.2.1
    have h1:0≤c * sheets p d:=Int.mul_nonneg (by omega) (by omega)
    have h2:c * sheets p d≤20 * sheets p d:=Int.mul_le_mul_of_nonneg_right (by omega) (by omega)
    omega
  · omega
set_option maxRecDepth 100000 in
theorem isheets_all:((List.range 64).all fun i=>(impl_SheetsFor.f 200 (1+(i:Int)) 1 true==some (sheets (1+(i:Int)) true)) && (impl_SheetsFor.f 200 (1+(i:Int)) 1 false==some (sheets (1+(i:Int)) false)))=true:=by decide+kernel
theorem isheets_eq (p:Int) (d:Bool) (h:1≤p∧p≤64):Ev (fun k=>impl_SheetsFor.f k p 1 d) (sheets p d):=by
  have h1:=List.all_eq_true.1 isheets_all (p - 1).toNat (List.mem_range.2 (by omega))
  rw[show 1+((p - 1).toNat:Int)=p by omega,Bool.and_eq_true]at h1
  refine Ev.of (k:=200) (fun k=>impl_SheetsFor.mono p 1 d k) ?_
  cases d with
  |true=>exact beq_iff_eq.1 h1.1
  |false=>exact beq_iff_eq.1 h1.2
theorem ijsh_eq (i p c:Int) (d:Bool) (r:Int) (h:Bool):Ev (fun k=>impl_JobSheets.f k i p c d r h) (jsh i p c d r):=by
  have hb:=jsh_in i p c d r
  unfold impl_JobSheets.f jsh
  unfold jsh at hb
  simp only[ijok_eq,Option.bind_some]
  by_cases hj:jok i p c r=true
  · simp only[if_pos hj]at hb ⊢
    have hk:=jok_true hj
    refine Ev.bind (isheets_eq p d hk.2.1) ?_
    rw[Loops.wrap_in (by omega) (by omega)]
    exact Ev.now _
  · simp only[if_neg hj]
    exact Ev.now _
set_option maxRecDepth 100000 in
theorem ssheets_all:((List.range 64).all fun i=>(spec_SheetsFor.f 200 (1+(i:Int)) 1 true==some (sheets (1+(i:Int)) true)) && (spec_SheetsFor.f 200 (1+(i:Int)) 1 false==some (sheets (1+(i:Int)) false)))=true:=by decide+kernel
theorem ssheets_eq (p:Int) (d:Bool) (h:1≤p∧p≤64):Ev (fun k=>spec_SheetsFor.f k p 1 d) (sheets p d):=by
  have h1:=List.all_eq_true.1 ssheets_all (p - 1).toNat (List.mem_range.2 (by omega))
  rw[show 1+((p - 1).toNat:Int)=p by omega,Bool.and_eq_true]at h1
  refine Ev.of (k:=200) (fun k=>spec_SheetsFor.mono p 1 d k) ?_
  cases d with
  |true=>exact beq_iff_eq.1 h1.1
  |false=>exact beq_iff_eq.1 h1.2
theorem sjsh_eq (i p c:Int) (d:Bool) (r:Int) (h:Bool):Ev (fun k=>spec_JobSheets.f k i p c d r h) (jsh i p c d r):=by
  have hb:=jsh_in i p c d r
  unfold spec_JobSheets.f jsh
  unfold jsh at hb
  simp only[sjok_eq,Option.bind_some]
  by_cases hj:jok i p c r=true
  · simp only[if_pos hj]at hb ⊢
    have hk:=jok_true hj
    refine Ev.bind (ssheets_eq p d hk.2.1) ?_
    rw[Loops.wrap_in (by omega) (by omega)]
    exact Ev.now _
  · simp only[if_neg hj]
    exact Ev.now _
def nowOk (i p c:Int) (d:Bool) (r:Int) (h:Bool) (s:Int):Bool:=if(i==0 && (p==0 && (c==0 && (!d && (r==0 && (!h))))))=true then(s==0) else(jok i p c r && (decide (jsh i p c d r≤40) && (jsh i p c d r==s)))
def mok (L:List S40) (i p c:Int) (d:Bool) (r:Int) (h:Bool) (s n:Int) (I O:List Int) (w:Int) (P:Int):Bool:=jobsOk L && (lineOk s n I O w && (decide (0≤P∧P≤100000) && nowOk i p c d r h s))
theorem imok_eq (L:List S40) (i p c:Int) (d:Bool) (r:Int) (h:Bool) (s n:Int) (I O:List Int) (w:Int) (st:Bool) (P:Int) (hI:I.length≤1048576) (hO:O.length≤1048576):
    Ev (fun k=>impl_MachineOk.f k L i p c d r h s n I O w st P) (mok L i p c d r h s n I O w P):=by
  have jt:Ev (fun k=>impl_MachineOk.j0 k true L i p c d r h s n I O w st P) false:=Loops.Ev.one (fun k=>by simp only[impl_MachineOk.j0,if_true])
  have jf:Ev (fun k=>impl_MachineOk.j0 k false L i p c d r h s n I O w st P) (nowOk i p c d r h s):=by
    refine Loops.Ev.succ ?_
    simp only[impl_MachineOk.j0,Bool.false_eq_true,if_false]
    unfold nowOk
    by_cases h0:(i==0 && (p==0 && (c==0 && (!d && (r==0 && (!h))))))=true
    · simp only[if_pos h0]
      exact Ev.now _
    simp only[if_neg h0,ijok_eq,Option.bind_some]
    by_cases hj:jok i p c r=true
    · simp only[if_pos hj,hj,Bool.true_and]
      refine Ev.bind (ijsh_eq i p c d r h) ?_
      by_cases h4:jsh i p c d r≤40
      · simp only[if_pos h4,decide_eq_true h4,Bool.true_and]
        exact Ev.bind (ijsh_eq i p c d r h) (Ev.now _)
      · simp only[if_neg h4,decide_eq_false h4,Bool.false_and]
        exact Ev.now _
    · simp only[if_neg hj,Bool.eq_false_iff.mpr hj,Bool.false_and]
      exact Ev.now _
  unfold impl_MachineOk.f mok
  refine Ev.bind (ijobs_eq L) ?_
  by_cases h1:jobsOk L=true
  · simp only[if_pos h1,h1,Bool.true_and]
    refine Ev.bind (iline_eq s n I O w st hI hO) ?_
    by_cases h2:lineOk s n I O w=true
    · simp only[if_pos h2,h2,Bool.true_and,within_eq,Option.bind_some]
      by_cases h3:0≤P∧P≤100000
      · simp only[decide_eq_true h3,Bool.not_true,Bool.true_and]
        exact jf
      · simp only[decide_eq_false h3,Bool.not_false,Bool.false_and]
        exact jt
    · simp only[if_neg h2,Bool.eq_false_iff.mpr h2,Bool.false_and]
      exact jt
  · simp only[if_neg h1,Bool.eq_false_iff.mpr h1,Bool.false_and]
    exact jt
theorem smok_eq (L:List S40) (i p c:Int) (d:Bool) (r:Int) (h:Bool) (s n:Int) (I O:List Int) (w:Int) (st:Bool) (P:Int) (hL:L.length≤4194304) (hI:I.length≤1048576) (hO:O.length≤1048576):
    Ev (fun k=>spec_MachineOk.f k L i p c d r h s n I O w st P) (mok L i p c d r h s n I O w P):=by
  have jt:Ev (fun k=>spec_MachineOk.j0 k true L i p c d r h s n I O w st P) false:=Loops.Ev.one (fun k=>by simp only[spec_MachineOk.j0,if_true])
  have jf:Ev (fun k=>spec_MachineOk.j0 k false L i p c d r h s n I O w st P) (nowOk i p c d r h s):=by
    refine Loops.Ev.succ ?_
    simp only[spec_MachineOk.j0,Bool.false_eq_true,if_false]
    unfold nowOk
    by_cases h0:(i==0 && (p==0 && (c==0 && (!d && (r==0 && (!h))))))=true
    · simp only[if_pos h0]
      exact Ev.now _
    simp only[if_neg h0,sjok_eq,Option.bind_some]
    by_cases hj:jok i p c r=true
    · simp only[if_pos hj,hj,Bool.true_and]
      refine Ev.bind (sjsh_eq i p c d r h) ?_
      by_cases h4:jsh i p c d r≤40
      · simp only[if_pos h4,decide_eq_true h4,Bool.true_and]
        exact Ev.bind (sjsh_eq i p c d r h) (Ev.now _)
      · simp only[if_neg h4,decide_eq_false h4,Bool.false_and]
        exact Ev.now _
    · simp only[if_neg hj,Bool.eq_false_iff.mpr hj,Bool.false_and]
      exact Ev.now _
  unfold spec_MachineOk.f mok
  refine Ev.bind (sjobs_eq L hL) ?_
  by_cases h1:jobsOk L=true
  · simp only[if_pos h1,h1,Bool.true_and]
    refine Ev.bind (sline_eq s n I O w st hI hO) ?_
    by_cases h2:lineOk s n I O w=true
    · simp only[if_pos h2,h2,Bool.true_and,in_eq,Option.bind_some]
      by_cases h3:0≤P∧P≤100000
      · simp only[decide_eq_true h3,Bool.not_true,Bool.true_and]
        exact jf
      · simp only[decide_eq_false h3,Bool.not_false,Bool.false_and]
        exact jt
    · simp only[if_neg h2,Bool.eq_false_iff.mpr h2,Bool.false_and]
      exact jt
  · simp only[if_neg h1,Bool.eq_false_iff.mpr h1,Bool.false_and]
    exact jt
theorem szIntS_eq (l:List Int) (a:Int) (hl:l.length≤9223372036854775807) (h0:0≤a) (h1:a≤1048576):∃t,laws_szIntS.f l a=some t∧(0≤t→t≤a∧l.length≤1048576):=by
  unfold laws_szIntS.f
  rw[Loops.wrap_in (show -9223372036854775808≤a - (l.length:Int) by omega) (by omega)]
  by_cases h:a - (l.length:Int)<0
  · rw[if_pos h];exact⟨-1,rfl,fun h=>absurd h (by omega)⟩
  · rw[if_neg h];exact⟨_,rfl,fun h=>by omega⟩
theorem szLineG_eq (s n:Int) (A B:List Int) (w:Int) (st:Bool) (a:Int) (h0:0≤a) (h1:a≤1048576) (hA:A.length≤9223372036854775807) (hB:B.length≤9223372036854775807):∃t,laws_szLine.f s n A B w st a=some t∧(0≤t→t≤a∧A.length≤1048576∧B.length≤1048576):=by
  unfold laws_szLine.f
  obtain⟨t,e,ht⟩:=szIntS_eq A a hA (by omega) (by omega)
  simp only[e,Option.bind_some]
  by_cases h:t<0
  · rw[if_pos h];exact⟨-1,rfl,fun h=>absurd h (by omega)⟩
  · rw[if_neg h]
    have ht:=ht (by omega)
    obtain⟨u,e,hu⟩:=szIntS_eq B t hB (by omega) (by omega)
    simp only[e,Option.bind_some]
    by_cases h2:u<0
    · rw[if_pos h2];exact⟨-1,rfl,fun h=>absurd h (by omega)⟩
    · rw[if_neg h2];exact⟨_,rfl,fun h=>⟨by have:=hu h;omega,ht.2,(hu h).2⟩⟩
theorem szJobS_eq (l:List S52) (a:Int) (hl:l.length≤9223372036854775807) (h0:0≤a) (h1:a≤1048576):∃t,laws_szJobS.f l a=some t∧(0≤t→t≤a∧l.length≤1048576):=by
  unfold laws_szJobS.f
  rw[Loops.wrap_in (show -9223372036854775808≤a - (l.length:Int) by omega) (by omega)]
  by_cases h:a - (l.length:Int)<0
  · rw[if_pos h];exact⟨-1,rfl,fun h=>absurd h (by omega)⟩
  · rw[if_neg h];exact⟨_,rfl,fun h=>by omega⟩
theorem szMachine_eq (L:List S52) (i p c:Int) (d:Bool) (r:Int) (h:Bool) (s n:Int) (A B:List Int) (w:Int) (st:Bool) (P:Int) (hL:L.length≤9223372036854775807) (hA:A.length≤9223372036854775807) (hB:B.length≤9223372036854775807):
    ∃t,laws_szMachine.f L i p c d r h s n A B w st P 1048576=some t∧(0≤t→t≤1048576∧L.length≤1048576∧A.length≤1048576∧B.length≤1048576):=by
  unfold laws_szMachine.f
  obtain⟨t,e,ht⟩:=szJobS_eq L 1048576 hL (by omega) (by omega)
  simp only[e,Option.bind_some]
  by_cases h:t<0
  · rw[if_pos h];exact⟨-1,rfl,fun h=>absurd h (by omega)⟩
  · rw[if_neg h]
    have ht:=ht (by omega)
    obtain⟨u,e,hu⟩:=szLineG_eq s n A B w st t (by omega) (by omega) hA hB
    simp only[e,Option.bind_some]
    by_cases h2:u<0
    · rw[if_pos h2];exact⟨-1,rfl,fun h=>absurd h (by omega)⟩
    · rw[if_neg h2];exact⟨_,rfl,fun h=>⟨by have:=hu h;omega,ht.2,(hu h).2⟩⟩
def jconv (x:S52):S40:=⟨x.f0,x.f1,x.f2,x.f3,x.f4,x.f5⟩
theorem toJobS_eq (l:List S52) (hl:l.length≤1048576):Ev (fun k=>laws_toJobS.f k l) (l.map jconv):=by
  unfold laws_toJobS.f
  simp only[if_pos (show(0:Int)≤(l.length:Int) by omega),Int.toNat_natCast,if_pos (show l.length≤5864062014805 by omega)]
  refine Loops.map_loop (G:=fun k i o=>laws_toJobS.l0 k l o i) l z52 z40 jconv (fun k i o hi ho=> ?_) (fun k o=> ?_)
  · simp only[laws_toJobS.l0,laws_toJob.f,Option.bind_some]
    rw[if_pos (by omega),if_pos (by omega),if_pos (by omega),Loops.wrap_succ hi (by omega)]
    simp[rd_T52,jconv]
  · simp only[laws_toJobS.l0]
    rw[if_neg (by omega)]
theorem toLine_eq (s n:Int) (A B:List Int) (w:Int) (st:Bool) (hA:A.length≤1048576) (hB:B.length≤1048576):Ev (fun k=>laws_toLine.f k s n A B w st) (s,n,A,B,w,st):=by
  unfold laws_toLine.f
  refine Ev.bind (toIntS_eq A (by omega)) (Ev.bind (toIntS_eq B (by omega)) (Ev.now _))
theorem toMachine_eq (L:List S52) (i p c:Int) (d:Bool) (r:Int) (h:Bool) (s n:Int) (A B:List Int) (w:Int) (st:Bool) (P:Int) (hL:L.length≤1048576) (hA:A.length≤1048576) (hB:B.length≤1048576):
    Ev (fun k=>laws_toMachine.f k L i p c d r h s n A B w st P) (L.map jconv,i,p,c,d,r,h,s,n,A,B,w,st,P):=by
  unfold laws_toMachine.f
  refine Ev.bind (toJobS_eq L hL) ?_
  simp only[laws_toJob.f,Option.bind_some]
  exact Ev.bind (toLine_eq s n A B w st hA hB) (Ev.now _)
theorem eqJob_eq (i p c:Int) (d:Bool) (r:Int) (h:Bool):laws_eqJob.f i p c d r h i p c d r h=some true:=by
  unfold laws_eqJob.f
  simp
theorem eqJobS_eq (l:List S40) (hl:l.length≤4194304):Ev (fun k=>laws_eqJobS.f k l l) true:=by
  unfold laws_eqJobS.f
  simp only[if_true]
  exact Loops.plain_loop (G:=fun k i=>laws_eqJobS.l0 k l l i) l.length (by omega) (fun k i hi=>by
    simp only[laws_eqJobS.l0,eqJob_eq,Option.bind_some,if_true]
    rw[if_pos (by omega),if_pos (by omega),if_pos (by omega)]) (fun k=>by
    simp only[laws_eqJobS.l0]
    rw[if_neg (by omega)])
theorem eqLineB_eq (s n:Int) (A B:List Int) (w:Int) (st:Bool) (hA:A.length≤2000000) (hB:B.length≤2000000):Ev (fun k=>laws_eqLine.f k s n A B w st s n A B w st) true:=by
  unfold laws_eqLine.f
  simp only[if_true]
  refine Ev.bind (eqIntS_eq A (by omega)) ?_
  simp only[if_true]
  refine Ev.bind (eqIntS_eq B (by omega)) ?_
  simp only[if_true,bne_self_eq_false,Bool.false_eq_true,if_false]
  exact Ev.now _
theorem eqMachine_eq (L:List S40) (i p c:Int) (d:Bool) (r:Int) (h:Bool) (s n:Int) (A B:List Int) (w:Int) (st:Bool) (P:Int) (hL:L.length≤2000000) (hA:A.length≤2000000) (hB:B.length≤2000000):
    Ev (fun k=>laws_eqMachine.f k L i p c d r h s n A B w st P L i p c d r h s n A B w st P) true:=by
  unfold laws_eqMachine.f
  refine Ev.bind (eqJobS_eq L (by omega)) ?_
  simp only[if_true,eqJob_eq,Option.bind_some]
  refine Ev.bind (eqLineB_eq s n A B w st hA hB) ?_
  simp only[if_true]
  exact Ev.now _
def I (n:Int):ByteArray:=⟨(Lib.itoa n).toArray⟩
theorem I_size (n:Int) (h0: -9223372036854775808≤n) (h1:n≤9223372036854775807):(I n).size≤21:=by
  have:=Lib.itoa_length_le n h0 h1
  show(Lib.itoa n).toArray.size≤21
  simpa using this
def dg0 (u:Nat):List UInt8:=if u=0 then [] else Lib.decDigits u
theorem dg0_step (u:Nat) (h:0<u):dg0 u=dg0 (u / 10)++ [UInt8.ofNat (48+u % 10)]:=by
  unfold dg0
  rw[if_neg (by omega),Lib.decDigits]
  by_cases h1:u<10
  · rw[dif_pos h1,if_pos (by omega),Nat.mod_eq_of_lt h1];rfl
  · rw[dif_neg h1,if_neg (by omega)]
theorem ba_nil (s:ByteArray):(⟨([]:List UInt8).toArray⟩:ByteArray)++s=s:=by
  apply ByteArray.ext;simp[ByteArray.data_append]
theorem ba_app (xs ys:List UInt8) (s:ByteArray):(⟨xs.toArray⟩:ByteArray)++((⟨ys.toArray⟩:ByteArray)++s)=(⟨(xs++ys).toArray⟩:ByteArray)++s:=by
  apply ByteArray.ext
  simp only[ByteArray.data_append]
  rw[←Array.append_assoc]
  simp
theorem sfig (d:Nat) (h:d<10):spec_l01Figure.f (d:Int)=some ((48+d:Nat):Int):=by
  unfold spec_l01Figure.f
  rw[if_pos (by omega),IntWalk.wrap64_in _ (by omega)]
  congr 1
  omega
theorem sfmt_loop:∀(u:Nat) (s:ByteArray),s.size+u≤9223372036854775807→Ev (fun k=>spec_FormatInt.l0 k (u:Int) false s) ((⟨(dg0 u).toArray⟩:ByteArray)++s):=by
  intro u
  induction u using Nat.strongRecOn with
  |_ u ih=>
    intro s hs
    by_cases h0:u=0
    · subst h0
      refine Loops.Ev.one (fun k=> ?_)
      simp only[spec_FormatInt.l0]
      rw[if_pos (by rfl),if_neg (by simp)]
      simp only[dg0,if_true,ba_nil]
    · have hm:Int.tmod (u:Int) 10=((u % 10:Nat):Int):=by rw[Int.tmod_eq_emod_of_nonneg (by omega)];omega
      have hd:Int.tdiv (u:Int) 10=((u / 10:Nat):Int):=by rw[Int.tdiv_eq_ediv_of_nonneg (by omega)];omega
      have hst:strOfNums [((48+u % 10:Nat):Int)]=(⟨[UInt8.ofNat (48+u % 10)].toArray⟩:ByteArray):=by unfold strOfNums;rw[List.map_cons,List.map_nil,Int.toNat_natCast]
      refine Ev.step (f:=fun k=>spec_FormatInt.l0 k ((u / 10:Nat):Int) false ((⟨[UInt8.ofNat (48+u % 10)].toArray⟩:ByteArray)++s)) (fun k=> ?_) ?_
      · simp only[spec_FormatInt.l0]
        rw[if_neg (by omega),hm,if_neg (by omega),sfig _ (Nat.mod_lt _ (by decide))]
        simp only[Option.bind_some,hst,hd]
        rw[if_pos (by show 1+s.size≤_;omega),IntWalk.wrap64_in _ (by omega)]
      · refine Loops.Ev.eq (ih (u / 10) (by omega) _ ?_) ?_
        · rw[ByteArray.size_append]
          show 1+s.size+u / 10≤_
          omega
        · rw[ba_app,←dg0_step u (by omega)]
theorem sfmt_eq (n:Int) (h0:0≤n) (h1:n≤9223372036854775807):Ev (fun k=>spec_FormatInt.f k n) (I n):=by
  unfold spec_FormatInt.f
  obtain⟨u,rfl⟩:∃u:Nat,n=u:=⟨n.toNat,by omega⟩
  by_cases hz:u=0
  · subst hz
    refine Loops.Ev.const ?_
    try rw[if_pos rfl]
    have e0:Lib.itoa 0= [48]:=by
      have h:=Lib.itoa_nonneg 0
      rw[Lib.decDigits,dif_pos (by decide)]at h
      exact h
    simp[I,e0]
  · have hf:decide ((u:Int)<0)=false:=decide_eq_false (by omega)
    simp only[if_neg (show ¬((u:Int)=0) by omega),hf]
    refine Loops.Ev.eq (sfmt_loop u ⟨#[]⟩ (by show 0+u≤_;omega)) ?_
    apply ByteArray.ext
    simp[I,Lib.itoa_nonneg,dg0,hz,ByteArray.data_append]
theorem ifmt_eq (n:Int) (h0: -9223372036854775808≤n) (h1:n≤9223372036854775807):impl_FormatInt.f n=some (I n):=by
  have e:∀x:Option ByteArray,(x.bind fun t=>some t)=x:=fun x=>by cases x<;>rfl
  unfold impl_FormatInt.f
  rw[e]
  first|(unfold strconv_Itoa.f;rw[if_pos h0,if_pos h1];rfl)|(unfold strconv_Itoa_43.f;rw[if_pos h0,if_pos h1];rfl)
def fmM (L:Nat) (i:Int) (O:Nat) (w P:Int):List ByteArray:= [(⟨#[106,111,98,115,32]⟩:ByteArray)++I (L:Int),(⟨#[110,111,119,32]⟩:ByteArray)++I i,(⟨#[111,117,116,32]⟩:ByteArray)++I (O:Int),(⟨#[119,97,115,116,101,100,32]⟩:ByteArray)++I w,(⟨#[112,114,105,110,116,101,100,32]⟩:ByteArray)++I (P+(O:Int))]
theorem mok_nums {L:List S40} {i p c:Int} {d:Bool} {r:Int} {h:Bool} {s n:Int} {A B:List Int} {w P:Int} (H:mok L i p c d r h s n A B w P=true):L.length≤12∧(0≤i∧i≤9999)∧B.length≤1048576∧(0≤w∧w≤100000)∧(0≤P∧P≤100000):=by
  unfold mok jobsOk lineOk at H
  simp only[Bool.and_eq_true,decide_eq_true_eq]at H
  obtain⟨⟨h1,_⟩,⟨h2,_⟩,h3,h4⟩:=H
  refine⟨h1,?_,by omega,by omega,h3⟩
  unfold nowOk at h4
  by_cases h0:(i==0 && (p==0 && (c==0 && (!d && (r==0 && (!h))))))=true
  · simp only[Bool.and_eq_true,beq_iff_eq]at h0
    omega
  · rw[if_neg h0]at h4
    simp only[Bool.and_eq_true]at h4
    have:=jok_true h4.1
    omega
theorem ifm_eq (L:List S40) (i p c:Int) (d:Bool) (r:Int) (h:Bool) (s n:Int) (A B:List Int) (w:Int) (st:Bool) (P:Int) (hA:A.length≤1048576) (hB:B.length≤1048576):
    Ev (fun k=>impl_FormatMachine.f k L i p c d r h s n A B w st P) (if mok L i p c d r h s n A B w P=true then fmM L.length i B.length w P else []):=by
  unfold impl_FormatMachine.f
  refine Ev.bind (imok_eq L i p c d r h s n A B w st P hA hB) ?_
  by_cases hk:mok L i p c d r h s n A B w P=true
  · simp only[if_pos hk]
    obtain⟨hL,hi,hB,hw,hP⟩:=mok_nums hk
    have sa:=I_size (L.length:Int) (by omega) (by omega)
    have sb:=I_size i (by omega) (by omega)
    have sc:=I_size (B.length:Int) (by omega) (by omega)
    have sd:=I_size w (by omega) (by omega)
    have se:=I_size (P+(B.length:Int)) (by omega) (by omega)
    rw[IntWalk.wrap64_in (P+(B.length:Int)) (by omega)]
    simp only[ifmt_eq (L.length:Int) (by omega) (by omega),ifmt_eq i (by omega) (by omega),ifmt_eq (B.length:Int) (by omega) (by omega),ifmt_eq w (by omega) (by omega),ifmt_eq (P+(B.length:Int)) (by omega) (by omega),Option.bind_some]
    refine Loops.Ev.const ?_
    rw[if_pos (by omega),if_pos (by omega),if_pos (by omega),if_pos (by omega),if_pos (by omega)]
    rfl
  · simp only[if_neg hk]
    exact Ev.now _
theorem sfm_eq (L:List S40) (i p c:Int) (d:Bool) (r:Int) (h:Bool) (s n:Int) (A B:List Int) (w:Int) (st:Bool) (P:Int) (hL:L.length≤4194304) (hA:A.length≤1048576) (hB:B.length≤1048576):
    Ev (fun k=>spec_FormatMachine.f k L i p c d r h s n A B w st P) (if mok L i p c d r h s n A B w P=true then fmM L.length i B.length w P else []):=by
  unfold spec_FormatMachine.f
  refine Ev.bind (smok_eq L i p c d r h s n A B w st P hL hA hB) ?_
  by_cases hk:mok L i p c d r h s n A B w P=true
  · simp only[if_pos hk]
    obtain⟨hL,hi,hB,hw,hP⟩:=mok_nums hk
    have sa:=I_size (L.length:Int) (by omega) (by omega)
    have sb:=I_size i (by omega) (by omega)
    have sc:=I_size (B.length:Int) (by omega) (by omega)
    have sd:=I_size w (by omega) (by omega)
    have se:=I_size (P+(B.length:Int)) (by omega) (by omega)
    rw[IntWalk.wrap64_in (P+(B.length:Int)) (by omega)]
    refine Ev.bind (sfmt_eq _ (by omega) (by omega)) ?_
    simp only[if_pos (show 5+(I (L.length:Int)).size≤9223372036854775807 by omega)]
    refine Ev.bind (sfmt_eq _ (by omega) (by omega)) ?_
    simp only[if_pos (show 4+(I i).size≤9223372036854775807 by omega)]
    refine Ev.bind (sfmt_eq _ (by omega) (by omega)) ?_
    simp only[if_pos (show 4+(I (B.length:Int)).size≤9223372036854775807 by omega)]
    refine Ev.bind (sfmt_eq _ (by omega) (by omega)) ?_
    simp only[if_pos (show 7+(I w).size≤9223372036854775807 by omega)]
    refine Ev.bind (sfmt_eq _ (by omega) (by omega)) ?_
    simp only[if_pos (show 8+(I (P+(B.length:Int))).size≤9223372036854775807 by omega)]
    exact Ev.now _
  · simp only[if_neg hk]
    exact Ev.now _
theorem markIntS_eq (l:List Int) (a:Int) (hl:l.length≤4194304) (h0:0≤a) (h1:a≤1125899906842624):Ev (fun k=>laws_markIntS.f k l a) (a+l.length,Loops.iota a l.length):=by
  unfold laws_markIntS.f
  exact Loops.mark_loop (G:=laws_markIntS.l0) l a (by omega) h0 (by omega) (fun k x m i=>by simp only[laws_markIntS.l0])
def mkJob (m:Int):S40:=⟨m,m+1,m+2,(Int.tmod (m+3) 3==0),m+4,(Int.tmod (m+5) 3==0)⟩
theorem markJobS_eq (l:List S40) (hl:l.length≤4194304):Ev (fun k=>laws_markJobS.f k l 1) (1+6 * (l.length:Int),Loops.marks mkJob 6 1 l.length):=by
  unfold laws_markJobS.f
  exact Loops.mark_gen (G:=laws_markJobS.l0) mkJob z40 6 (by omega) l 1 (by omega) (by omega) (fun k x m i hi hx hm0 hm=>by
    simp only[laws_markJobS.l0]
    rw[if_pos (by omega),if_pos (by omega),show wrap64 (m+1)=m+1 from Loops.wrap_in (by omega) (by omega),show wrap64 (m+1+1)=m+2 by unfold wrap64;omega,show wrap64 (m+2+1)=m+3 by unfold wrap64;omega,show wrap64 (m+3+1)=m+4 by unfold wrap64;omega,show wrap64 (m+4+1)=m+5 by unfold wrap64;omega,show wrap64 (m+5+1)=m+6 by unfold wrap64;omega,Loops.wrap_succ hi (by omega)]
    simp only[Option.bind_some,Int.toNat_natCast,rd_T40,List.set_set,mkJob]
    congr 2
    simp[List.getD,hi]) (fun k x m hx=>by
    simp only[laws_markJobS.l0]
    rw[if_neg (by omega)])
theorem markLineG_eq (s n:Int) (A B:List Int) (w:Int) (st:Bool) (a:Int) (h0:0≤a) (h1:a≤1000000000) (hA:A.length≤2000000) (hB:B.length≤2000000):Ev (fun k=>laws_markLine.f k s n A B w st a) (a+A.length+B.length,Loops.iota a A.length,Loops.iota (a+A.length) B.length):=by
  unfold laws_markLine.f
  refine Ev.bind (markIntS_eq A a (by omega) (by omega) (by omega)) (Ev.bind (markIntS_eq B (a+A.length) (by omega) (by omega) (by omega)) (Ev.now _))
theorem markMachine_eq (L:List S40) (i p c:Int) (d:Bool) (r:Int) (h:Bool) (s n:Int) (A B:List Int) (w:Int) (st:Bool) (P:Int) (hL:L.length≤2000000) (hA:A.length≤2000000) (hB:B.length≤2000000):
    Ev (fun k=>laws_markMachine.f k L i p c d r h s n A B w st P 1) (1+6 * (L.length:Int)+A.length+B.length,Loops.marks mkJob 6 1 L.length,Loops.iota (1+6 * (L.length:Int)) A.length,Loops.iota (1+6 * (L.length:Int)+A.length) B.length):=by
  unfold laws_markMachine.f
  refine Ev.bind (markJobS_eq L (by omega)) ?_
  exact Ev.bind (markLineG_eq s n A B w st _ (by omega) (by omega) hA hB) (Ev.now _)
def MT (n:Int):ByteArray:=(⟨#[109]⟩:ByteArray)++I n
theorem mt_loop:∀(u:Nat) (s:ByteArray),s.size+u+1≤9223372036854775807→Ev (fun k=>laws_markText.l0 k (u:Int) s) ((⟨#[109]⟩:ByteArray)++((⟨(dg0 u).toArray⟩:ByteArray)++s)):=by
  intro u
  induction u using Nat.strongRecOn with
  |_ u ih=>
    intro s hs
    by_cases h0:u=0
    · subst h0
      refine Loops.Ev.one (fun k=> ?_)
      simp only[laws_markText.l0]
      rw[if_neg (by omega),if_pos (by omega)]
      simp only[dg0,if_true,ba_nil]
    · have hm:Int.tmod (u:Int) 10=((u % 10:Nat):Int):=by rw[Int.tmod_eq_emod_of_nonneg (by omega)];omega
      have hd:Int.tdiv (u:Int) 10=((u / 10:Nat):Int):=by rw[Int.tdiv_eq_ediv_of_nonneg (by omega)];omega
      have hst:strOfNums [(wrap64 (48+((u % 10:Nat):Int))) % 256]=(⟨[UInt8.ofNat (48+u % 10)].toArray⟩:ByteArray):=by
        rw[show(wrap64 (48+((u % 10:Nat):Int))) % 256=((48+u % 10:Nat):Int) by unfold wrap64;omega]
        unfold strOfNums;rw[List.map_cons,List.map_nil,Int.toNat_natCast]
      refine Ev.step (f:=fun k=>laws_markText.l0 k ((u / 10:Nat):Int) ((⟨[UInt8.ofNat (48+u % 10)].toArray⟩:ByteArray)++s)) (fun k=> ?_) ?_
      · simp only[laws_markText.l0]
        rw[if_pos (by omega),hm]
        simp only[Option.bind_some,hst,hd]
        rw[if_pos (by show 1+s.size≤_;omega),IntWalk.wrap64_in _ (by omega)]
      · refine Loops.Ev.eq (ih (u / 10) (by omega) _ ?_) ?_
        · rw[ByteArray.size_append]
          show 1+s.size+u / 10+1≤_
          omega
        · rw[ba_app (dg0 (u / 10)) [UInt8.ofNat (48+u % 10)] s,←dg0_step u (by omega)]
theorem mt_eq (n:Int) (h0:0≤n) (h1:n≤4611686018427387904):Ev (fun k=>laws_markText.f k n) (MT n):=by
  unfold laws_markText.f MT
  obtain⟨u,rfl⟩:∃u:Nat,n=u:=⟨n.toNat,by omega⟩
  by_cases hz:u=0
  · subst hz
    refine Loops.Ev.const ?_
    try rw[if_pos (by omega)]
    have e0:Lib.itoa 0= [48]:=by
      have h:=Lib.itoa_nonneg 0
      rw[Lib.decDigits,dif_pos (by decide)]at h
      exact h
    simp only[I,Int.natCast_zero,e0]
    rfl
  · simp only[if_neg (show ¬((u:Int)≤0) by omega)]
    refine Loops.Ev.eq (mt_loop u ⟨#[]⟩ (by show 0+u+1≤_;omega)) ?_
    apply ByteArray.ext
    simp[I,Lib.itoa_nonneg,dg0,hz,ByteArray.data_append]
def mts (m:Int):Nat→List ByteArray
  |0=> []
  |d+1=>MT m::mts (m+1) d
theorem mts_len:∀(d:Nat) (m:Int),(mts m d).length=d:=by
  intro d
  induction d with
  |zero=>intro m;rfl
  |succ d ih=>intro m;simp[mts,ih]
theorem markS_loop:∀(d i:Nat) (x:List ByteArray) (m:Int),i+d=x.length→x.length≤1048576→0≤m→m+d≤2000000→Ev (fun k=>laws_markStringS.l0 k x m (i:Int)) (m+(d:Int),x.take i++mts m d):=by
  intro d
  induction d with
  |zero=>
    intro i x m hi hx h0 h1
    refine Loops.Ev.one (fun k=> ?_)
    simp only[laws_markStringS.l0]
    rw[if_neg (by omega),List.take_of_length_le (by omega)]
    simp[mts]
  |succ d ih=>
    intro i x m hi hx h0 h1
    have nx:=ih (i+1) (x.set i (MT m)) (m+1) (by simp;omega) (by simpa using hx) (by omega) (by omega)
    refine Loops.Ev.succ ?_
    simp only[laws_markStringS.l0,if_pos (show(i:Int)<(x.length:Int) by omega)]
    refine Ev.bind (mt_eq m h0 (by omega)) ?_
    simp only[if_pos (show(0:Int)≤(i:Int) by omega),Int.toNat_natCast]
    rw[Loops.wrap_in (x:=m+1) (by omega) (by omega),Loops.wrap_succ (n:=x.length) (i:=i) (by omega) (by omega)]
    refine Loops.Ev.eq nx ?_
    rw[Loops.take_set_one x i (MT m) (by omega),List.append_assoc]
    simp only[mts,List.singleton_append]
    rw[show m+1+(d:Int)=m+((d+1:Nat):Int) by omega]
theorem markS_eq (x:List ByteArray) (hx:x.length≤1000000):Ev (fun k=>laws_markStringS.f k x 1) (1+(x.length:Int),mts 1 x.length):=by
  unfold laws_markStringS.f
  simpa using markS_loop x.length 0 x 1 (by omega) (by omega) (by omega) (by omega)
theorem heldS_loop:∀(d i:Nat) (x:List ByteArray) (m:Int),i+d=x.length→x.length≤1048576→x.drop i=mts m d→0≤m→m+d≤2000000→Ev (fun k=>laws_heldStringS.l0 k x m (i:Int)) (m+(d:Int)):=by
  intro d
  induction d with
  |zero=>
    intro i x m hi hx hd h0 h1
    refine Loops.Ev.one (fun k=> ?_)
    simp only[laws_heldStringS.l0]
    rw[if_neg (by omega)]
    simp
  |succ d ih=>
    intro i x m hi hx hd h0 h1
    rw[Loops.drop_cons_getD x ByteArray.empty i (by omega)]at hd
    have hc:=List.cons.inj hd
    have nx:=ih (i+1) x (m+1) (by omega) hx hc.2 (by omega) (by omega)
    refine Loops.Ev.succ ?_
    simp only[laws_heldStringS.l0,if_pos (show(i:Int)<(x.length:Int) by omega),if_pos (show(0:Int)≤(i:Int) by omega)]
    refine Ev.bind (mt_eq m h0 (by omega)) ?_
    have e:rdOf ByteArray.empty x (i:Int)=MT m:=by rw[Loops.rdOf_nat];exact hc.1
    simp only[e,if_true]
    rw[Loops.wrap_in (x:=m+1) (by omega) (by omega),Loops.wrap_succ (n:=x.length) (i:=i) (by omega) (by omega)]
    refine Loops.Ev.eq nx ?_
    omega
theorem heldS_eq (n:Nat) (hn:n≤1000000):Ev (fun k=>laws_heldStringS.f k (mts 1 n) 1) (1+(n:Int)):=by
  unfold laws_heldStringS.f
  have hl:=mts_len n 1
  simpa using heldS_loop n 0 (mts 1 n) 1 (by omega) (by omega) (by simp) (by omega) (by omega)
theorem eqStringS_eq (l:List ByteArray) (hl:l.length≤4194304):Ev (fun k=>laws_eqStringS.f k l l) true:=by
  unfold laws_eqStringS.f
  simp only[if_true]
  exact Loops.plain_loop (G:=fun k i=>laws_eqStringS.l0 k l l i) l.length (by omega) (fun k i hi=>by
    simp only[laws_eqStringS.l0]
    rw[if_pos (by omega),if_pos (by omega),if_pos (by omega),if_pos trivial]) (fun k=>by
    simp only[laws_eqStringS.l0]
    rw[if_neg (by omega)])
theorem FnExactFormatMachine:∀(l0_0:List (S52)) (a0_1:Int) (a0_2:Int) (a0_3:Int) (a0_4:Bool) (a0_5:Int) (a0_6:Bool) (a0_7:Int) (a0_8:Int) (l0_9:List Int) (l0_10:List Int) (a0_11:Int) (a0_12:Bool) (a0_13:Int),(l0_0.length≤maxLen∧ ∀x ∈ l0_0,(Lit.int .i64 x.f0).wf=true∧(Lit.int .i64 x.f1).wf=true∧(Lit.int .i64 x.f2).wf=true∧True∧(Lit.int .i64 x.f4).wf=true∧True)→((Lit.int .i64 a0_1).wf=true)→((Lit.int .i64 a0_2).wf=true)→((Lit.int .i64 a0_3).wf=true)→((Lit.int .i64 a0_5).wf=true)→((Lit.int .i64 a0_7).wf=true)→((Lit.int .i64 a0_8).wf=true)→(l0_9.length≤maxLen∧ ∀x ∈ l0_9,(Lit.int .i64 x).wf=true)→(l0_10.length≤maxLen∧ ∀x ∈ l0_10,(Lit.int .i64 x).wf=true)→((Lit.int .i64 a0_11).wf=true)→((Lit.int .i64 a0_13).wf=true)→ ∃k,laws_FnExactFormatMachine.f k l0_0 a0_1 a0_2 a0_3 a0_4 a0_5 a0_6 a0_7 a0_8 l0_9 l0_10 a0_11 a0_12 a0_13=some true:=by
  intro L i p c d r h s n A B w st P ⟨hL,_⟩ _ _ _ _ _ _ ⟨hA,_⟩ ⟨hB,_⟩ _ _
  have e:maxLen=9223372036854775807:=by decide
  rw[e]at hL hA hB
  refine Ev.rounds ?_
  unfold laws_FnExactFormatMachine.f
  obtain⟨t,ht,hs⟩:=szMachine_eq L i p c d r h s n A B w st P hL hA hB
  simp only[ht,Option.bind_some]
  by_cases h0:t<0
  · simp only[if_pos h0];exact Ev.now _
  obtain⟨_,hL,hA,hB⟩:=hs (by omega)
  simp only[if_neg h0]
  have tm:=toMachine_eq L i p c d r h s n A B w st P hL hA hB
  have hm:(L.map jconv).length=L.length:=by simp
  have es:=sfm_eq (L.map jconv) i p c d r h s n A B w st P (by omega) hA hB
  have ei:=ifm_eq (L.map jconv) i p c d r h s n A B w st P hA hB
  obtain⟨G,hG⟩:∃G,(if mok (L.map jconv) i p c d r h s n A B w P=true then fmM (L.map jconv).length i B.length w P else [])=G:=⟨_,rfl⟩
  have hl:G.length≤5:=by rw[←hG];split<;>simp[fmM]
  rw[hG]at es ei
  have eq:=eqStringS_eq G (by omega)
  have ehm:(1+(G.length:Int))=1+(G.length:Int):=rfl
  refine Ev.bind tm (Ev.bind es (Ev.bind tm (Ev.bind ei (Ev.bind eq ?_))))
  simp only[if_true]
  refine Ev.bind tm (Ev.bind (eqMachine_eq (L.map jconv) i p c d r h s n A B w st P (by omega) (by omega) (by omega)) ?_)
  simp only[if_true]
  refine Ev.bind (markMachine_eq (L.map jconv) i p c d r h s n A B w st P (by omega) (by omega) (by omega)) ?_
  simp only[if_neg (show ¬(1:Int)+6 * ((L.map jconv).length:Int)+(A.length:Int)+(B.length:Int)<0 by omega)]
  refine Ev.bind eq ?_
  refine Loops.Ev.succ ?_
  simp only[laws_FnExactFormatMachine.j0,Bool.not_true,Bool.false_eq_true,if_false]
  refine Ev.bind (markS_eq G (by omega)) (Ev.bind (heldS_eq G.length (by omega)) ?_)
  simp only[if_neg (show ¬(1:Int)+(G.length:Int)<0 by omega),if_true]
  refine Ev.bind tm (Ev.bind ei (Ev.bind eq ?_))
  simp only[if_true]
  refine Ev.bind (heldS_eq G.length (by omega)) ?_
  simp only[if_neg (show ¬(1:Int)+(G.length:Int)<0 by omega),if_true]
  exact Ev.now _
end Go.Proofs.YtblceimapaenlaaDoor.Pure
