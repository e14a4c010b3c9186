/- The pure part of FnExactRunActs: over numbers and lists alone. No condition beyond the numbers' own kinds. -/
import Derived.Test.YtblceimapaenlaaQFnExactRunActs17
import Derived.Test.YtblceimapaenlaaLot
namespace Go.Proofs.Ytblceimapaenlaa.Pure
open Go.RowKit Go.Proofs.Ytblceimapaenlaa.PFnExactRunActs Go.Proofs.YtblceimapaenlaaW.PrintWords Go.Proofs.YtblceimapaenlaaW.PrintLast Go.Proofs.YtblceimapaenlaaW.PrintMore
set_option linter.unusedVariables false
set_option linter.unusedSimpArgs false
theorem within_eq (a b c:Int):impl_within.f a b c=some (decide (b≤a∧a≤c)):=by
  unfold impl_within.f
  by_cases h:a ≥ b
  · rw[if_pos h];congr 1;simp;omega
  · rw[if_neg h];congr 1;simp;omega
theorem in_eq (a b c:Int):spec_l01In.f a b c=some (decide (b≤a∧a≤c)):=by
  unfold spec_l01In.f
  by_cases h:a ≥ b
  · rw[if_pos h];congr 1;simp;omega
  · rw[if_neg h];congr 1;simp;omega
theorem toIntS_eq (l:List Int) (hl:l.length≤4194304):Ev (fun k=>laws_toIntS.f k l) l:=by
  unfold laws_toIntS.f
  simp only[if_pos (show(0:Int)≤(l.length:Int) by omega),Int.toNat_natCast,if_pos (show l.length≤35184372088832 by omega)]
  exact Loops.copy_loop (G:=fun k i o=>laws_toIntS.l0 k l o i) l 0 (by omega) (fun k i o=>by simp only[laws_toIntS.l0,rd])
theorem eqIntS_eq (l:List Int) (hl:l.length≤4194304):Ev (fun k=>laws_eqIntS.f k l l) true:=by
  unfold laws_eqIntS.f
  simp only[if_true]
  exact Loops.plain_loop (G:=fun k i=>laws_eqIntS.l0 k l l i) l.length (by omega) (fun k i hi=>by
    simp only[laws_eqIntS.l0]
    rw[if_pos (by omega),if_pos (by omega),if_pos (by omega),if_pos trivial]) (fun k=>by
    simp only[laws_eqIntS.l0]
    rw[if_neg (by omega)])
def jok (i p c r:Int):Bool:=decide (1≤i∧i≤9999) && (decide (1≤p∧p≤64) && (decide (1≤c∧c≤20) && decide (0≤r∧r≤9)))
theorem jok_true {i p c r:Int} (h:jok i p c r=true):(1≤i∧i≤9999)∧(1≤p∧p≤64)∧(1≤c∧c≤20)∧0≤r∧r≤9:=by
  simp only[jok,Bool.and_eq_true,decide_eq_true_eq]at h;omega
theorem ijok_eq (i p c:Int) (d:Bool) (r:Int) (h:Bool):impl_JobOk.f i p c d r h=some (jok i p c r):=by
  unfold impl_JobOk.f jok
  simp only[within_eq,Option.bind_some]
  cases decide (1≤i∧i≤9999)<;>cases decide (1≤p∧p≤64)<;>cases decide (1≤c∧c≤20)<;>simp
def seqB:Int→List Int→Bool
  |_,[]=>true
  |a,x::xs=>decide (x=a) && seqB (a+1) xs
theorem seqB_append (l m:List Int):∀a,seqB a (l++m)=(seqB a l && seqB (a+l.length) m):=by
  induction l with
  |nil=>intro a;simp[seqB]
  |cons x xs ih=>
    intro a
    simp only[List.cons_append,seqB,ih,Bool.and_assoc,List.length_cons]
    rw[show a+1+(xs.length:Int)=a+((xs.length+1:Nat):Int) by omega]
theorem seq_loop {G:Nat→Int→Option Bool} {r:Bool} (l:List Int) (a:Int) (hl:l.length≤9223372036854775807)
    (hG:∀k (i:Nat),i<l.length→G (k+1) (i:Int)=if l.getD i 0=a+i then G k (wrap64 ((i:Int)+1)) else some false)
    (fin:Ev (fun k=>G k (l.length:Int)) r):Ev (fun k=>G k 0) (seqB a l && r):=by
  have key:=Loops.back_loop (G:=fun k i (_:Unit)=>G k i) (fun i _=>seqB (a+i) (l.drop i) && r) l.length (fun i _ hi ih=>by
    rw[Loops.drop_cons_getD l 0 i hi]
    by_cases h:l.getD i 0=a+i
    · refine Ev.step (f:=fun k=>G k ((i+1:Nat):Int)) (fun k=>by rw[hG k i hi,if_pos h,Loops.wrap_succ hi hl]) ?_
      simp only[seqB,decide_eq_true h,Bool.true_and]
      rw[show a+(i:Int)+1=a+((i+1:Nat):Int) by omega]
      exact ih ()
    · refine Loops.Ev.one (fun k=> ?_)
      rw[hG k i hi,if_neg h]
      simp only[seqB,decide_eq_false h,Bool.false_and]) (fun _=>by simpa[seqB]using fin) ()
  simpa using key
theorem concat_eq (A B:List Int) (hA:A.length≤1048576) (hB:B.length≤1048576):Ev (fun k=>slices_Concat_int_int.f k [A,B]) (A++B):=by
  refine⟨6,fun k hk=> ?_⟩
  obtain⟨k,rfl⟩:∃j,k=j+6:=⟨k - 6,by omega⟩
  have w1:wrap64 (0+1)=1:=by unfold wrap64;omega
  have w2:wrap64 (1+1)=2:=by unfold wrap64;omega
  have hl:(([A,B].length:Nat):Int)=2:=rfl
  have e0:rd_L4 [A,B] 0=A:=rfl
  have e1:rd_L4 [A,B] 1=B:=rfl
  have wA:wrap64 (0+(A.length:Int))=A.length:=by unfold wrap64;omega
  have wB:wrap64 ((A.length:Int)+(B.length:Int))=A.length+B.length:=by unfold wrap64;omega
  unfold slices_Concat_int_int.f
  show slices_Concat_int_int.l0 (k+5+1) [A,B] 0 [A,B] (([A,B].length:Nat):Int) 0=_
  rw[slices_Concat_int_int.l0,hl,if_pos (by omega),if_pos (by omega),if_pos (by omega),e0,wA,if_neg (by omega),w1]
  show slices_Concat_int_int.l0 (k+4+1) [A,B] (A.length:Int) [A,B] 2 1=_
  rw[slices_Concat_int_int.l0,hl,if_pos (by omega),if_pos (by omega),if_pos (by omega),e1,wB,if_neg (by omega),w2]
  show slices_Concat_int_int.l0 (k+3+1) [A,B] ((A.length:Int)+B.length) [A,B] 2 2=_
  rw[slices_Concat_int_int.l0,hl,if_neg (by omega),if_neg (by omega),if_neg (by omega)]
  show slices_Concat_int_int.l1 (k+2+1) [] [A,B] 2 0=_
  rw[slices_Concat_int_int.l1,hl,if_pos (by omega),if_pos (by omega),if_pos (by omega),e0,if_pos (by simp;omega),w1,List.nil_append]
  show slices_Concat_int_int.l1 (k+1+1) A [A,B] 2 1=_
  rw[slices_Concat_int_int.l1,hl,if_pos (by omega),if_pos (by omega),if_pos (by omega),e1,if_pos (by omega),w2]
  show slices_Concat_int_int.l1 (k+1) (A++B) [A,B] 2 2=_
  rw[slices_Concat_int_int.l1,if_neg (by omega)]
def lineOk (s n:Int) (A B:List Int) (w:Int):Bool:=decide (((0≤s∧s≤40)∧n≤s)∧(A.length:Int)≤5∧(0≤w∧w≤100000)∧(B.length:Int)+A.length=n) && seqB 0 (B++A)
theorem iline_eq (s n:Int) (A B:List Int) (w:Int) (st:Bool) (hA:A.length≤1048576) (hB:B.length≤1048576):Ev (fun k=>impl_LineOk.f k s n A B w st) (lineOk s n A B w):=by
  have jt:Ev (fun k=>impl_LineOk.j0 k true s n A B w st) false:=Loops.Ev.one (fun k=>by simp only[impl_LineOk.j0,if_true])
  have jf:Ev (fun k=>impl_LineOk.j0 k false s n A B w st) (seqB 0 (B++A)):=by
    refine Loops.Ev.succ ?_
    simp only[impl_LineOk.j0,Bool.false_eq_true,if_false]
    refine(Ev.bind (concat_eq B A hB hA) ?_)
    have key:=seq_loop (G:=fun k i=>impl_LineOk.l0 k (B++A) ((B++A).length:Int) i) (r:=true) (B++A) 0 (by simp;omega) (fun k i hi=>by
      simp only[impl_LineOk.l0]
      rw[if_pos (by omega),if_pos (by omega),if_pos (by omega),Loops.rd_nat,Int.zero_add]) (Loops.Ev.one (fun k=>by
      simp only[impl_LineOk.l0]
      rw[if_neg (by omega)]))
    simpa using key
  unfold impl_LineOk.f lineOk
  simp only[within_eq,Option.bind_some,decide_eq_true_eq]
  by_cases h1:0≤s∧s≤40
  · simp only[if_pos h1]
    by_cases h2:n >s
    · simp only[if_pos h2]
      exact Loops.Ev.eq jt (by rw[decide_eq_false (by omega)];rfl)
    · simp only[if_neg h2]
      by_cases h3:(A.length:Int) >5
      · simp only[if_pos h3]
        exact Loops.Ev.eq jt (by rw[decide_eq_false (by omega)];rfl)
      · simp only[if_neg h3]
        by_cases h4:0≤w∧w≤100000
        · simp only[if_pos h4]
          rw[Loops.wrap_in (show -9223372036854775808≤(B.length:Int)+(A.length:Int) by omega) (by omega)]
          by_cases h5:(B.length:Int)+A.length=n
          · rw[show((B.length:Int)+(A.length:Int) !=n)=false by simp[h5],decide_eq_true (by omega),Bool.true_and]
            exact jf
          · rw[show((B.length:Int)+(A.length:Int) !=n)=true by simp[h5]]
            exact Loops.Ev.eq jt (by rw[decide_eq_false (by omega)];rfl)
        · simp only[if_neg h4]
          exact Loops.Ev.eq jt (by rw[decide_eq_false (by omega)];rfl)
  · simp only[if_neg h1]
    exact Loops.Ev.eq jt (by rw[decide_eq_false (by omega)];rfl)
theorem sline_eq (s n:Int) (A B:List Int) (w:Int) (st:Bool) (hA:A.length≤1048576) (hB:B.length≤1048576):Ev (fun k=>spec_LineOk.f k s n A B w st) (lineOk s n A B w):=by
  have jt:Ev (fun k=>spec_LineOk.j0 k true s n A B w st) false:=Loops.Ev.one (fun k=>by simp only[spec_LineOk.j0,if_true])
  have jf:Ev (fun k=>spec_LineOk.j0 k false s n A B w st) (seqB 0 (B++A)):=by
    refine Ev.step (f:=fun k=>spec_LineOk.l0 k 0 s n A B w st) (fun k=>by simp only[spec_LineOk.j0,Bool.false_eq_true,if_false]) ?_
    rw[seqB_append]
    refine seq_loop (G:=fun k i=>spec_LineOk.l0 k i s n A B w st) B 0 (by omega) (fun k i hi=>by
      simp only[spec_LineOk.l0]
      rw[if_pos (by omega),if_pos (by omega),Loops.rd_nat,Int.zero_add]) (Ev.step (f:=fun k=>spec_LineOk.l1 k 0 s n A B w st) (fun k=>by
      simp only[spec_LineOk.l0]
      rw[if_neg (by omega)]) ?_)
    have key:=seq_loop (G:=fun k i=>spec_LineOk.l1 k i s n A B w st) (r:=true) A (0+B.length) (by omega) (fun k i hi=>by
      simp only[spec_LineOk.l1]
      rw[if_pos (by omega),if_pos (by omega),Loops.rd_nat,Loops.wrap_in (show -9223372036854775808≤(B.length:Int)+(i:Int) by omega) (by omega),Int.zero_add]) (Loops.Ev.one (fun k=>by
      simp only[spec_LineOk.l1]
      rw[if_neg (by omega)]))
    simpa using key
  unfold spec_LineOk.f lineOk
  simp only[in_eq,Option.bind_some,decide_eq_true_eq]
  by_cases h1:0≤s∧s≤40
  · simp only[if_pos h1]
    by_cases h2:0≤n∧n≤s
    · simp only[if_pos h2]
      by_cases h3:(A.length:Int) >5
      · simp only[if_pos h3]
        exact Loops.Ev.eq jt (by rw[decide_eq_false (by omega)];rfl)
      · simp only[if_neg h3]
        by_cases h4:0≤w∧w≤100000
        · simp only[if_pos h4]
          rw[Loops.wrap_in (show -9223372036854775808≤(B.length:Int)+(A.length:Int) by omega) (by omega)]
          by_cases h5:(B.length:Int)+A.length=n
          · rw[show((B.length:Int)+(A.length:Int) !=n)=false by simp[h5],decide_eq_true (by omega),Bool.true_and]
            exact jf
          · rw[show((B.length:Int)+(A.length:Int) !=n)=true by simp[h5]]
            exact Loops.Ev.eq jt (by rw[decide_eq_false (by omega)];rfl)
        · simp only[if_neg h4]
          exact Loops.Ev.eq jt (by rw[decide_eq_false (by omega)];rfl)
    · simp only[if_neg h2]
      exact Loops.Ev.eq jt (by rw[decide_eq_false (by omega)];rfl)
  · simp only[if_neg h1]
    exact Loops.Ev.eq jt (by rw[decide_eq_false (by omega)];rfl)
theorem all_range {G:Nat→Int→Option Bool} {r:Bool} (n:Nat) (p:Nat→Bool) (step:∀(i:Nat) (R:Bool),i<n→Ev (fun k=>G k ((i+1:Nat):Int)) R→Ev (fun k=>G k (i:Int)) (p i && R))
    (fin:Ev (fun k=>G k (n:Int)) r):Ev (fun k=>G k 0) ((List.range n).all p && r):=by
  have key:∀(m i:Nat),i+m=n→Ev (fun k=>G k (i:Int)) ((List.range' i m).all p && r):=by
    intro m
    induction m with
    | zero => intro i h; obtain rfl : i = n := by omega
              simpa using fin
    |succ m ih=>
      intro i h
      have h2:=step i _ (by omega) (ih (i+1) (by omega))
      rw[←Bool.and_assoc]at h2
      rw[List.range'_succ,List.all_cons]
      exact h2
  have h:=key n 0 (by omega)
  rw[←List.range_eq_range']at h
  exact h
theorem sjok_eq (i p c:Int) (d:Bool) (r:Int) (h:Bool):spec_JobOk.f i p c d r h=some (jok i p c r):=by
  unfold spec_JobOk.f jok
  simp only[in_eq,Option.bind_some]
  cases decide (1≤i∧i≤9999)<;>cases decide (1≤p∧p≤64)<;>cases decide (1≤c∧c≤20)<;>simp
theorem rdJ (l:List S33) (i:Nat):rd_T33 l (i:Int)=l.getD i z33:=by simp[rd_T33]
def jokAt (l:List S33) (i:Nat):Bool:=jok (l.getD i z33).f0 (l.getD i z33).f1 (l.getD i z33).f2 (l.getD i z33).f4
def newAt (l:List S33) (i:Nat):Bool:=(List.range i).all fun j=>decide ((l.getD j z33).f0≠(l.getD i z33).f0)
def jobsOk (l:List S33):Bool:=decide (l.length≤12) && (List.range l.length).all fun i=>jokAt l i && newAt l i
theorem jobIdx_first:∀(l:List S33) (b a:Int) (i:Nat),i<l.length→(l.getD i z33).f0=b→(jobIdx l b a=a+i ↔ ∀j,j<i→(l.getD j z33).f0≠b):=by
  intro l
  induction l with
  |nil=>intro b a i h;exact absurd h (by simp)
  |cons y ys ih=>
    intro b a i h hb
    unfold jobIdx
    cases i with
    |zero=>
      simp only[List.getD_cons_zero]at hb
      rw[if_pos hb]
      exact⟨fun _ j hj=>absurd hj (by omega),fun _=>by simp⟩
    |succ i=>
      simp only[List.getD_cons_succ]at hb
      by_cases hy:y.f0=b
      · rw[if_pos hy]
        exact⟨fun e=>absurd e (by omega),fun e=>absurd hy (e 0 (by omega))⟩
      · rw[if_neg hy]
        have h2:=ih b (a+1) i (by simpa using h) hb
        rw[show a+((i+1:Nat):Int)=a+1+(i:Int) by omega,h2]
        constructor
        · intro e j hj
          cases j with
          |zero=>exact hy
          |succ j=>exact e j (by omega)
        · intro e j hj
          exact e (j+1) (by omega)
theorem newAt_iff (l:List S33) (i:Nat) (h:i<l.length):(jobIdx l (l.getD i z33).f0 0=(i:Int)) ↔ newAt l i=true:=by
  have h1:=jobIdx_first l (l.getD i z33).f0 0 i h rfl
  rw[Int.zero_add]at h1
  rw[h1]
  unfold newAt
  rw[List.all_eq_true]
  constructor
  · intro e x hx
    exact decide_eq_true (e x (List.mem_range.1 hx))
  · intro e j hj
    exact of_decide_eq_true (e j (List.mem_range.2 hj))
theorem sjobs_eq (l:List S33) (hl:l.length≤4194304):Ev (fun k=>spec_JobsOk.f k l) (jobsOk l):=by
  unfold spec_JobsOk.f jobsOk
  have key:=all_range (G:=fun k i=>spec_JobsOk.l0 k l i) (r:=decide (l.length≤12)) l.length (fun i=>jokAt l i && newAt l i) (fun i R hi hR=>by
    refine Loops.Ev.succ ?_
    simp only[spec_JobsOk.l0,if_pos (show(i:Int)<(l.length:Int) by omega),if_pos (show 0≤(i:Int) by omega),rdJ,sjok_eq,Option.bind_some]
    show Ev (fun k=>if jokAt l i=true then _ else _) _
    by_cases h1:jokAt l i=true
    · simp only[if_pos h1,h1,Bool.true_and]
      refine all_range (G:=fun k j=>spec_JobsOk.l1 k l (i:Int) j) (r:=R) i (fun j=>decide ((l.getD j z33).f0≠(l.getD i z33).f0)) (fun j R2 hj hR2=> ?_) (Loops.Ev.succ ?_)
      · refine Loops.Ev.succ ?_
        simp only[spec_JobsOk.l1,if_pos (show(j:Int)<(i:Int) by omega),if_pos (show 0≤(j:Int) by omega),if_pos (show(j:Int)<(l.length:Int) by omega),if_pos (show 0≤(i:Int) by omega),if_pos (show(i:Int)<(l.length:Int) by omega),rdJ]
        rw[Loops.wrap_succ hj (by omega)]
        by_cases h2:(l.getD j z33).f0=(l.getD i z33).f0
        · simp only[if_pos h2,decide_eq_false (show ¬((l.getD j z33).f0≠(l.getD i z33).f0) from fun e=>e h2),Bool.false_and]
          exact Ev.now _
        · simp only[if_neg h2,decide_eq_true h2,Bool.true_and]
          exact hR2
      · simp only[spec_JobsOk.l1,if_neg (show ¬(i:Int)<(i:Int) by omega)]
        rw[Loops.wrap_succ hi (by omega)]
        exact hR
    · simp only[if_neg h1,Bool.eq_false_iff.mpr h1,Bool.false_and]
      exact Ev.now _) (Loops.Ev.one (fun k=>by
      simp only[spec_JobsOk.l0]
      rw[if_neg (by omega)]
      congr 2
      apply propext
      omega))
  rw[Bool.and_comm]at key
  exact key
def sheets (p:Int) (d:Bool):Int:=if d=true then(p+1) / 2 else p
theorem sheets_in (p:Int) (d:Bool) (h:1≤p∧p≤64):1≤sheets p d∧sheets p d≤64:=by
  unfold sheets
  split<;>omega
def jsh (i p c:Int) (d:Bool) (r:Int):Int:=if jok i p c r=true then c * sheets p d else 0
theorem jsh_in (i p c:Int) (d:Bool) (r:Int):0≤jsh i p c d r∧jsh i p c d r≤1280:=by
  unfold jsh
  split
  · rename_i h
    have hj:=jok_true h
    have hs:=sheets_in p d hj.2.1
    have h1:0≤c * sheets p d:=Int.mul_nonneg (by omega) (by omega)
    have h2:c * sheets p d≤20 * sheets p d:=Int.mul_le_mul_of_nonneg_right (by omega) (by omega)
    omega
  · omega
set_option maxRecDepth 100000 in
theorem ssheets_all:((List.range 64).all fun i=>(spec_SheetsFor.f 200 (1+(i:Int)) 1 true==some (sheets (1+(i:Int)) true)) && (spec_SheetsFor.f 200 (1+(i:Int)) 1 false==some (sheets (1+(i:Int)) false)))=true:=by decide+kernel
theorem ssheets_eq (p:Int) (d:Bool) (h:1≤p∧p≤64):Ev (fun k=>spec_SheetsFor.f k p 1 d) (sheets p d):=by
  have h1:=List.all_eq_true.1 ssheets_all (p - 1).toNat (List.mem_range.2 (by omega))
  rw[show 1+((p - 1).toNat:Int)=p by omega,Bool.and_eq_true]at h1
  refine Ev.of (k:=200) (fun k=>spec_SheetsFor.mono p 1 d k) ?_
  cases d with
  |true=>exact beq_iff_eq.1 h1.1
  |false=>exact beq_iff_eq.1 h1.2
theorem sjsh_eq (i p c:Int) (d:Bool) (r:Int) (h:Bool):Ev (fun k=>spec_JobSheets.f k i p c d r h) (jsh i p c d r):=by
  have hb:=jsh_in i p c d r
  unfold spec_JobSheets.f jsh
  unfold jsh at hb
  simp only[sjok_eq,Option.bind_some]
  by_cases hj:jok i p c r=true
  · simp only[if_pos hj]at hb ⊢
    have hk:=jok_true hj
    refine Ev.bind (ssheets_eq p d hk.2.1) ?_
    rw[Loops.wrap_in (by omega) (by omega)]
    exact Ev.now _
  · simp only[if_neg hj]
    exact Ev.now _
def nowOk (i p c:Int) (d:Bool) (r:Int) (h:Bool) (s:Int):Bool:=if(i==0 && (p==0 && (c==0 && (!d && (r==0 && (!h))))))=true then(s==0) else(jok i p c r && (decide (jsh i p c d r≤40) && (jsh i p c d r==s)))
def mok (L:List S33) (i p c:Int) (d:Bool) (r:Int) (h:Bool) (s n:Int) (I O:List Int) (w:Int) (P:Int):Bool:=jobsOk L && (lineOk s n I O w && (decide (0≤P∧P≤100000) && nowOk i p c d r h s))
theorem smok_eq (L:List S33) (i p c:Int) (d:Bool) (r:Int) (h:Bool) (s n:Int) (I O:List Int) (w:Int) (st:Bool) (P:Int) (hL:L.length≤4194304) (hI:I.length≤1048576) (hO:O.length≤1048576):
    Ev (fun k=>spec_MachineOk.f k L i p c d r h s n I O w st P) (mok L i p c d r h s n I O w P):=by
  have jt:Ev (fun k=>spec_MachineOk.j0 k true L i p c d r h s n I O w st P) false:=Loops.Ev.one (fun k=>by simp only[spec_MachineOk.j0,if_true])
  have jf:Ev (fun k=>spec_MachineOk.j0 k false L i p c d r h s n I O w st P) (nowOk i p c d r h s):=by
    refine Loops.Ev.succ ?_
    simp only[spec_MachineOk.j0,Bool.false_eq_true,if_false]
    unfold nowOk
    by_cases h0:(i==0 && (p==0 && (c==0 && (!d && (r==0 && (!h))))))=true
    · simp only[if_pos h0]
      exact Ev.now _
    simp only[if_neg h0,sjok_eq,Option.bind_some]
    by_cases hj:jok i p c r=true
    · simp only[if_pos hj,hj,Bool.true_and]
      refine Ev.bind (sjsh_eq i p c d r h) ?_
      by_cases h4:jsh i p c d r≤40
      · simp only[if_pos h4,decide_eq_true h4,Bool.true_and]
        exact Ev.bind (sjsh_eq i p c d r h) (Ev.now _)
      · simp only[if_neg h4,decide_eq_false h4,Bool.false_and]
        exact Ev.now _
    · simp only[if_neg hj,Bool.eq_false_iff.mpr hj,Bool.false_and]
      exact Ev.now _
  unfold spec_MachineOk.f mok
  refine Ev.bind (sjobs_eq L hL) ?_
  by_cases h1:jobsOk L=true
  · simp only[if_pos h1,h1,Bool.true_and]
    refine Ev.bind (sline_eq s n I O w st hI hO) ?_
    by_cases h2:lineOk s n I O w=true
    · simp only[if_pos h2,h2,Bool.true_and,in_eq,Option.bind_some]
      by_cases h3:0≤P∧P≤100000
      · simp only[decide_eq_true h3,Bool.not_true,Bool.true_and]
        exact jf
      · simp only[decide_eq_false h3,Bool.not_false,Bool.false_and]
        exact jt
    · simp only[if_neg h2,Bool.eq_false_iff.mpr h2,Bool.false_and]
      exact jt
  · simp only[if_neg h1,Bool.eq_false_iff.mpr h1,Bool.false_and]
    exact jt
def newLine (a:Int):Int×Int×List Int×List Int×Int×Bool×Bool:=if 0≤a∧a≤40 then(a,0,[],[],0,false,true) else(0,0,[],[],0,false,false)
theorem inew_eq (a:Int):impl_NewLine.f a=some (newLine a):=by
  unfold impl_NewLine.f newLine
  rw[within_eq]
  by_cases h:0≤a∧a≤40<;>simp[h]
theorem snew_eq (a:Int):spec_NewLine.f a=some (newLine a):=by
  unfold spec_NewLine.f newLine
  rw[in_eq]
  by_cases h:0≤a∧a≤40<;>simp[h]
def aok (k a b c:Int):Bool:=if k=1 then jok a b 1 c else if k=2∨k=4 then decide (a=0∧b=0∧c=0) else if k=3 then decide ((1≤a∧a≤5)∧b=0∧c=0) else if k=5 then decide ((1≤a∧a≤9999)∧b=0∧c=0) else false
theorem zero3 (a b c:Int):(if a=0 then(if b=0 then(some (c==0)) else some false) else some false)=some (decide (a=0∧b=0∧c=0)):=by
  by_cases h:a=0<;>by_cases h2:b=0<;>by_cases h3:c=0<;>simp[h,h2,h3]
theorem zero2 (p:Prop) [Decidable p] (b c:Int):(if decide p=true then(if b=0 then(some (c==0)) else some false) else some false)=some (decide (p∧b=0∧c=0)):=by
  by_cases h:p<;>by_cases h2:b=0<;>by_cases h3:c=0<;>simp[h,h2,h3]
theorem saok_eq (K a b c:Int):Ev (fun k=>spec_ActOk.f k K a b c) (aok K a b c):=by
  unfold spec_ActOk.f aok
  by_cases h1:K=1
  · simp only[if_pos h1,spec_l39Job.f,sjok_eq,Option.bind_some]
    exact Ev.now _
  simp only[if_neg h1]
  by_cases h3:K=3
  · simp only[if_pos h3,if_neg (show ¬(K=2∨K=4) by omega),in_eq,Option.bind_some,zero2]
    exact Ev.now _
  simp only[if_neg h3]
  by_cases h2:K=2
  · simp only[if_pos h2,h2,true_or,if_true]
    exact Loops.Ev.one (fun k=>by simp only[spec_ActOk.j0,beq_self_eq_true,if_true,zero3])
  simp only[if_neg h2]
  by_cases h4:K=4
  · simp only[h4,or_true,if_true]
    exact Loops.Ev.one (fun k=>by simp only[spec_ActOk.j0,beq_self_eq_true,if_true,zero3])
  rw[if_neg (show ¬(K=2∨K=4) by omega)]
  refine Loops.Ev.one (fun k=> ?_)
  simp only[spec_ActOk.j0]
  rw[if_neg (by simp[h4])]
  by_cases h5:K=5
  · simp only[if_pos h5,in_eq,Option.bind_some,zero2]
  · simp only[if_neg h5]
theorem clone_eq (l:List Int) (hl:l.length≤1048576):slices_Clone_int_int.f l=some l:=by
  unfold slices_Clone_int_int.f
  simp only[Option.bind_some,List.length_nil,List.nil_append]
  rw[if_pos (by omega)]
theorem copyLine_eq (s n:Int) (I O:List Int) (w:Int) (st:Bool) (hI:I.length≤1048576) (hO:O.length≤1048576):impl_copyLine.f s n I O w st=some (s,n,I,O,w,st):=by
  unfold impl_copyLine.f
  simp only[clone_eq I hI,clone_eq O hO,Option.bind_some]
def lstep (s n:Int) (I O:List Int) (w:Int) (st:Bool) (a:Int):Int×Int×List Int×List Int×Int×Bool×Bool:=
  if lineOk s n I O w=true then
    (if a=1 then(if(I.length:Int) ≥ 5 then(s,n,I,O,w,st,false) else if n ≥ s then(s,n,I,O,w,st,false) else if st=true then(s,n,I,O,w,st,false) else(s,n+1,I++ [n],O,w,st,true))
    else if a=2 then(if(I.length:Int)=0 then(s,n,I,O,w,st,false) else if st=true then(s,n,I,O,w,st,false) else(s,n,I.drop 1,O++ [rd I 0],w,st,true))
    else if a=3 then(s,(O.length:Int),[],O,mn 100000 (w+I.length),true,true)
    else if a=4 then(s,n,I,O,w,true,true)
    else if a=5 then(s,n,I,O,w,false,true)
    else(s,n,I,O,w,st,false))
  else(s,n,I,O,w,st,false)
theorem lineOk_parts {s n:Int} {I O:List Int} {w:Int} (h:lineOk s n I O w=true):((0≤s∧s≤40)∧n≤s)∧(I.length:Int)≤5∧(0≤w∧w≤100000)∧(O.length:Int)+I.length=n:=by
  simp only[lineOk,Bool.and_eq_true,decide_eq_true_eq]at h
  exact h.1
theorem lineOk_seq {s n:Int} {I O:List Int} {w:Int} (h:lineOk s n I O w=true):seqB 0 (O++I)=true:=by
  simp only[lineOk,Bool.and_eq_true]at h
  exact h.2
theorem lineOk_mk {s n:Int} {I O:List Int} {w:Int} (h:((0≤s∧s≤40)∧n≤s)∧(I.length:Int)≤5∧(0≤w∧w≤100000)∧(O.length:Int)+I.length=n) (h2:seqB 0 (O++I)=true):lineOk s n I O w=true:=by
  unfold lineOk
  rw[decide_eq_true h,h2]
  rfl
theorem istep_eq (s n:Int) (I O:List Int) (w:Int) (st:Bool) (a:Int) (hI:I.length≤1048576) (hO:O.length≤1048576):Ev (fun k=>impl_LineStep.f k s n I O w st a) (lstep s n I O w st a):=by
  unfold impl_LineStep.f lstep
  simp only[copyLine_eq s n I O w st hI hO,Option.bind_some]
  refine Ev.bind (iline_eq s n I O w st hI hO) ?_
  by_cases hl:lineOk s n I O w=true
  · simp only[if_pos hl]
    have hp:=lineOk_parts hl
    by_cases h1:a=1
    · simp only[if_pos h1]
      by_cases h2:(I.length:Int) ≥ 5
      · simp only[if_pos h2];exact Ev.now _
      simp only[if_neg h2]
      by_cases h3:n ≥ s
      · simp only[if_pos h3];exact Ev.now _
      simp only[if_neg h3]
      by_cases h4:st=true
      · simp only[if_pos h4];exact Ev.now _
      simp only[if_neg h4,if_pos (show I.length<17592186044416 by omega)]
      rw[Loops.wrap_in (show -9223372036854775808≤n+1 by omega) (by omega)]
      exact Ev.now _
    simp only[if_neg h1]
    by_cases h1:a=2
    · simp only[if_pos h1]
      by_cases h2:(I.length:Int)=0
      · simp only[if_pos h2];exact Ev.now _
      simp only[if_neg h2]
      by_cases h4:st=true
      · simp only[if_pos h4];exact Ev.now _
      simp only[if_neg h4,if_pos (show 0<(I.length:Int) by omega),if_pos (show O.length<17592186044416 by omega),if_pos (show 1≤(I.length:Int) by omega)]
      exact Ev.now _
    simp only[if_neg h1]
    by_cases h1:a=3
    · simp only[if_pos h1]
      rw[Loops.wrap_in (show -9223372036854775808≤w+(I.length:Int) by omega) (by omega)]
      exact Ev.now _
    simp only[if_neg h1]
    by_cases h1:a=4
    · simp only[if_pos h1];exact Ev.now _
    simp only[if_neg h1]
    by_cases h1:a=5
    · simp only[if_pos h1];exact Ev.now _
    simp only[if_neg h1];exact Ev.now _
  · simp only[if_neg hl];exact Ev.now _
theorem lstep_good (s n:Int) (I O:List Int) (w:Int) (st:Bool) (a:Int) (hl:lineOk s n I O w=true):∃n2 I2 O2 w2 st2 ok,lstep s n I O w st a=(s,n2,I2,O2,w2,st2,ok)∧lineOk s n2 I2 O2 w2=true∧w2≤w+5:=by
  have hp:=lineOk_parts hl
  have hs:=lineOk_seq hl
  unfold lstep
  rw[if_pos hl]
  split
  · split
    · exact⟨_,_,_,_,_,_,rfl,hl,by omega⟩
    split
    · exact⟨_,_,_,_,_,_,rfl,hl,by omega⟩
    split
    · exact⟨_,_,_,_,_,_,rfl,hl,by omega⟩
    refine⟨_,_,_,_,_,_,rfl,lineOk_mk ⟨by omega,by simp;omega,by omega,by simp;omega⟩ ?_,by omega⟩
    rw[←List.append_assoc,seqB_append,hs,Bool.true_and]
    simp only[seqB,Bool.and_true,decide_eq_true_eq,List.length_append]
    omega
  split
  · split
    · exact⟨_,_,_,_,_,_,rfl,hl,by omega⟩
    split
    · exact⟨_,_,_,_,_,_,rfl,hl,by omega⟩
    rename_i hne _
    cases I with
    |nil=>exact absurd rfl hne
    |cons x xs=>
      refine⟨_,_,_,_,_,_,rfl,lineOk_mk ⟨by omega,?_,by omega,?_⟩ ?_,by omega⟩
      · simp at hp ⊢;omega
      · simp at hp ⊢;omega
      · have e:(O++ [rd (x::xs) 0])++List.drop 1 (x::xs)=O++(x::xs):=by simp[rd]
        rw[e];exact hs
  split
  · refine⟨_,_,_,_,_,_,rfl,lineOk_mk ⟨by omega,by simp,by unfold mn;split<;>omega,by simp⟩ ?_,by unfold mn;split<;>omega⟩
    rw[List.append_nil]
    rw[seqB_append,Bool.and_eq_true]at hs
    exact hs.1
  split
  · exact⟨_,_,_,_,_,_,rfl,hl,by omega⟩
  split
  · exact⟨_,_,_,_,_,_,rfl,hl,by omega⟩
  exact⟨_,_,_,_,_,_,rfl,hl,by omega⟩
theorem good_len {s n:Int} {I O:List Int} {w:Int} (h:lineOk s n I O w=true):I.length≤1048576∧O.length≤1048576:=by
  have:=lineOk_parts h
  omega
theorem scopy_eq (l:List Int) (hl:l.length≤1048576):spec_l05Copy.f l=some l:=by
  unfold spec_l05Copy.f
  simp only[Option.bind_some,List.length_nil,List.nil_append]
  rw[if_pos (by omega)]
theorem scopyLine_eq (s n:Int) (I O:List Int) (w:Int) (st:Bool) (hI:I.length≤1048576) (hO:O.length≤1048576):spec_l37Copy.f s n I O w st=some (s,n,I,O,w,st):=by
  unfold spec_l37Copy.f
  simp only[scopy_eq I hI,scopy_eq O hO,Option.bind_some]
theorem sstep_eq (s n:Int) (I O:List Int) (w:Int) (st:Bool) (a:Int) (hI:I.length≤1048576) (hO:O.length≤1048576):Ev (fun k=>spec_LineStep.f k s n I O w st a) (lstep s n I O w st a):=by
  unfold spec_LineStep.f lstep
  simp only[scopyLine_eq s n I O w st hI hO,Option.bind_some]
  refine Ev.bind (sline_eq s n I O w st hI hO) ?_
  by_cases hl:lineOk s n I O w=true
  · simp only[if_pos hl]
    have hp:=lineOk_parts hl
    by_cases h1:a=1
    · simp only[if_pos h1]
      by_cases h4:st=true
      · simp only[if_pos h4,ite_self];exact Ev.now _
      simp only[if_neg h4]
      by_cases h2:(I.length:Int)=5
      · simp only[if_pos h2,if_pos (show(I.length:Int) ≥ 5 by omega)];exact Ev.now _
      simp only[if_neg h2,if_neg (show ¬(I.length:Int) ≥ 5 by omega)]
      by_cases h3:n=s
      · simp only[if_pos h3,if_pos (show n ≥ s by omega)];exact Ev.now _
      simp only[if_neg h3,if_neg (show ¬n ≥ s by omega),if_pos (show I.length<17592186044416 by omega)]
      rw[Loops.wrap_in (show -9223372036854775808≤n+1 by omega) (by omega)]
      exact Ev.now _
    simp only[if_neg h1]
    by_cases h1:a=2
    · simp only[if_pos h1]
      by_cases h4:st=true
      · simp only[if_pos h4,ite_self];exact Ev.now _
      simp only[if_neg h4]
      by_cases h2:(I.length:Int)=0
      · simp only[if_pos h2];exact Ev.now _
      simp only[if_neg h2,if_pos (show 0<(I.length:Int) by omega),if_pos (show O.length<17592186044416 by omega),if_pos (show 1≤(I.length:Int) by omega)]
      exact Ev.now _
    simp only[if_neg h1]
    by_cases h1:a=3
    · simp only[if_pos h1]
      rw[Loops.wrap_in (show -9223372036854775808≤w+(I.length:Int) by omega) (by omega)]
      exact Ev.now _
    simp only[if_neg h1]
    by_cases h1:a=4
    · simp only[if_pos h1];exact Ev.now _
    simp only[if_neg h1]
    by_cases h1:a=5
    · simp only[if_pos h1];exact Ev.now _
    simp only[if_neg h1];exact Ev.now _
  · simp only[if_neg hl];exact Ev.now _
theorem seqB_get:∀(l:List Int) (a:Int),seqB a l=true→ ∀i,i<l.length→l.getD i 0=a+i:=by
  intro l
  induction l with
  |nil=>intro a _ i hi;exact absurd hi (by simp)
  |cons x xs ih=>
    intro a h i hi
    simp only[seqB,Bool.and_eq_true,decide_eq_true_eq]at h
    cases i with
    |zero=>simp;exact h.1
    |succ i=>
      have:=ih (a+1) h.2 i (by simpa using hi)
      simp only[List.getD_cons_succ,this]
      omega
theorem feed_ok {s n:Int} {I O:List Int} {w:Int} (hl:lineOk s n I O w=true) (h:(I.length:Int)<5∧n<s):lstep s n I O w false 1=(s,n+1,I++ [n],O,w,false,true):=by
  unfold lstep
  rw[if_pos hl,if_pos rfl,if_neg (by omega),if_neg (by omega),if_neg (by simp)]
theorem feed_no {s n:Int} {I O:List Int} {w:Int} (hl:lineOk s n I O w=true) (h:¬((I.length:Int)<5∧n<s)):lstep s n I O w false 1=(s,n,I,O,w,false,false):=by
  unfold lstep
  rw[if_pos hl,if_pos rfl]
  by_cases h5:(I.length:Int) ≥ 5
  · rw[if_pos h5]
  · rw[if_neg h5,if_pos (by omega)]
theorem move_ok {s n:Int} {I O:List Int} {w:Int} (hl:lineOk s n I O w=true) (h:¬(I.length:Int)=0):lstep s n I O w false 2=(s,n,I.drop 1,O++ [rd I 0],w,false,true):=by
  unfold lstep
  rw[if_pos hl,if_neg (by omega),if_pos rfl,if_neg h,if_neg (by simp)]
theorem move_no {s n:Int} {I O:List Int} {w:Int} (hl:lineOk s n I O w=true) (h:(I.length:Int)=0):lstep s n I O w false 2=(s,n,I,O,w,false,false):=by
  unfold lstep
  rw[if_pos hl,if_neg (by omega),if_pos rfl,if_pos h]
theorem good_after {s n:Int} {I O:List Int} {w:Int} {st:Bool} {a n2:Int} {I2 O2:List Int} {w2:Int} {st2 ok:Bool} (hl:lineOk s n I O w=true) (e:lstep s n I O w st a=(s,n2,I2,O2,w2,st2,ok)):lineOk s n2 I2 O2 w2=true:=by
  obtain⟨n3,I3,O3,w3,st3,ok3,e3,h3,_⟩:=lstep_good s n I O w st a hl
  have h:=e3.symm.trans e
  simp only[Prod.mk.injEq]at h
  obtain⟨_,rfl,rfl,rfl,rfl,_⟩:=h
  exact h3
theorem fin_l1 (s:Int) (w:Int):∀(d:Nat) (c:Bool) (n:Int) (I O:List Int),lineOk s n I O w=true→2 * ((s - n)+(s - O.length))+(if c=true then 1 else 0)<d→ ∃O2,Ev (fun k=>impl_FinishLine.l1 k c s n I O w false) (s,s,[],O2,w,false)∧lineOk s s [] O2 w=true:=by
  intro d
  induction d with
  |zero=>
    intro c n I O hl hd
    have hp:=lineOk_parts hl
    split at hd<;>omega
  |succ d ih=>
    intro c n I O hl hd
    have hp:=lineOk_parts hl
    have hg:=good_len hl
    by_cases hf:(I.length:Int)<5∧n<s
    · have e:=feed_ok hl hf
      have ev:=istep_eq s n I O w false 1 hg.1 hg.2
      rw[e]at ev
      obtain⟨O2,ev2,h2⟩:=ih true (n+1) (I++ [n]) O (good_after hl e) (by simp only[if_true];split at hd<;>omega)
      refine⟨O2,Loops.Ev.succ ?_,h2⟩
      simp only[impl_FinishLine.l1]
      refine Ev.bind ev ?_
      simp only[if_true]
      exact ev2
    · have e:=feed_no hl hf
      have ev:=istep_eq s n I O w false 1 hg.1 hg.2
      rw[e]at ev
      by_cases hm:(I.length:Int)=0
      · have e2:=move_no hl hm
        have ev2:=istep_eq s n I O w false 2 hg.1 hg.2
        rw[e2]at ev2
        obtain rfl:I= []:=List.eq_nil_of_length_eq_zero (by omega)
        obtain rfl:n=s:=by simp at hf hp;omega
        cases c with
        |true=>
          obtain⟨O2,ev3,h3⟩:=ih false n [] O hl (by simp only[Bool.false_eq_true,if_false];simp only[if_true]at hd;omega)
          refine⟨O2,Loops.Ev.succ ?_,h3⟩
          simp only[impl_FinishLine.l1]
          refine Ev.bind ev ?_
          simp only[Bool.false_eq_true,if_false]
          refine Ev.bind ev2 ?_
          simp only[Bool.false_eq_true,if_false]
          refine Loops.Ev.succ ?_
          simp only[impl_FinishLine.l0,if_true]
          exact ev3
        |false=>
          refine⟨O,Loops.Ev.succ ?_,hl⟩
          simp only[impl_FinishLine.l1]
          refine Ev.bind ev ?_
          simp only[Bool.false_eq_true,if_false]
          refine Ev.bind ev2 ?_
          simp only[Bool.false_eq_true,if_false]
          refine Loops.Ev.one (fun k=> ?_)
          simp only[impl_FinishLine.l0,Bool.false_eq_true,if_false]
      · have e2:=move_ok hl hm
        have ev2:=istep_eq s n I O w false 2 hg.1 hg.2
        rw[e2]at ev2
        obtain⟨O2,ev3,h3⟩:=ih false n (I.drop 1) (O++ [rd I 0]) (good_after hl e2) (by simp only[Bool.false_eq_true,if_false,List.length_append,List.length_cons,List.length_nil];split at hd<;>omega)
        refine⟨O2,Loops.Ev.succ ?_,h3⟩
        simp only[impl_FinishLine.l1]
        refine Ev.bind ev ?_
        simp only[Bool.false_eq_true,if_false]
        refine Ev.bind ev2 ?_
        simp only[if_true]
        refine Loops.Ev.succ ?_
        simp only[impl_FinishLine.l0,if_true]
        exact ev3
theorem ifin_good (s n:Int) (I O:List Int) (w:Int) (st:Bool) (hl:lineOk s n I O w=true):∃O2,Ev (fun k=>impl_FinishLine.f k s n I O w st) (s,s,[],O2,w,false)∧lineOk s s [] O2 w=true:=by
  have hp:=lineOk_parts hl
  have hg:=good_len hl
  obtain⟨O2,ev,h2⟩:=fin_l1 s w 1000 false n I O hl (by simp only[Bool.false_eq_true,if_false];omega)
  refine⟨O2,?_,h2⟩
  unfold impl_FinishLine.f
  have e:lstep s n I O w st 5=(s,n,I,O,w,false,true):=by
    unfold lstep
    rw[if_pos hl,if_neg (by omega),if_neg (by omega),if_neg (by omega),if_neg (by omega),if_pos rfl]
  have eg:=istep_eq s n I O w st 5 hg.1 hg.2
  rw[e]at eg
  refine Ev.bind eg (Loops.Ev.succ ?_)
  simp only[impl_FinishLine.l0,if_true]
  exact ev
theorem seqB_iota:∀(l:List Int) (a:Int),seqB a l=true→l=Loops.iota a l.length:=by
  intro l a h
  apply List.ext_getElem
  · rw[Loops.iota_len]
  · intro i h1 h2
    have e1:=seqB_get l a h i h1
    have e2:=Loops.iota_get a l.length i h1
    simp only[List.getD,List.getElem?_eq_getElem h1,Option.getD_some]at e1
    simp only[List.getD,List.getElem?_eq_getElem h2,Option.getD_some]at e2
    rw[e1,e2]
theorem full_one {s:Int} {O:List Int} {w:Int} (h:lineOk s s [] O w=true):O=Loops.iota 0 s.toNat:=by
  have hp:=lineOk_parts h
  have hq:=lineOk_seq h
  rw[List.append_nil]at hq
  rw[seqB_iota O 0 hq]
  congr 1
  simp at hp
  omega
theorem sfin_l1 (s:Int) (w:Int):∀(d:Nat) (c:Bool) (n:Int) (I O:List Int),lineOk s n I O w=true→(c=false→ ¬((I.length:Int)<5∧n<s))→2 * ((s - n)+(s - O.length))+(if c=true then 1 else 0)<d→ ∃O2,Ev (fun k=>spec_FinishLine.l1 k c s n I O w false) (s,s,[],O2,w,false)∧lineOk s s [] O2 w=true:=by
  intro d
  induction d with
  |zero=>
    intro c n I O hl hcf hd
    have hp:=lineOk_parts hl
    split at hd<;>omega
  |succ d ih=>
    intro c n I O hl hcf hd
    have hp:=lineOk_parts hl
    have hg:=good_len hl
    cases c with
    |true=>
      simp only[if_true]at hd
      by_cases hf:(I.length:Int)<5∧n<s
      · have e:=feed_ok hl hf
        have ev:=sstep_eq s n I O w false 1 hg.1 hg.2
        rw[e]at ev
        obtain⟨O2,ev2,h2⟩:=ih true (n+1) (I++ [n]) O (good_after hl e) (by simp) (by simp only[if_true];omega)
        refine⟨O2,Loops.Ev.succ ?_,h2⟩
        simp only[spec_FinishLine.l1,if_true]
        exact Ev.bind ev ev2
      · have e:=feed_no hl hf
        have ev:=sstep_eq s n I O w false 1 hg.1 hg.2
        rw[e]at ev
        obtain⟨O2,ev2,h2⟩:=ih false n I O hl (fun _=>hf) (by simp only[Bool.false_eq_true,if_false];omega)
        refine⟨O2,Loops.Ev.succ ?_,h2⟩
        simp only[spec_FinishLine.l1,if_true]
        exact Ev.bind ev ev2
    |false=>
      simp only[Bool.false_eq_true,if_false]at hd
      by_cases hm:(I.length:Int)=0
      · have e2:=move_no hl hm
        have ev2:=sstep_eq s n I O w false 2 hg.1 hg.2
        rw[e2]at ev2
        obtain rfl:I= []:=List.eq_nil_of_length_eq_zero (by omega)
        have hf:=hcf rfl
        obtain rfl:n=s:=by simp at hf;omega
        refine⟨O,Loops.Ev.succ ?_,hl⟩
        simp only[spec_FinishLine.l1,Bool.false_eq_true,if_false]
        refine Ev.bind ev2 (Loops.Ev.one (fun k=> ?_))
        simp only[spec_FinishLine.l0,Bool.false_eq_true,if_false]
      · have e2:=move_ok hl hm
        have ev2:=sstep_eq s n I O w false 2 hg.1 hg.2
        rw[e2]at ev2
        obtain⟨O2,ev3,h3⟩:=ih true n (I.drop 1) (O++ [rd I 0]) (good_after hl e2) (by simp) (by simp only[if_true,List.length_append,List.length_cons,List.length_nil];omega)
        refine⟨O2,Loops.Ev.succ ?_,h3⟩
        simp only[spec_FinishLine.l1,Bool.false_eq_true,if_false]
        refine Ev.bind ev2 (Loops.Ev.succ ?_)
        simp only[spec_FinishLine.l0,if_true]
        exact ev3
theorem go_ok {s n:Int} {I O:List Int} {w:Int} {st:Bool} (hl:lineOk s n I O w=true):lstep s n I O w st 5=(s,n,I,O,w,false,true):=by
  unfold lstep
  rw[if_pos hl,if_neg (by omega),if_neg (by omega),if_neg (by omega),if_neg (by omega),if_pos rfl]
theorem jobsOk_iff (L:List S33):jobsOk L=true ↔ L.length≤12∧(∀x ∈ L,jok x.f0 x.f1 x.f2 x.f4=true)∧(L.map (fun x=>x.f0)).Pairwise (fun a b=>a≠b):=by
  unfold jobsOk
  rw[Bool.and_eq_true,decide_eq_true_eq,List.all_eq_true,List.pairwise_map,List.pairwise_iff_getElem]
  constructor
  · rintro⟨h1,h2⟩
    refine⟨h1,fun x hx=> ?_,fun i j hi hj hij=> ?_⟩
    · obtain⟨i,hi,rfl⟩:=List.getElem_of_mem hx
      have:=h2 i (List.mem_range.2 hi)
      rw[Bool.and_eq_true]at this
      have:=this.1
      unfold jokAt at this
      simpa[List.getD,List.getElem?_eq_getElem hi]using this
    · have:=h2 j (List.mem_range.2 hj)
      rw[Bool.and_eq_true]at this
      have:=this.2
      unfold newAt at this
      rw[List.all_eq_true]at this
      have:=of_decide_eq_true (this i (List.mem_range.2 hij))
      simpa[List.getD,List.getElem?_eq_getElem hi,List.getElem?_eq_getElem hj]using this
  · rintro⟨h1,h2,h3⟩
    refine⟨h1,fun i hi=> ?_⟩
    have hi:=List.mem_range.1 hi
    rw[Bool.and_eq_true]
    constructor
    · have:=h2 _ (List.getElem_mem hi)
      unfold jokAt
      simpa[List.getD,List.getElem?_eq_getElem hi]using this
    · unfold newAt
      rw[List.all_eq_true]
      intro j hj
      have hj:=List.mem_range.1 hj
      have:=h3 j i (by omega) hi hj
      apply decide_eq_true
      simpa[List.getD,List.getElem?_eq_getElem hi,List.getElem?_eq_getElem (show j<L.length by omega)]using this
def addJ (L:List S33) (j:S33):List S33×Bool:=if jobsOk L=true then(if jobsOk (L++ [j])=true then(L++ [j],true) else(L,false)) else(L,false)
def pickJ (L:List S33) (b:Int) (i:Nat):Int:=if(L.getD i z33).f5=true then b else if b<0 then(i:Int) else if(L.getD i z33).f4 >(L.getD b.toNat z33).f4 then(i:Int) else b
def bestJ (L:List S33) (i:Nat):Int:=(List.range i).foldl (pickJ L) (-1)
def nextJ (L:List S33):Int:=if jobsOk L=true then bestJ L L.length else -1
theorem bestJ_succ (L:List S33) (i:Nat):bestJ L (i+1)=pickJ L (bestJ L i) i:=by simp[bestJ,List.range_succ]
theorem bestJ_in (L:List S33):∀i,-1≤bestJ L i∧bestJ L i<i:=by
  intro i
  induction i with
  |zero=>simp[bestJ]
  |succ i ih=>
    rw[bestJ_succ]
    unfold pickJ
    repeat' split
    all_goals omega
theorem nextJ_in (L:List S33): -1≤nextJ L∧nextJ L<L.length:=by
  unfold nextJ
  split
  · exact bestJ_in L L.length
  · omega
def jobJ (L:List S33):S33:=if nextJ L<0 then⟨0,0,0,false,0,false⟩ else L.getD (nextJ L).toNat z33
def restJ (L:List S33):List S33:=if nextJ L<0 then L else L.eraseIdx (nextJ L).toNat
def findJ (L:List S33) (a:Int):Int:=if jobsOk L=true then jobIdx L a 0 else -1
def freeJ (x:S33):S33:=⟨x.f0,x.f1,x.f2,x.f3,x.f4,false⟩
def relJ (L:List S33) (a:Int):List S33×Bool:=if findJ L a<0 then(L,false) else if(L.getD (findJ L a).toNat z33).f5=true then(L.set (findJ L a).toNat (freeJ (L.getD (findJ L a).toNat z33)),true) else(L,false)
theorem jobIdx_in:∀(l:List S33) (b a:Int),0≤a→jobIdx l b a= -1∨(a≤jobIdx l b a∧jobIdx l b a<a+l.length):=by
  intro l
  induction l with
  |nil=>intro b a _;exact .inl rfl
  |cons y ys ih=>
    intro b a ha
    unfold jobIdx
    split
    · right;simp;omega
    · rcases ih b (a+1) (by omega) with h|h
      · exact .inl h
      · right;simp;omega
theorem findJ_in (L:List S33) (a:Int): -1≤findJ L a∧findJ L a<L.length:=by
  unfold findJ
  split
  · rcases jobIdx_in L a 0 (by omega) with h|h<;>omega
  · omega
theorem addJ_ok {L:List S33} {j:S33} (h:jobsOk L=true):jobsOk (addJ L j).1=true:=by
  unfold addJ
  rw[if_pos h]
  split
  · assumption
  · exact h
theorem restJ_ok {L:List S33} (h:jobsOk L=true):jobsOk (restJ L)=true:=by
  unfold restJ
  split
  · exact h
  · rw[jobsOk_iff]at h ⊢
    obtain⟨h1,h2,h3⟩:=h
    have hs:=List.eraseIdx_sublist L (nextJ L).toNat
    exact⟨Nat.le_trans hs.length_le h1,fun x hx=>h2 x (hs.subset hx),h3.sublist (hs.map _)⟩
theorem jobJ_ok {L:List S33} (h:jobsOk L=true) (h0:¬nextJ L<0):jok (jobJ L).f0 (jobJ L).f1 (jobJ L).f2 (jobJ L).f4=true:=by
  have hi:=nextJ_in L
  unfold jobJ
  rw[if_neg h0]
  exact((jobsOk_iff L).1 h).2.1 _ (Loops.getD_mem L _ _ (by omega))
theorem relJ_ok {L:List S33} (a:Int) (h:jobsOk L=true):jobsOk (relJ L a).1=true:=by
  unfold relJ
  have hi:=findJ_in L a
  split
  · exact h
  split
  · rename_i h0 _
    rw[jobsOk_iff]at h ⊢
    obtain⟨h1,h2,h3⟩:=h
    have hlt:(findJ L a).toNat<L.length:=by omega
    refine⟨by simpa using h1,fun x hx=> ?_,?_⟩
    · rcases List.mem_or_eq_of_mem_set hx with h|rfl
      · exact h2 x h
      · have:=h2 _ (Loops.getD_mem L z33 _ hlt)
        exact this
    · have e:(L.set (findJ L a).toNat (freeJ (L.getD (findJ L a).toNat z33))).map (fun x=>x.f0)=L.map (fun x=>x.f0):=by
        rw[List.map_set]
        apply List.ext_getElem
        · simp
        · intro n h1 h2
          rw[List.getElem_set]
          split
          · rename_i e
            subst e
            simp[freeJ,List.getD,List.getElem?_eq_getElem hlt]
          · rfl
      rw[e]
      exact h3
  · exact h
theorem sclone_eq (L:List S33) (h:L.length≤4194304):spec_l29Copy.f L=some L:=by
  unfold spec_l29Copy.f
  simp only[Option.bind_some,List.length_nil,List.nil_append]
  rw[if_pos (by omega)]
theorem sadd_eq (L:List S33) (i p c:Int) (d:Bool) (r:Int) (h:Bool) (hL:L.length≤4194303):Ev (fun k=>spec_AddJob.f k L i p c d r h) (addJ L ⟨i,p,c,d,r,h⟩):=by
  unfold spec_AddJob.f addJ
  simp only[sclone_eq L (by omega),Option.bind_some,if_pos (show L.length+([(⟨i,p,c,d,r,h⟩:S33)]:List S33).length<2932031007402 by simp;omega)]
  refine Ev.bind (sjobs_eq L (by omega)) ?_
  by_cases h1:jobsOk L=true
  · simp only[if_pos h1]
    refine Ev.bind (sjobs_eq _ (by simp;omega)) ?_
    by_cases h2:jobsOk (L++ [(⟨i,p,c,d,r,h⟩:S33)])=true
    · simp only[if_pos h2];exact Ev.now _
    · simp only[if_neg h2];exact Ev.now _
  · simp only[if_neg h1];exact Ev.now _
theorem snext_eq (L:List S33) (hL:L.length≤4194304):Ev (fun k=>spec_NextJob.f k L) (nextJ L):=by
  unfold spec_NextJob.f nextJ
  by_cases h1:jobsOk L=true
  · rw[if_pos h1]
    have hl:=((jobsOk_iff L).1 h1).1
    have key:∀(d i:Nat),i+d=L.length→Ev (fun k=>spec_NextJob.l0 k L (bestJ L i) (i:Int)) (bestJ L L.length):=by
      intro d
      induction d with
      |zero=>
        intro i hi
        obtain rfl:i=L.length:=by omega
        refine Ev.step (f:=fun k=>spec_NextJob.j1 k L (bestJ L L.length) (L.length:Int) false) (fun k=> ?_) (Loops.Ev.one (fun k=>by simp only[spec_NextJob.j1,Bool.false_eq_true,if_false]))
        simp only[spec_NextJob.l0]
        rw[if_neg (by omega)]
      |succ d ih=>
        intro i hi
        have hb:=bestJ_in L i
        refine Loops.Ev.succ ?_
        simp only[spec_NextJob.l0,if_pos (show(i:Int)<(L.length:Int) by omega)]
        refine Ev.bind (sjobs_eq L hL) ?_
        rw[h1]
        refine Ev.step (fun k=> ?_) (ih (i+1) (by omega))
        simp only[spec_NextJob.j1,if_true]
        rw[if_pos (show 0≤(i:Int) by omega),if_pos (show(i:Int)<(L.length:Int) by omega),rdJ,bestJ_succ,Loops.wrap_succ (n:=L.length) (by omega) (by omega)]
        unfold pickJ
        by_cases h5:(L.getD i z33).f5=true
        · rw[if_pos h5,if_pos h5]
        · rw[if_neg h5,if_neg h5]
          by_cases h6:bestJ L i<0
          · rw[if_pos h6,if_pos h6]
          · rw[if_neg h6,if_neg h6,if_pos (by omega),if_pos (by omega)]
            have e:rd_T33 L (bestJ L i)=L.getD (bestJ L i).toNat z33:=rfl
            rw[e]
            by_cases h7:(L.getD i z33).f4 >(L.getD (bestJ L i).toNat z33).f4
            · rw[if_pos h7,if_pos h7]
            · rw[if_neg h7,if_neg h7]
    have:=key L.length 0 (by omega)
    simpa[bestJ]using this
  · rw[if_neg h1]
    refine Loops.Ev.succ ?_
    simp only[spec_NextJob.l0]
    by_cases h0:(0:Int)<(L.length:Int)
    · simp only[if_pos h0]
      refine Ev.bind (sjobs_eq L hL) ?_
      rw[Bool.eq_false_iff.mpr h1]
      exact Loops.Ev.one (fun k=>by simp only[spec_NextJob.j1,Bool.false_eq_true,if_false])
    · simp only[if_neg h0]
      exact Loops.Ev.one (fun k=>by simp only[spec_NextJob.j1,Bool.false_eq_true,if_false])
theorem stake_eq (L:List S33) (hL:L.length≤4194304):Ev (fun k=>spec_TakeJob.f k L) (restJ L,(jobJ L).f0,(jobJ L).f1,(jobJ L).f2,(jobJ L).f3,(jobJ L).f4,(jobJ L).f5,decide (0≤nextJ L)):=by
  unfold spec_TakeJob.f
  refine Ev.bind (snext_eq L hL) ?_
  have hi:=nextJ_in L
  unfold restJ jobJ
  by_cases h:nextJ L<0
  · simp only[if_pos h,sclone_eq L hL,Option.bind_some,decide_eq_false (show ¬0≤nextJ L by omega)]
    exact Ev.now _
  · have e2:rd_T33 L (nextJ L)=L.getD (nextJ L).toNat z33:=rfl
    have e3:(L.take (nextJ L).toNat).length≤4194304:=by rw[List.length_take];omega
    simp only[if_neg h,decide_eq_true (show 0≤nextJ L by omega),if_pos (show 0≤nextJ L by omega),if_pos (show nextJ L≤(L.length:Int) by omega),sclone_eq _ e3,Option.bind_some]
    rw[Loops.wrap_in (show -9223372036854775808≤nextJ L+1 by omega) (by omega)]
    have e4:L.take (nextJ L).toNat++L.drop (nextJ L+1).toNat=L.eraseIdx (nextJ L).toNat:=by
      rw[List.eraseIdx_eq_take_drop_succ,show(nextJ L+1).toNat=(nextJ L).toNat+1 by omega]
    simp only[if_pos (show 0≤nextJ L+1 by omega),if_pos (show nextJ L+1≤(L.length:Int) by omega),if_pos (show(L.take (nextJ L).toNat).length+(L.drop (nextJ L+1).toNat).length<2932031007402 by rw[List.length_take,List.length_drop];omega),if_pos (show nextJ L<(L.length:Int) by omega),e2,e4]
    exact Ev.now _
theorem sfind_eq (L:List S33) (a:Int) (hL:L.length≤4194304):Ev (fun k=>spec_l29Find.f k L a) (findJ L a):=by
  unfold spec_l29Find.f findJ
  by_cases h1:jobsOk L=true
  · rw[if_pos h1]
    have key:∀(d i:Nat),i+d=L.length→Ev (fun k=>spec_l29Find.l0 k L a (i:Int)) (jobIdx (L.drop i) a (i:Int)):=by
      intro d
      induction d with
      |zero=>
        intro i hi
        obtain rfl:i=L.length:=by omega
        rw[List.drop_length]
        refine Ev.step (f:=fun k=>spec_l29Find.j1 k L a (L.length:Int) false) (fun k=> ?_) (Loops.Ev.one (fun k=>by simp only[spec_l29Find.j1,Bool.false_eq_true,if_false];rfl))
        simp only[spec_l29Find.l0]
        rw[if_neg (by omega)]
      |succ d ih=>
        intro i hi
        rw[Loops.drop_cons_getD L z33 i (by omega)]
        refine Loops.Ev.succ ?_
        simp only[spec_l29Find.l0,if_pos (show(i:Int)<(L.length:Int) by omega)]
        refine Ev.bind (sjobs_eq L hL) ?_
        rw[h1]
        refine Loops.Ev.succ ?_
        simp only[spec_l29Find.j1,if_true,if_pos (show 0≤(i:Int) by omega),if_pos (show(i:Int)<(L.length:Int) by omega),rdJ,Loops.wrap_succ (n:=L.length) (i:=i) (by omega) (by omega)]
        unfold jobIdx
        by_cases h2:(L.getD i z33).f0=a
        · simp only[if_pos h2];exact Ev.now _
        · simp only[if_neg h2]
          exact ih (i+1) (by omega)
    simpa using key L.length 0 (by omega)
  · rw[if_neg h1]
    refine Loops.Ev.succ ?_
    simp only[spec_l29Find.l0]
    by_cases h0:(0:Int)<(L.length:Int)
    · simp only[if_pos h0]
      refine Ev.bind (sjobs_eq L hL) ?_
      rw[Bool.eq_false_iff.mpr h1]
      exact Loops.Ev.one (fun k=>by simp only[spec_l29Find.j1,Bool.false_eq_true,if_false])
    · simp only[if_neg h0]
      exact Loops.Ev.one (fun k=>by simp only[spec_l29Find.j1,Bool.false_eq_true,if_false])
theorem srel_eq (L:List S33) (a:Int) (hL:L.length≤4194304):Ev (fun k=>spec_ReleaseJob.f k L a) (relJ L a):=by
  unfold spec_ReleaseJob.f relJ
  have hi:=findJ_in L a
  simp only[sclone_eq L hL,Option.bind_some]
  refine Ev.bind (sfind_eq L a hL) ?_
  by_cases h2:findJ L a<0
  · simp only[if_pos h2];exact Ev.now _
  · have e2:rd_T33 L (findJ L a)=L.getD (findJ L a).toNat z33:=rfl
    simp only[if_neg h2,if_pos (show 0≤findJ L a by omega),if_pos (show findJ L a<(L.length:Int) by omega),e2]
    by_cases h3:(L.getD (findJ L a).toNat z33).f5=true
    · simp only[if_pos h3];exact Ev.now _
    · simp only[if_neg h3];exact Ev.now _
abbrev Mach:=List S33×Int×Int×Int×Bool×Int×Bool×Int×Int×List Int×List Int×Int×Bool×Int
abbrev MachN:=List S33×Int×Int×Int×Bool×Int×Bool×Int×Int×List Int×List Int×Int×Bool×Int×Int
def bitJ (b:Bool):Int:=if b=true then 1 else 0
def canTake (L:List S33) (s n:Int) (I O:List Int) (w:Int):Bool:=decide (0≤nextJ L) && (lineOk s n I O w && ((O.length:Int)==s) && decide (jsh (jobJ L).f0 (jobJ L).f1 (jobJ L).f2 (jobJ L).f3 (jobJ L).f4≤40))
def act1 (L:List S33) (i p c:Int) (d:Bool) (r:Int) (h:Bool) (s n:Int) (I O:List Int) (w:Int) (st:Bool) (P:Int) (K a b e:Int):MachN:=
  if K=1 then((addJ L ⟨a,b,1,false,e,e==9⟩).1,i,p,c,d,r,h,s,n,I,O,w,st,P,bitJ (addJ L ⟨a,b,1,false,e,e==9⟩).2)
  else if K=2 then(if canTake L s n I O w=true then(restJ L,(jobJ L).f0,(jobJ L).f1,(jobJ L).f2,(jobJ L).f3,(jobJ L).f4,(jobJ L).f5,jsh (jobJ L).f0 (jobJ L).f1 (jobJ L).f2 (jobJ L).f3 (jobJ L).f4,0,[],[],0,false,mn 100000 (P+O.length),(jobJ L).f0) else(L,i,p,c,d,r,h,s,n,I,O,w,st,P,0))
  else if K=3 then(L,i,p,c,d,r,h,(lstep s n I O w st a).1,(lstep s n I O w st a).2.1,(lstep s n I O w st a).2.2.1,(lstep s n I O w st a).2.2.2.1,(lstep s n I O w st a).2.2.2.2.1,(lstep s n I O w st a).2.2.2.2.2.1,P,bitJ (lstep s n I O w st a).2.2.2.2.2.2)
  else if K=4 then(L,i,p,c,d,r,h,s,s,[],Loops.iota 0 s.toNat,w,false,P,s)
  else((relJ L a).1,i,p,c,d,r,h,s,n,I,O,w,st,P,bitJ (relJ L a).2)
def doAct (L:List S33) (i p c:Int) (d:Bool) (r:Int) (h:Bool) (s n:Int) (I O:List Int) (w:Int) (st:Bool) (P:Int) (K a b e:Int):MachN:=
  if mok L i p c d r h s n I O w P=true then(if aok K a b e=true then act1 L i p c d r h s n I O w st P K a b e else(L,i,p,c,d,r,h,s,n,I,O,w,st,P,-1)) else(L,i,p,c,d,r,h,s,n,I,O,w,st,P,-1)
theorem mok_parts {L:List S33} {i p c:Int} {d:Bool} {r:Int} {h:Bool} {s n:Int} {I O:List Int} {w P:Int} (H:mok L i p c d r h s n I O w P=true):jobsOk L=true∧lineOk s n I O w=true∧(0≤P∧P≤100000)∧nowOk i p c d r h s=true:=by
  unfold mok at H
  simp only[Bool.and_eq_true,decide_eq_true_eq]at H
  exact H
theorem mok_mk {L:List S33} {i p c:Int} {d:Bool} {r:Int} {h:Bool} {s n:Int} {I O:List Int} {w P:Int} (h1:jobsOk L=true) (h2:lineOk s n I O w=true) (h3:0≤P∧P≤100000) (h4:nowOk i p c d r h s=true):mok L i p c d r h s n I O w P=true:=by
  unfold mok
  rw[h1,h2,h4,decide_eq_true h3]
  rfl
theorem mok_len {L:List S33} {i p c:Int} {d:Bool} {r:Int} {h:Bool} {s n:Int} {I O:List Int} {w P:Int} (H:mok L i p c d r h s n I O w P=true):L.length≤12∧I.length≤1048576∧O.length≤1048576:=by
  obtain⟨h1,h2,_,_⟩:=mok_parts H
  exact⟨((jobsOk_iff L).1 h1).1,good_len h2⟩
def glueM {α:Type}:Mach→α→List S33×Int×Int×Int×Bool×Int×Bool×Int×Int×List Int×List Int×Int×Bool×Int×α
  |(L,i,p,c,d,r,h,s,n,I,O,w,st,P),v=>(L,i,p,c,d,r,h,s,n,I,O,w,st,P,v)
def mokM:Mach→Bool
  |(L,i,p,c,d,r,h,s,n,I,O,w,_,P)=>mok L i p c d r h s n I O w P
theorem act1_mok {L:List S33} {i p c:Int} {d:Bool} {r:Int} {h:Bool} {s n:Int} {I O:List Int} {w:Int} {st:Bool} {P:Int} (K a b e:Int) (hw:lineOk s s [] (Loops.iota 0 s.toNat) w=true) (H:mok L i p c d r h s n I O w P=true):
    ∃(M:Mach) (v:Int),act1 L i p c d r h s n I O w st P K a b e=glueM M v∧mokM M=true:=by
  obtain⟨h1,h2,h3,h4⟩:=mok_parts H
  unfold act1
  split
  · exact⟨(_,_,_,_,_,_,_,_,_,_,_,_,_,_),_,rfl,mok_mk (addJ_ok h1) h2 h3 h4⟩
  split
  · split
    · rename_i hc
      unfold canTake at hc
      simp only[Bool.and_eq_true,decide_eq_true_eq]at hc
      have hj:=jobJ_ok h1 (show ¬nextJ L<0 by omega)
      have hs:=jsh_in (jobJ L).f0 (jobJ L).f1 (jobJ L).f2 (jobJ L).f3 (jobJ L).f4
      refine⟨(_,_,_,_,_,_,_,_,_,_,_,_,_,_),_,rfl,mok_mk (restJ_ok h1) (lineOk_mk ⟨by omega,by simp,by omega,by simp⟩ rfl) ?_ ?_⟩
      · unfold mn;split<;>omega
      · unfold nowOk
        have hj2:=jok_true hj
        rw[if_neg (by simp;intro hz;omega),hj,decide_eq_true (show jsh (jobJ L).f0 (jobJ L).f1 (jobJ L).f2 (jobJ L).f3 (jobJ L).f4≤40 by omega)]
        simp
    · exact⟨(_,_,_,_,_,_,_,_,_,_,_,_,_,_),_,rfl,H⟩
  split
  · obtain⟨n2,I2,O2,w2,st2,ok,e2,h5,_⟩:=lstep_good s n I O w st a h2
    rw[e2]
    exact⟨(_,_,_,_,_,_,_,_,_,_,_,_,_,_),_,rfl,mok_mk h1 h5 h3 h4⟩
  split
  · exact⟨(_,_,_,_,_,_,_,_,_,_,_,_,_,_),_,rfl,mok_mk h1 hw h3 h4⟩
  · exact⟨(_,_,_,_,_,_,_,_,_,_,_,_,_,_),_,rfl,mok_mk (relJ_ok a h1) h2 h3 h4⟩
theorem iota_seq:∀(n:Nat) (a:Int),seqB a (Loops.iota a n)=true:=by
  intro n
  induction n with
  |zero=>intro a;rfl
  |succ n ih=>
    intro a
    rw[Loops.iota_succ,seqB_append,ih a,Loops.iota_len]
    simp[seqB]
theorem iota_ok {s n:Int} {I O:List Int} {w:Int} (h:lineOk s n I O w=true):lineOk s s [] (Loops.iota 0 s.toNat) w=true:=by
  have hp:=lineOk_parts h
  refine lineOk_mk ⟨by omega,by simp,by omega,?_⟩ ?_
  · rw[Loops.iota_len];simp;omega
  · rw[List.append_nil];exact iota_seq _ _
theorem doAct_mok {L:List S33} {i p c:Int} {d:Bool} {r:Int} {h:Bool} {s n:Int} {I O:List Int} {w:Int} {st:Bool} {P:Int} (K a b e:Int) (H:mok L i p c d r h s n I O w P=true):
    ∃(M:Mach) (v:Int),doAct L i p c d r h s n I O w st P K a b e=glueM M v∧mokM M=true:=by
  unfold doAct
  rw[if_pos H]
  split
  · exact act1_mok K a b e (iota_ok (mok_parts H).2.1) H
  · exact⟨(L,i,p,c,d,r,h,s,n,I,O,w,st,P),-1,rfl,H⟩
theorem scopyM_eq (L:List S33) (i p c:Int) (d:Bool) (r:Int) (h:Bool) (s n:Int) (I O:List Int) (w:Int) (st:Bool) (P:Int) (hL:L.length≤4194304) (hI:I.length≤1048576) (hO:O.length≤1048576):spec_l39Copy.f L i p c d r h s n I O w st P=some (L,i,p,c,d,r,h,s,n,I,O,w,st,P):=by
  unfold spec_l39Copy.f
  simp only[sclone_eq L hL,scopyLine_eq s n I O w st hI hO,Option.bind_some]
theorem sbit_eq (b:Bool):spec_l39Bool.f b=some (bitJ b):=by cases b<;>rfl
theorem sfin_good (s n:Int) (I O:List Int) (w:Int) (st:Bool) (hl:lineOk s n I O w=true):Ev (fun k=>spec_FinishLine.f k s n I O w st) (s,s,[],Loops.iota 0 s.toNat,w,false)∧lineOk s s [] (Loops.iota 0 s.toNat) w=true:=by
  have hp:=lineOk_parts hl
  have hg:=good_len hl
  obtain⟨O3,ev,h3⟩:=sfin_l1 s w 1000 true n I O hl (by simp) (by simp only[if_true];omega)
  rw[full_one h3]at ev h3
  refine⟨?_,h3⟩
  unfold spec_FinishLine.f
  have eg:=sstep_eq s n I O w st 5 hg.1 hg.2
  rw[go_ok hl]at eg
  refine Ev.bind eg (Loops.Ev.succ ?_)
  simp only[spec_FinishLine.l0,if_true]
  exact ev
theorem sdone_eq (s n:Int) (I O:List Int) (w:Int) (st:Bool) (hI:I.length≤1048576) (hO:O.length≤1048576):Ev (fun k=>spec_IsDone.f k s n I O w st) (lineOk s n I O w && ((O.length:Int)==s)):=by
  unfold spec_IsDone.f
  refine Ev.bind (sline_eq s n I O w st hI hO) ?_
  by_cases hl:lineOk s n I O w=true
  · simp only[if_pos hl,hl,Bool.true_and];exact Ev.now _
  · simp only[if_neg hl,Bool.eq_false_iff.mpr hl,Bool.false_and];exact Ev.now _
theorem stakeM_eq (L:List S33) (i p c:Int) (d:Bool) (r:Int) (h:Bool) (s n:Int) (I O:List Int) (w:Int) (st:Bool) (P:Int) (hL:L.length≤4194304) (hI:I.length≤1048576) (hO:O.length≤1048576) (hP:0≤P∧P≤100000):
    Ev (fun k=>spec_l39Take.f k L i p c d r h s n I O w st P) (if canTake L s n I O w=true then(restJ L,(jobJ L).f0,(jobJ L).f1,(jobJ L).f2,(jobJ L).f3,(jobJ L).f4,(jobJ L).f5,jsh (jobJ L).f0 (jobJ L).f1 (jobJ L).f2 (jobJ L).f3 (jobJ L).f4,0,[],[],0,false,mn 100000 (P+O.length),(jobJ L).f0) else(L,i,p,c,d,r,h,s,n,I,O,w,st,P,0)):=by
  unfold spec_l39Take.f canTake
  refine Ev.bind (stake_eq L hL) ?_
  by_cases h0:0≤nextJ L
  · simp only[decide_eq_true h0,if_true,Bool.true_and]
    refine Ev.bind (sdone_eq s n I O w st hI hO) ?_
    by_cases h1:(lineOk s n I O w && ((O.length:Int)==s))=true
    · simp only[if_pos h1,h1,Bool.true_and]
      refine Ev.bind (sjsh_eq (jobJ L).f0 (jobJ L).f1 (jobJ L).f2 (jobJ L).f3 (jobJ L).f4 (jobJ L).f5) ?_
      have hs:=jsh_in (jobJ L).f0 (jobJ L).f1 (jobJ L).f2 (jobJ L).f3 (jobJ L).f4
      refine Loops.Ev.succ ?_
      by_cases h2:jsh (jobJ L).f0 (jobJ L).f1 (jobJ L).f2 (jobJ L).f3 (jobJ L).f4≤40
      · simp only[spec_l39Take.j0,decide_eq_false (show ¬jsh (jobJ L).f0 (jobJ L).f1 (jobJ L).f2 (jobJ L).f3 (jobJ L).f4 >40 by omega),decide_eq_true h2,Bool.false_eq_true,if_false,if_true]
        refine Ev.bind (sjsh_eq (jobJ L).f0 (jobJ L).f1 (jobJ L).f2 (jobJ L).f3 (jobJ L).f4 (jobJ L).f5) ?_
        have e:newLine (jsh (jobJ L).f0 (jobJ L).f1 (jobJ L).f2 (jobJ L).f3 (jobJ L).f4)=(jsh (jobJ L).f0 (jobJ L).f1 (jobJ L).f2 (jobJ L).f3 (jobJ L).f4,0,[],[],0,false,true):=by unfold newLine;rw[if_pos ⟨hs.1,h2⟩]
        simp only[snew_eq,e,Option.bind_some]
        rw[Loops.wrap_in (show -9223372036854775808≤P+(O.length:Int) by omega) (by omega)]
        exact Ev.now _
      · simp only[spec_l39Take.j0,decide_eq_true (show jsh (jobJ L).f0 (jobJ L).f1 (jobJ L).f2 (jobJ L).f3 (jobJ L).f4 >40 by omega),decide_eq_false h2,Bool.false_eq_true,if_false,if_true]
        exact Ev.now _
    · simp only[if_neg h1,Bool.eq_false_iff.mpr h1,Bool.false_and,Bool.false_eq_true,if_false]
      exact Loops.Ev.one (fun k=>by simp only[spec_l39Take.j0,if_true])
  · simp only[decide_eq_false h0,Bool.false_and,Bool.false_eq_true,if_false]
    exact Loops.Ev.one (fun k=>by simp only[spec_l39Take.j0,if_true])
theorem aok_five {K a b e:Int} (h:aok K a b e=true) (h1:¬K=1) (h2:¬K=2) (h3:¬K=3) (h4:¬K=4):K=5:=by
  unfold aok at h
  rw[if_neg h1,if_neg (by omega),if_neg h3]at h
  by_cases h5:K=5
  · exact h5
  · rw[if_neg h5]at h;exact absurd h (by simp)
theorem sdoact_eq (L:List S33) (i p c:Int) (d:Bool) (r:Int) (h:Bool) (s n:Int) (I O:List Int) (w:Int) (st:Bool) (P K a b e:Int) (hL:L.length≤4194303) (hI:I.length≤1048576) (hO:O.length≤1048576):
    Ev (fun k=>spec_DoAct.f k L i p c d r h s n I O w st P K a b e) (doAct L i p c d r h s n I O w st P K a b e):=by
  unfold spec_DoAct.f doAct
  simp only[scopyM_eq L i p c d r h s n I O w st P (by omega) hI hO,Option.bind_some]
  refine Ev.bind (smok_eq L i p c d r h s n I O w st P (by omega) hI hO) ?_
  by_cases hm:mok L i p c d r h s n I O w P=true
  · simp only[if_pos hm]
    obtain⟨m1,m2,m3,m4⟩:=mok_parts hm
    refine Ev.bind (saok_eq K a b e) ?_
    by_cases ha:aok K a b e=true
    · simp only[ha,Bool.not_true,if_true]
      refine Loops.Ev.succ ?_
      simp only[spec_DoAct.j0,Bool.false_eq_true,if_false]
      unfold act1
      by_cases h1:K=1
      · simp only[if_pos h1,spec_l39Job.f,Option.bind_some]
        refine Ev.bind (sadd_eq L a b 1 false e (e==9) hL) ?_
        simp only[sbit_eq,Option.bind_some]
        exact Ev.now _
      simp only[if_neg h1]
      by_cases h2:K=2
      · simp only[if_pos h2]
        refine Ev.bind (stakeM_eq L i p c d r h s n I O w st P (by omega) hI hO m3) ?_
        split<;>exact Ev.now _
      simp only[if_neg h2]
      by_cases h3:K=3
      · simp only[if_pos h3]
        refine Ev.bind (sstep_eq s n I O w st a hI hO) ?_
        simp only[sbit_eq,Option.bind_some]
        exact Ev.now _
      simp only[if_neg h3]
      by_cases h4:K=4
      · simp only[if_pos h4]
        refine Ev.bind (sfin_good s n I O w st m2).1 ?_
        have hp:=lineOk_parts m2
        simp only[Loops.iota_len,show((s.toNat:Nat):Int)=s by omega]
        exact Ev.now _
      simp only[if_neg h4,if_pos (aok_five ha h1 h2 h3 h4)]
      refine Ev.bind (srel_eq L a (by omega)) ?_
      simp only[sbit_eq,Option.bind_some]
      exact Ev.now _
    · simp only[Bool.eq_false_iff.mpr ha,Bool.not_false,Bool.false_eq_true,if_false]
      exact Loops.Ev.one (fun k=>by simp only[spec_DoAct.j0,if_true])
  · simp only[if_neg hm]
    exact Loops.Ev.one (fun k=>by simp only[spec_DoAct.j0,if_true])
def toM:MachN→Mach×Int
  |(L,i,p,c,d,r,h,s,n,I,O,w,st,P,v)=>((L,i,p,c,d,r,h,s,n,I,O,w,st,P),v)
def runM:Mach→List S53→Mach×List Int
  |M,[]=>(M,[])
  |(L,i,p,c,d,r,h,s,n,I,O,w,st,P),x::xs=>
    ((runM (toM (doAct L i p c d r h s n I O w st P x.f0 x.f1 x.f2 x.f3)).1 xs).1,(toM (doAct L i p c d r h s n I O w st P x.f0 x.f1 x.f2 x.f3)).2::(runM (toM (doAct L i p c d r h s n I O w st P x.f0 x.f1 x.f2 x.f3)).1 xs).2)
theorem runM_cons {L:List S33} {i p c:Int} {d:Bool} {r:Int} {h:Bool} {s n:Int} {I O:List Int} {w:Int} {st:Bool} {P:Int} {x:S53} {xs:List S53} {M:Mach} {v:Int} (e:doAct L i p c d r h s n I O w st P x.f0 x.f1 x.f2 x.f3=glueM M v):runM (L,i,p,c,d,r,h,s,n,I,O,w,st,P) (x::xs)=((runM M xs).1,v::(runM M xs).2):=by
  obtain⟨L2,i2,p2,c2,d2,r2,h2,s2,n2,I2,O2,w2,st2,P2⟩:=M
  simp only[runM,e,glueM,toM]
theorem runM_mok:∀(xs:List S53) (M:Mach),mokM M=true→mokM (runM M xs).1=true∧(runM M xs).2.length=xs.length:=by
  intro xs
  induction xs with
  |nil=>intro M hM;exact⟨hM,rfl⟩
  |cons x xs ih=>
    intro M hM
    obtain⟨L,i,p,c,d,r,h,s,n,I,O,w,st,P⟩:=M
    obtain⟨M2,v,e,h2⟩:=doAct_mok (st:=st) x.f0 x.f1 x.f2 x.f3 (show mok L i p c d r h s n I O w P=true from hM)
    rw[runM_cons e]
    obtain⟨a,b⟩:=ih M2 h2
    exact⟨a,by simp[b]⟩
theorem rdA (l:List S53) (i:Nat):rd_T53 l (i:Int)=l.getD i z53:=by simp[rd_T53]
theorem srun_loop (A:List S53) (hA:A.length≤40):∀(d i:Nat) (N:List Int) (M:Mach),i+d=A.length→N.length≤i→mokM M=true→
    Ev (fun k=>spec_RunActs.l0 k A N (i:Int) M.1 M.2.1 M.2.2.1 M.2.2.2.1 M.2.2.2.2.1 M.2.2.2.2.2.1 M.2.2.2.2.2.2.1 M.2.2.2.2.2.2.2.1 M.2.2.2.2.2.2.2.2.1 M.2.2.2.2.2.2.2.2.2.1 M.2.2.2.2.2.2.2.2.2.2.1 M.2.2.2.2.2.2.2.2.2.2.2.1 M.2.2.2.2.2.2.2.2.2.2.2.2.1 M.2.2.2.2.2.2.2.2.2.2.2.2.2) (glueM (runM M (A.drop i)).1 (N++(runM M (A.drop i)).2)):=by
  intro d
  induction d with
  |zero=>
    intro i N M hi hN hM
    obtain rfl:i=A.length:=by omega
    obtain⟨L,i,p,c,d,r,h,s,n,I,O,w,st,P⟩:=M
    rw[List.drop_length]
    refine Loops.Ev.one (fun k=> ?_)
    simp only[spec_RunActs.l0,runM,glueM,List.append_nil,if_neg (show ¬(A.length:Int)<(A.length:Int) by omega)]
  |succ d ih=>
    intro i N M hi hN hM
    obtain⟨L,j,p,c,D,r,h,s,n,I,O,w,st,P⟩:=M
    have hl:=mok_len (show mok L j p c D r h s n I O w P=true from hM)
    obtain⟨M2,v,e,h2⟩:=doAct_mok (st:=st) (A.getD i z53).f0 (A.getD i z53).f1 (A.getD i z53).f2 (A.getD i z53).f3 (show mok L j p c D r h s n I O w P=true from hM)
    rw[Loops.drop_cons_getD A z53 i (by omega),runM_cons e]
    have nx:=ih (i+1) (N++ [v]) M2 (by omega) (by simp;omega) h2
    refine Loops.Ev.succ ?_
    simp only[spec_RunActs.l0,if_pos (show(i:Int)<(A.length:Int) by omega),if_pos (show 0≤(i:Int) by omega),rdA]
    refine Ev.bind (sdoact_eq L j p c D r h s n I O w st P _ _ _ _ (by omega) hl.2.1 hl.2.2) ?_
    rw[e]
    obtain⟨L2,i2,p2,c2,d2,r2,h2,s2,n2,I2,O2,w2,st2,P2⟩:=M2
    simp only[glueM,if_pos (show N.length<17592186044416 by omega),Loops.wrap_succ (n:=A.length) (i:=i) (by omega) (by omega)]
    simpa[glueM]using nx
theorem srun_eq (M:Mach) (A:List S53) (hA:A.length≤40) (hM:mokM M=true):Ev (fun k=>spec_RunActs.f k M.1 M.2.1 M.2.2.1 M.2.2.2.1 M.2.2.2.2.1 M.2.2.2.2.2.1 M.2.2.2.2.2.2.1 M.2.2.2.2.2.2.2.1 M.2.2.2.2.2.2.2.2.1 M.2.2.2.2.2.2.2.2.2.1 M.2.2.2.2.2.2.2.2.2.2.1 M.2.2.2.2.2.2.2.2.2.2.2.1 M.2.2.2.2.2.2.2.2.2.2.2.2.1 M.2.2.2.2.2.2.2.2.2.2.2.2.2 A) (glueM (runM M A).1 (runM M A).2):=by
  have key:=srun_loop A hA A.length 0 [] M (by omega) (by simp) hM
  obtain⟨L,j,p,c,D,r,h,s,n,I,O,w,st,P⟩:=M
  have hm:mok L j p c D r h s n I O w P=true:=hM
  have hl:=mok_len hm
  unfold spec_RunActs.f
  simp only[scopyM_eq L j p c D r h s n I O w st P (by omega) hl.2.1 hl.2.2,Option.bind_some]
  refine Ev.bind (smok_eq L j p c D r h s n I O w st P (by omega) hl.2.1 hl.2.2) ?_
  simp only[if_pos hm,decide_eq_false (show ¬(A.length:Int) >40 by omega)]
  refine Loops.Ev.succ ?_
  simp only[spec_RunActs.j0,Bool.false_eq_true,if_false]
  simpa using key
theorem ijobs_eq (l:List S33):Ev (fun k=>impl_JobsOk.f k l) (jobsOk l):=by
  unfold impl_JobsOk.f jobsOk
  by_cases h:(l.length:Int) >12
  · simp only[if_pos h,decide_eq_false (show ¬l.length≤12 by omega),Bool.false_and]
    exact Ev.now _
  simp only[if_neg h,decide_eq_true (show l.length≤12 by omega),Bool.true_and]
  have key:=all_range (G:=fun k i=>impl_JobsOk.l0 k l l (l.length:Int) i) (r:=true) l.length (fun i=>jokAt l i && newAt l i) (fun i R hi hR=>by
    refine Loops.Ev.succ ?_
    simp only[impl_JobsOk.l0,if_pos (show(i:Int)<(l.length:Int) by omega),if_pos (show 0≤(i:Int) by omega),rdJ,ijok_eq,Option.bind_some,impl_jobAt.f,if_pos (show l.length<4611686018427387904 by omega)]
    rw[Loops.wrap_succ hi (by omega)]
    show Ev (fun k=>if jokAt l i=true then _ else _) _
    by_cases h1:jokAt l i=true
    · simp only[if_pos h1]
      by_cases h2:newAt l i=true
      · simp only[if_pos ((newAt_iff l i hi).2 h2),h1,h2,Bool.true_and]
        exact hR
      · simp only[if_neg (fun e=>h2 ((newAt_iff l i hi).1 e)),Bool.eq_false_iff.mpr h2,Bool.and_false,Bool.false_and]
        exact Ev.now _
    · simp only[if_neg h1,Bool.eq_false_iff.mpr h1,Bool.false_and]
      exact Ev.now _) (Loops.Ev.one (fun k=>by
      simp only[impl_JobsOk.l0]
      rw[if_neg (by omega)]))
  simpa using key
set_option maxRecDepth 100000 in
theorem isheets_all:((List.range 64).all fun i=>(impl_SheetsFor.f 200 (1+(i:Int)) 1 true==some (sheets (1+(i:Int)) true)) && (impl_SheetsFor.f 200 (1+(i:Int)) 1 false==some (sheets (1+(i:Int)) false)))=true:=by decide+kernel
theorem isheets_eq (p:Int) (d:Bool) (h:1≤p∧p≤64):Ev (fun k=>impl_SheetsFor.f k p 1 d) (sheets p d):=by
  have h1:=List.all_eq_true.1 isheets_all (p - 1).toNat (List.mem_range.2 (by omega))
  rw[show 1+((p - 1).toNat:Int)=p by omega,Bool.and_eq_true]at h1
  refine Ev.of (k:=200) (fun k=>impl_SheetsFor.mono p 1 d k) ?_
  cases d with
  |true=>exact beq_iff_eq.1 h1.1
  |false=>exact beq_iff_eq.1 h1.2
theorem ijsh_eq (i p c:Int) (d:Bool) (r:Int) (h:Bool):Ev (fun k=>impl_JobSheets.f k i p c d r h) (jsh i p c d r):=by
  have hb:=jsh_in i p c d r
  unfold impl_JobSheets.f jsh
  unfold jsh at hb
  simp only[ijok_eq,Option.bind_some]
  by_cases hj:jok i p c r=true
  · simp only[if_pos hj]at hb ⊢
    have hk:=jok_true hj
    refine Ev.bind (isheets_eq p d hk.2.1) ?_
    rw[Loops.wrap_in (by omega) (by omega)]
    exact Ev.now _
  · simp only[if_neg hj]
    exact Ev.now _
theorem imok_eq (L:List S33) (i p c:Int) (d:Bool) (r:Int) (h:Bool) (s n:Int) (I O:List Int) (w:Int) (st:Bool) (P:Int) (hI:I.length≤1048576) (hO:O.length≤1048576):
    Ev (fun k=>impl_MachineOk.f k L i p c d r h s n I O w st P) (mok L i p c d r h s n I O w P):=by
  have jt:Ev (fun k=>impl_MachineOk.j0 k true L i p c d r h s n I O w st P) false:=Loops.Ev.one (fun k=>by simp only[impl_MachineOk.j0,if_true])
  have jf:Ev (fun k=>impl_MachineOk.j0 k false L i p c d r h s n I O w st P) (nowOk i p c d r h s):=by
    refine Loops.Ev.succ ?_
    simp only[impl_MachineOk.j0,Bool.false_eq_true,if_false]
    unfold nowOk
    by_cases h0:(i==0 && (p==0 && (c==0 && (!d && (r==0 && (!h))))))=true
    · simp only[if_pos h0]
      exact Ev.now _
    simp only[if_neg h0,ijok_eq,Option.bind_some]
    by_cases hj:jok i p c r=true
    · simp only[if_pos hj,hj,Bool.true_and]
      refine Ev.bind (ijsh_eq i p c d r h) ?_
      by_cases h4:jsh i p c d r≤40
      · simp only[if_pos h4,decide_eq_true h4,Bool.true_and]
        exact Ev.bind (ijsh_eq i p c d r h) (Ev.now _)
      · simp only[if_neg h4,decide_eq_false h4,Bool.false_and]
        exact Ev.now _
    · simp only[if_neg hj,Bool.eq_false_iff.mpr hj,Bool.false_and]
      exact Ev.now _
  unfold impl_MachineOk.f mok
  refine Ev.bind (ijobs_eq L) ?_
  by_cases h1:jobsOk L=true
  · simp only[if_pos h1,h1,Bool.true_and]
    refine Ev.bind (iline_eq s n I O w st hI hO) ?_
    by_cases h2:lineOk s n I O w=true
    · simp only[if_pos h2,h2,Bool.true_and,within_eq,Option.bind_some]
      by_cases h3:0≤P∧P≤100000
      · simp only[decide_eq_true h3,Bool.not_true,Bool.true_and]
        exact jf
      · simp only[decide_eq_false h3,Bool.not_false,Bool.false_and]
        exact jt
    · simp only[if_neg h2,Bool.eq_false_iff.mpr h2,Bool.false_and]
      exact jt
  · simp only[if_neg h1,Bool.eq_false_iff.mpr h1,Bool.false_and]
    exact jt
theorem iaok_eq (K a b c:Int):Ev (fun k=>impl_ActOk.f k K a b c) (aok K a b c):=by
  unfold impl_ActOk.f aok
  by_cases h1:K=1
  · simp only[if_pos h1,impl_jobOf.f,ijok_eq,Option.bind_some]
    exact Ev.now _
  simp only[if_neg h1]
  by_cases h2:K=2
  · simp only[if_pos h2,h2,true_or,if_true]
    exact Loops.Ev.one (fun k=>by simp only[impl_ActOk.j0,beq_self_eq_true,if_true,zero3])
  simp only[if_neg h2]
  by_cases h4:K=4
  · simp only[h4,or_true,if_true]
    exact Loops.Ev.one (fun k=>by simp only[impl_ActOk.j0,beq_self_eq_true,if_true,zero3])
  rw[if_neg (show ¬(K=2∨K=4) by omega)]
  refine Loops.Ev.one (fun k=> ?_)
  simp only[impl_ActOk.j0]
  rw[if_neg (by simp[h4])]
  by_cases h3:K=3
  · simp only[if_pos h3,within_eq,Option.bind_some,zero2]
  simp only[if_neg h3]
  by_cases h5:K=5
  · simp only[if_pos h5,within_eq,Option.bind_some,zero2]
  · simp only[if_neg h5]
theorem iclone_eq (L:List S33) (h:L.length≤4194304):impl_Job_89.f L=some L:=by
  unfold impl_Job_89.f
  simp only[Option.bind_some,List.length_nil,List.nil_append]
  rw[if_pos (by omega)]
theorem iadd_eq (L:List S33) (i p c:Int) (d:Bool) (r:Int) (h:Bool) (hL:L.length≤4194304):Ev (fun k=>impl_AddJob.f k L i p c d r h) (addJ L ⟨i,p,c,d,r,h⟩):=by
  unfold impl_AddJob.f addJ
  simp only[iclone_eq L hL,Option.bind_some,if_pos (show L.length+([(⟨i,p,c,d,r,h⟩:S33)]:List S33).length<2932031007402 by simp;omega)]
  refine Ev.bind (ijobs_eq L) ?_
  by_cases h1:jobsOk L=true
  · simp only[if_pos h1]
    refine Ev.bind (ijobs_eq _) ?_
    by_cases h2:jobsOk (L++ [(⟨i,p,c,d,r,h⟩:S33)])=true
    · simp only[if_pos h2];exact Ev.now _
    · simp only[if_neg h2];exact Ev.now _
  · simp only[if_neg h1];exact Ev.now _
theorem inext_eq (L:List S33):Ev (fun k=>impl_NextJob.f k L) (nextJ L):=by
  unfold impl_NextJob.f nextJ
  refine Ev.bind (ijobs_eq L) ?_
  by_cases h1:jobsOk L=true
  · simp only[if_pos h1]
    have hl:=((jobsOk_iff L).1 h1).1
    have key:∀(d i:Nat),i+d=L.length→Ev (fun k=>impl_NextJob.l0 k L (bestJ L i) L (L.length:Int) (i:Int)) (bestJ L L.length):=by
      intro d
      induction d with
      |zero=>
        intro i hi
        obtain rfl:i=L.length:=by omega
        refine Loops.Ev.one (fun k=> ?_)
        simp only[impl_NextJob.l0]
        rw[if_neg (by omega)]
      |succ d ih=>
        intro i hi
        have hb:=bestJ_in L i
        refine Ev.step (fun k=> ?_) (ih (i+1) (by omega))
        simp only[impl_NextJob.l0]
        rw[if_pos (show(i:Int)<(L.length:Int) by omega),if_pos (show 0≤(i:Int) by omega),if_pos (show(i:Int)<(L.length:Int) by omega),rdJ,bestJ_succ,Loops.wrap_succ (n:=L.length) (by omega) (by omega)]
        unfold pickJ
        by_cases h5:(L.getD i z33).f5=true
        · rw[if_pos h5,if_pos h5]
        · rw[if_neg h5,if_neg h5]
          by_cases h6:bestJ L i<0
          · rw[if_pos h6,if_pos h6]
          · rw[if_neg h6,if_neg h6,if_pos (by omega),if_pos (by omega)]
            have e:rd_T33 L (bestJ L i)=L.getD (bestJ L i).toNat z33:=rfl
            rw[e]
            by_cases h7:(L.getD i z33).f4 >(L.getD (bestJ L i).toNat z33).f4
            · rw[if_pos h7,if_pos h7]
            · rw[if_neg h7,if_neg h7]
    have:=key L.length 0 (by omega)
    simpa[bestJ]using this
  · simp only[if_neg h1];exact Ev.now _
theorem itake_eq (L:List S33) (hL:L.length≤4194304):Ev (fun k=>impl_TakeJob.f k L) (restJ L,(jobJ L).f0,(jobJ L).f1,(jobJ L).f2,(jobJ L).f3,(jobJ L).f4,(jobJ L).f5,decide (0≤nextJ L)):=by
  unfold impl_TakeJob.f
  refine Ev.bind (inext_eq L) ?_
  have hi:=nextJ_in L
  unfold restJ jobJ
  by_cases h:nextJ L<0
  · simp only[if_pos h,iclone_eq L hL,Option.bind_some,decide_eq_false (show ¬0≤nextJ L by omega)]
    exact Ev.now _
  · simp only[if_neg h,iclone_eq L hL,Option.bind_some,decide_eq_true (show 0≤nextJ L by omega),if_pos (show 0≤nextJ L by omega),if_pos (show nextJ L<(L.length:Int) by omega),impl_Job_99.f]
    rw[Loops.wrap_in (show -9223372036854775808≤nextJ L+1 by omega) (by omega)]
    simp only[if_true,if_pos (show nextJ L+1≤(L.length:Int) by omega),Option.bind_some]
    exact Ev.now _
theorem irel_eq (L:List S33) (a:Int) (hL:L.length≤4194304):Ev (fun k=>impl_ReleaseJob.f k L a) (relJ L a):=by
  unfold impl_ReleaseJob.f relJ
  have hi:=findJ_in L a
  simp only[iclone_eq L hL,Option.bind_some,impl_jobAt.f,if_pos (show L.length<4611686018427387904 by omega)]
  refine Ev.bind (ijobs_eq L) ?_
  by_cases h1:jobsOk L=true
  · have e:jobIdx L a 0=findJ L a:=by unfold findJ;rw[if_pos h1]
    simp only[if_pos h1,e]
    by_cases h2:findJ L a<0
    · simp only[if_pos h2];exact Ev.now _
    · have e2:rd_T33 L (findJ L a)=L.getD (findJ L a).toNat z33:=rfl
      simp only[if_neg h2,if_pos (show 0≤findJ L a by omega),if_pos (show findJ L a<(L.length:Int) by omega),e2]
      by_cases h3:(L.getD (findJ L a).toNat z33).f5=true
      · simp only[if_pos h3];exact Ev.now _
      · simp only[if_neg h3];exact Ev.now _
  · have e:findJ L a= -1:=by unfold findJ;rw[if_neg h1]
    simp only[if_neg h1,e]
    exact Ev.now _
theorem icopyM_eq (L:List S33) (i p c:Int) (d:Bool) (r:Int) (h:Bool) (s n:Int) (I O:List Int) (w:Int) (st:Bool) (P:Int) (hL:L.length≤4194304) (hI:I.length≤1048576) (hO:O.length≤1048576):impl_copyMachine.f L i p c d r h s n I O w st P=some (L,i,p,c,d,r,h,s,n,I,O,w,st,P):=by
  unfold impl_copyMachine.f
  simp only[iclone_eq L hL,copyLine_eq s n I O w st hI hO,Option.bind_some]
theorem ibit_eq (b:Bool):impl_bit.f b=some (bitJ b):=by cases b<;>rfl
theorem idone_eq (s n:Int) (I O:List Int) (w:Int) (st:Bool) (hI:I.length≤1048576) (hO:O.length≤1048576):Ev (fun k=>impl_IsDone.f k s n I O w st) (lineOk s n I O w && ((O.length:Int)==s)):=by
  unfold impl_IsDone.f
  refine Ev.bind (iline_eq s n I O w st hI hO) ?_
  by_cases hl:lineOk s n I O w=true
  · simp only[if_pos hl,hl,Bool.true_and];exact Ev.now _
  · simp only[if_neg hl,Bool.eq_false_iff.mpr hl,Bool.false_and];exact Ev.now _
theorem ifin_goodI (s n:Int) (I O:List Int) (w:Int) (st:Bool) (hl:lineOk s n I O w=true):Ev (fun k=>impl_FinishLine.f k s n I O w st) (s,s,[],Loops.iota 0 s.toNat,w,false)∧lineOk s s [] (Loops.iota 0 s.toNat) w=true:=by
  obtain⟨O2,ev,h2⟩:=ifin_good s n I O w st hl
  rw[full_one h2]at ev h2
  exact⟨ev,h2⟩
theorem idoact_eq (L:List S33) (i p c:Int) (d:Bool) (r:Int) (h:Bool) (s n:Int) (I O:List Int) (w:Int) (st:Bool) (P K a b e:Int) (hL:L.length≤4194303) (hI:I.length≤1048576) (hO:O.length≤1048576):
    Ev (fun k=>impl_DoAct.f k L i p c d r h s n I O w st P K a b e) (doAct L i p c d r h s n I O w st P K a b e):=by
  unfold impl_DoAct.f doAct
  simp only[icopyM_eq L i p c d r h s n I O w st P (by omega) hI hO,Option.bind_some]
  refine Ev.bind (imok_eq L i p c d r h s n I O w st P hI hO) ?_
  by_cases hm:mok L i p c d r h s n I O w P=true
  · simp only[if_pos hm]
    obtain⟨m1,m2,m3,m4⟩:=mok_parts hm
    refine Ev.bind (iaok_eq K a b e) ?_
    by_cases ha:aok K a b e=true
    · simp only[ha,Bool.not_true,if_true]
      refine Loops.Ev.succ ?_
      simp only[impl_DoAct.j0,Bool.false_eq_true,if_false]
      unfold act1
      by_cases h1:K=1
      · simp only[if_pos h1,impl_jobOf.f,Option.bind_some]
        refine Ev.bind (iadd_eq L a b 1 false e (e==9) (by omega)) ?_
        simp only[ibit_eq,Option.bind_some]
        exact Ev.now _
      simp only[if_neg h1]
      by_cases h2:K=2
      · simp only[if_pos h2]
        refine Ev.bind (itake_eq L (by omega)) ?_
        refine Ev.bind (idone_eq s n I O w st hI hO) ?_
        unfold canTake
        by_cases h5:(lineOk s n I O w && ((O.length:Int)==s))=true
        · simp only[if_pos h5,h5,Bool.true_and]
          by_cases h0:0≤nextJ L
          · simp only[decide_eq_true h0,if_true,Bool.true_and]
            refine Ev.bind (ijsh_eq (jobJ L).f0 (jobJ L).f1 (jobJ L).f2 (jobJ L).f3 (jobJ L).f4 (jobJ L).f5) ?_
            have hs:=jsh_in (jobJ L).f0 (jobJ L).f1 (jobJ L).f2 (jobJ L).f3 (jobJ L).f4
            refine Loops.Ev.succ ?_
            by_cases h6:jsh (jobJ L).f0 (jobJ L).f1 (jobJ L).f2 (jobJ L).f3 (jobJ L).f4≤40
            · simp only[impl_DoAct.j1,decide_eq_false (show ¬jsh (jobJ L).f0 (jobJ L).f1 (jobJ L).f2 (jobJ L).f3 (jobJ L).f4 >40 by omega),decide_eq_true h6,Bool.false_eq_true,if_false,if_true]
              refine Ev.bind (ijsh_eq (jobJ L).f0 (jobJ L).f1 (jobJ L).f2 (jobJ L).f3 (jobJ L).f4 (jobJ L).f5) ?_
              have e7:newLine (jsh (jobJ L).f0 (jobJ L).f1 (jobJ L).f2 (jobJ L).f3 (jobJ L).f4)=(jsh (jobJ L).f0 (jobJ L).f1 (jobJ L).f2 (jobJ L).f3 (jobJ L).f4,0,[],[],0,false,true):=by unfold newLine;rw[if_pos ⟨hs.1,h6⟩]
              simp only[inew_eq,e7,Option.bind_some]
              rw[Loops.wrap_in (show -9223372036854775808≤P+(O.length:Int) by omega) (by omega)]
              exact Ev.now _
            · simp only[impl_DoAct.j1,decide_eq_true (show jsh (jobJ L).f0 (jobJ L).f1 (jobJ L).f2 (jobJ L).f3 (jobJ L).f4 >40 by omega),decide_eq_false h6,Bool.false_eq_true,if_false,if_true]
              exact Ev.now _
          · simp only[decide_eq_false h0,Bool.false_and,Bool.false_eq_true,if_false]
            exact Loops.Ev.one (fun k=>by simp only[impl_DoAct.j1,if_true])
        · simp only[if_neg h5,Bool.eq_false_iff.mpr h5,Bool.false_and,Bool.and_false,Bool.false_eq_true,if_false]
          exact Loops.Ev.one (fun k=>by simp only[impl_DoAct.j1,if_true])
      simp only[if_neg h2]
      by_cases h3:K=3
      · simp only[if_pos h3]
        refine Ev.bind (istep_eq s n I O w st a hI hO) ?_
        simp only[ibit_eq,Option.bind_some]
        exact Ev.now _
      simp only[if_neg h3]
      by_cases h4:K=4
      · simp only[if_pos h4]
        refine Ev.bind (ifin_goodI s n I O w st m2).1 ?_
        have hp:=lineOk_parts m2
        simp only[Loops.iota_len,show((s.toNat:Nat):Int)=s by omega]
        exact Ev.now _
      simp only[if_neg h4]
      refine Ev.bind (irel_eq L a (by omega)) ?_
      simp only[ibit_eq,Option.bind_some]
      exact Ev.now _
    · simp only[Bool.eq_false_iff.mpr ha,Bool.not_false,Bool.false_eq_true,if_false]
      exact Loops.Ev.one (fun k=>by simp only[impl_DoAct.j0,if_true])
  · simp only[if_neg hm]
    exact Loops.Ev.one (fun k=>by simp only[impl_DoAct.j0,if_true])
theorem irun_loop (A:List S53) (hA:A.length≤40):∀(d i:Nat) (N:List Int) (M:Mach),i+d=A.length→N.length≤i→mokM M=true→
    Ev (fun k=>impl_RunActs.l0 k N A (A.length:Int) (i:Int) M.1 M.2.1 M.2.2.1 M.2.2.2.1 M.2.2.2.2.1 M.2.2.2.2.2.1 M.2.2.2.2.2.2.1 M.2.2.2.2.2.2.2.1 M.2.2.2.2.2.2.2.2.1 M.2.2.2.2.2.2.2.2.2.1 M.2.2.2.2.2.2.2.2.2.2.1 M.2.2.2.2.2.2.2.2.2.2.2.1 M.2.2.2.2.2.2.2.2.2.2.2.2.1 M.2.2.2.2.2.2.2.2.2.2.2.2.2) (glueM (runM M (A.drop i)).1 (N++(runM M (A.drop i)).2)):=by
  intro d
  induction d with
  |zero=>
    intro i N M hi hN hM
    obtain rfl:i=A.length:=by omega
    obtain⟨L,i,p,c,d,r,h,s,n,I,O,w,st,P⟩:=M
    rw[List.drop_length]
    refine Loops.Ev.one (fun k=> ?_)
    simp only[impl_RunActs.l0,runM,glueM,List.append_nil,if_neg (show ¬(A.length:Int)<(A.length:Int) by omega)]
  |succ d ih=>
    intro i N M hi hN hM
    obtain⟨L,j,p,c,D,r,h,s,n,I,O,w,st,P⟩:=M
    have hl:=mok_len (show mok L j p c D r h s n I O w P=true from hM)
    obtain⟨M2,v,e,h2⟩:=doAct_mok (st:=st) (A.getD i z53).f0 (A.getD i z53).f1 (A.getD i z53).f2 (A.getD i z53).f3 (show mok L j p c D r h s n I O w P=true from hM)
    rw[Loops.drop_cons_getD A z53 i (by omega),runM_cons e]
    have nx:=ih (i+1) (N++ [v]) M2 (by omega) (by simp;omega) h2
    refine Loops.Ev.succ ?_
    simp only[impl_RunActs.l0,if_pos (show(i:Int)<(A.length:Int) by omega),if_pos (show 0≤(i:Int) by omega),rdA]
    refine Ev.bind (idoact_eq L j p c D r h s n I O w st P _ _ _ _ (by omega) hl.2.1 hl.2.2) ?_
    rw[e]
    obtain⟨L2,i2,p2,c2,d2,r2,h2,s2,n2,I2,O2,w2,st2,P2⟩:=M2
    simp only[glueM,if_pos (show N.length<17592186044416 by omega),Loops.wrap_succ (n:=A.length) (i:=i) (by omega) (by omega)]
    simpa[glueM]using nx
theorem irun_eq (M:Mach) (A:List S53) (hA:A.length≤40) (hM:mokM M=true):Ev (fun k=>impl_RunActs.f k M.1 M.2.1 M.2.2.1 M.2.2.2.1 M.2.2.2.2.1 M.2.2.2.2.2.1 M.2.2.2.2.2.2.1 M.2.2.2.2.2.2.2.1 M.2.2.2.2.2.2.2.2.1 M.2.2.2.2.2.2.2.2.2.1 M.2.2.2.2.2.2.2.2.2.2.1 M.2.2.2.2.2.2.2.2.2.2.2.1 M.2.2.2.2.2.2.2.2.2.2.2.2.1 M.2.2.2.2.2.2.2.2.2.2.2.2.2 A) (glueM (runM M A).1 (runM M A).2):=by
  have key:=irun_loop A hA A.length 0 [] M (by omega) (by simp) hM
  obtain⟨L,j,p,c,D,r,h,s,n,I,O,w,st,P⟩:=M
  have hm:mok L j p c D r h s n I O w P=true:=hM
  have hl:=mok_len hm
  unfold impl_RunActs.f
  simp only[icopyM_eq L j p c D r h s n I O w st P (by omega) hl.2.1 hl.2.2,Option.bind_some]
  refine Ev.bind (imok_eq L j p c D r h s n I O w st P hl.2.1 hl.2.2) ?_
  simp only[if_pos hm,decide_eq_false (show ¬(A.length:Int) >40 by omega)]
  refine Loops.Ev.succ ?_
  simp only[impl_RunActs.j0,Bool.false_eq_true,if_false]
  simpa using key
theorem szIntS_eq (l:List Int) (a:Int) (hl:l.length≤9223372036854775807) (h0:0≤a) (h1:a≤1048576):∃t,laws_szIntS.f l a=some t∧(0≤t→t≤a∧l.length≤1048576):=by
  unfold laws_szIntS.f
  rw[Loops.wrap_in (show -9223372036854775808≤a - (l.length:Int) by omega) (by omega)]
  by_cases h:a - (l.length:Int)<0
  · rw[if_pos h];exact⟨-1,rfl,fun h=>absurd h (by omega)⟩
  · rw[if_neg h];exact⟨_,rfl,fun h=>by omega⟩
theorem szLineG_eq (s n:Int) (A B:List Int) (w:Int) (st:Bool) (a:Int) (h0:0≤a) (h1:a≤1048576) (hA:A.length≤9223372036854775807) (hB:B.length≤9223372036854775807):∃t,laws_szLine.f s n A B w st a=some t∧(0≤t→t≤a∧A.length≤1048576∧B.length≤1048576):=by
  unfold laws_szLine.f
  obtain⟨t,e,ht⟩:=szIntS_eq A a hA (by omega) (by omega)
  simp only[e,Option.bind_some]
  by_cases h:t<0
  · rw[if_pos h];exact⟨-1,rfl,fun h=>absurd h (by omega)⟩
  · rw[if_neg h]
    have ht:=ht (by omega)
    obtain⟨u,e,hu⟩:=szIntS_eq B t hB (by omega) (by omega)
    simp only[e,Option.bind_some]
    by_cases h2:u<0
    · rw[if_pos h2];exact⟨-1,rfl,fun h=>absurd h (by omega)⟩
    · rw[if_neg h2];exact⟨_,rfl,fun h=>⟨by have:=hu h;omega,ht.2,(hu h).2⟩⟩
theorem szJobS_eq (l:List S24) (a:Int) (hl:l.length≤9223372036854775807) (h0:0≤a) (h1:a≤1048576):∃t,laws_szJobS.f l a=some t∧(0≤t→t≤a∧l.length≤1048576):=by
  unfold laws_szJobS.f
  rw[Loops.wrap_in (show -9223372036854775808≤a - (l.length:Int) by omega) (by omega)]
  by_cases h:a - (l.length:Int)<0
  · rw[if_pos h];exact⟨-1,rfl,fun h=>absurd h (by omega)⟩
  · rw[if_neg h];exact⟨_,rfl,fun h=>by omega⟩
theorem szMachine_eq (L:List S24) (i p c:Int) (d:Bool) (r:Int) (h:Bool) (s n:Int) (A B:List Int) (w:Int) (st:Bool) (P:Int) (hL:L.length≤9223372036854775807) (hA:A.length≤9223372036854775807) (hB:B.length≤9223372036854775807):
    ∃t,laws_szMachine.f L i p c d r h s n A B w st P 1048576=some t∧(0≤t→t≤1048576∧L.length≤1048576∧A.length≤1048576∧B.length≤1048576):=by
  unfold laws_szMachine.f
  obtain⟨t,e,ht⟩:=szJobS_eq L 1048576 hL (by omega) (by omega)
  simp only[e,Option.bind_some]
  by_cases h:t<0
  · rw[if_pos h];exact⟨-1,rfl,fun h=>absurd h (by omega)⟩
  · rw[if_neg h]
    have ht:=ht (by omega)
    obtain⟨u,e,hu⟩:=szLineG_eq s n A B w st t (by omega) (by omega) hA hB
    simp only[e,Option.bind_some]
    by_cases h2:u<0
    · rw[if_pos h2];exact⟨-1,rfl,fun h=>absurd h (by omega)⟩
    · rw[if_neg h2];exact⟨_,rfl,fun h=>⟨by have:=hu h;omega,ht.2,(hu h).2⟩⟩
def jconv (x:S24):S33:=⟨x.f0,x.f1,x.f2,x.f3,x.f4,x.f5⟩
theorem toJobS_eq (l:List S24) (hl:l.length≤1048576):Ev (fun k=>laws_toJobS.f k l) (l.map jconv):=by
  unfold laws_toJobS.f
  simp only[if_pos (show(0:Int)≤(l.length:Int) by omega),Int.toNat_natCast,if_pos (show l.length≤5864062014805 by omega)]
  refine Loops.map_loop (G:=fun k i o=>laws_toJobS.l0 k l o i) l z24 z33 jconv (fun k i o hi ho=> ?_) (fun k o=> ?_)
  · simp only[laws_toJobS.l0,laws_toJob.f,Option.bind_some]
    rw[if_pos (by omega),if_pos (by omega),if_pos (by omega),Loops.wrap_succ hi (by omega)]
    simp[rd_T24,jconv]
  · simp only[laws_toJobS.l0]
    rw[if_neg (by omega)]
theorem toLine_eq (s n:Int) (A B:List Int) (w:Int) (st:Bool) (hA:A.length≤1048576) (hB:B.length≤1048576):Ev (fun k=>laws_toLine.f k s n A B w st) (s,n,A,B,w,st):=by
  unfold laws_toLine.f
  refine Ev.bind (toIntS_eq A (by omega)) (Ev.bind (toIntS_eq B (by omega)) (Ev.now _))
theorem toMachine_eq (L:List S24) (i p c:Int) (d:Bool) (r:Int) (h:Bool) (s n:Int) (A B:List Int) (w:Int) (st:Bool) (P:Int) (hL:L.length≤1048576) (hA:A.length≤1048576) (hB:B.length≤1048576):
    Ev (fun k=>laws_toMachine.f k L i p c d r h s n A B w st P) (L.map jconv,i,p,c,d,r,h,s,n,A,B,w,st,P):=by
  unfold laws_toMachine.f
  refine Ev.bind (toJobS_eq L hL) ?_
  simp only[laws_toJob.f,Option.bind_some]
  exact Ev.bind (toLine_eq s n A B w st hA hB) (Ev.now _)
theorem eqJob_eq (i p c:Int) (d:Bool) (r:Int) (h:Bool):laws_eqJob.f i p c d r h i p c d r h=some true:=by
  unfold laws_eqJob.f
  simp
theorem eqJobS_eq (l:List S33) (hl:l.length≤4194304):Ev (fun k=>laws_eqJobS.f k l l) true:=by
  unfold laws_eqJobS.f
  simp only[if_true]
  exact Loops.plain_loop (G:=fun k i=>laws_eqJobS.l0 k l l i) l.length (by omega) (fun k i hi=>by
    simp only[laws_eqJobS.l0,eqJob_eq,Option.bind_some,if_true]
    rw[if_pos (by omega),if_pos (by omega),if_pos (by omega)]) (fun k=>by
    simp only[laws_eqJobS.l0]
    rw[if_neg (by omega)])
theorem eqLineB_eq (s n:Int) (A B:List Int) (w:Int) (st:Bool) (hA:A.length≤2000000) (hB:B.length≤2000000):Ev (fun k=>laws_eqLine.f k s n A B w st s n A B w st) true:=by
  unfold laws_eqLine.f
  simp only[if_true]
  refine Ev.bind (eqIntS_eq A (by omega)) ?_
  simp only[if_true]
  refine Ev.bind (eqIntS_eq B (by omega)) ?_
  simp only[if_true,bne_self_eq_false,Bool.false_eq_true,if_false]
  exact Ev.now _
theorem eqMachine_eq (L:List S33) (i p c:Int) (d:Bool) (r:Int) (h:Bool) (s n:Int) (A B:List Int) (w:Int) (st:Bool) (P:Int) (hL:L.length≤2000000) (hA:A.length≤2000000) (hB:B.length≤2000000):
    Ev (fun k=>laws_eqMachine.f k L i p c d r h s n A B w st P L i p c d r h s n A B w st P) true:=by
  unfold laws_eqMachine.f
  refine Ev.bind (eqJobS_eq L (by omega)) ?_
  simp only[if_true,eqJob_eq,Option.bind_some]
  refine Ev.bind (eqLineB_eq s n A B w st hA hB) ?_
  simp only[if_true]
  exact Ev.now _
theorem markIntS_eq (l:List Int) (a:Int) (hl:l.length≤4194304) (h0:0≤a) (h1:a≤1125899906842624):Ev (fun k=>laws_markIntS.f k l a) (a+l.length,Loops.iota a l.length):=by
  unfold laws_markIntS.f
  exact Loops.mark_loop (G:=laws_markIntS.l0) l a (by omega) h0 (by omega) (fun k x m i=>by simp only[laws_markIntS.l0])
theorem heldIntS_eq (n:Nat) (a:Int) (hn:n≤4194304) (h0:0≤a) (h1:a≤1125899906842624):Ev (fun k=>laws_heldIntS.f k (Loops.iota a n) a) (a+n):=by
  unfold laws_heldIntS.f
  exact Loops.held_loop (G:=laws_heldIntS.l0) a n (by omega) h0 (by omega) (fun k x m i=>by simp only[laws_heldIntS.l0])
def mkJob (m:Int):S33:=⟨m,m+1,m+2,(Int.tmod (m+3) 3==0),m+4,(Int.tmod (m+5) 3==0)⟩
theorem markJobS_eq (l:List S33) (hl:l.length≤4194304):Ev (fun k=>laws_markJobS.f k l 1) (1+6 * (l.length:Int),Loops.marks mkJob 6 1 l.length):=by
  unfold laws_markJobS.f
  exact Loops.mark_gen (G:=laws_markJobS.l0) mkJob z33 6 (by omega) l 1 (by omega) (by omega) (fun k x m i hi hx hm0 hm=>by
    simp only[laws_markJobS.l0]
    rw[if_pos (by omega),if_pos (by omega),show wrap64 (m+1)=m+1 from Loops.wrap_in (by omega) (by omega),show wrap64 (m+1+1)=m+2 by unfold wrap64;omega,show wrap64 (m+2+1)=m+3 by unfold wrap64;omega,show wrap64 (m+3+1)=m+4 by unfold wrap64;omega,show wrap64 (m+4+1)=m+5 by unfold wrap64;omega,show wrap64 (m+5+1)=m+6 by unfold wrap64;omega,Loops.wrap_succ hi (by omega)]
    simp only[Option.bind_some,Int.toNat_natCast,rd_T33,List.set_set,mkJob]
    congr 2
    simp[List.getD,hi]) (fun k x m hx=>by
    simp only[laws_markJobS.l0]
    rw[if_neg (by omega)])
theorem markLineG_eq (s n:Int) (A B:List Int) (w:Int) (st:Bool) (a:Int) (h0:0≤a) (h1:a≤1000000000) (hA:A.length≤2000000) (hB:B.length≤2000000):Ev (fun k=>laws_markLine.f k s n A B w st a) (a+A.length+B.length,Loops.iota a A.length,Loops.iota (a+A.length) B.length):=by
  unfold laws_markLine.f
  refine Ev.bind (markIntS_eq A a (by omega) (by omega) (by omega)) (Ev.bind (markIntS_eq B (a+A.length) (by omega) (by omega) (by omega)) (Ev.now _))
theorem markMachine_eq (L:List S33) (i p c:Int) (d:Bool) (r:Int) (h:Bool) (s n:Int) (A B:List Int) (w:Int) (st:Bool) (P:Int) (hL:L.length≤2000000) (hA:A.length≤2000000) (hB:B.length≤2000000):
    Ev (fun k=>laws_markMachine.f k L i p c d r h s n A B w st P 1) (1+6 * (L.length:Int)+A.length+B.length,Loops.marks mkJob 6 1 L.length,Loops.iota (1+6 * (L.length:Int)) A.length,Loops.iota (1+6 * (L.length:Int)+A.length) B.length):=by
  unfold laws_markMachine.f
  refine Ev.bind (markJobS_eq L (by omega)) ?_
  exact Ev.bind (markLineG_eq s n A B w st _ (by omega) (by omega) hA hB) (Ev.now _)
theorem heldJobS_eq (n:Nat) (hn:n≤4194304):Ev (fun k=>laws_heldJobS.f k (Loops.marks mkJob 6 1 n) 1) (1+6 * (n:Int)):=by
  unfold laws_heldJobS.f
  exact Loops.held_gen (G:=laws_heldJobS.l0) mkJob z33 6 (by omega) n 1 (by omega) (by omega) (fun k x m i hi hx he hm0 hm=>by
    have w1:wrap64 (m+1)=m+1:=Loops.wrap_in (by omega) (by omega)
    have w2:wrap64 (m+1+1)=m+2:=by unfold wrap64;omega
    have w3:wrap64 (m+2+1)=m+3:=by unfold wrap64;omega
    have w4:wrap64 (m+3+1)=m+4:=by unfold wrap64;omega
    have w5:wrap64 (m+4+1)=m+5:=by unfold wrap64;omega
    have w6:wrap64 (m+5+1)=m+6:=by unfold wrap64;omega
    simp only[laws_heldJobS.l0,rd_T33,Int.toNat_natCast,he,mkJob,w1,w2,w3,w4,w5,w6,bne_self_eq_false,Bool.false_eq_true,if_false,if_true,if_pos (show(i:Int)<(x.length:Int) by omega),if_pos (show(0:Int)≤(i:Int) by omega),Loops.wrap_succ (n:=x.length) (i:=i) (by omega) (by omega)]) (fun k x m hx=>by
    simp only[laws_heldJobS.l0]
    rw[if_neg (by omega)])
theorem heldLineG_eq (s n:Int) (a b:Nat) (w:Int) (st:Bool) (m:Int) (h0:0≤m) (h1:m≤1000000000) (hA:a≤2000000) (hB:b≤2000000):Ev (fun k=>laws_heldLine.f k s n (Loops.iota m a) (Loops.iota (m+a) b) w st m) (m+a+b):=by
  unfold laws_heldLine.f
  refine Ev.bind (heldIntS_eq a m (by omega) (by omega) (by omega)) ?_
  simp only[if_neg (show ¬m+(a:Int)<0 by omega)]
  refine Ev.bind (heldIntS_eq b (m+a) (by omega) (by omega) (by omega)) ?_
  simp only[if_neg (show ¬m+(a:Int)+(b:Int)<0 by omega)]
  exact Ev.now _
theorem heldMachine_eq (l a b:Nat) (i p c:Int) (d:Bool) (r:Int) (h:Bool) (s n:Int) (w:Int) (st:Bool) (P:Int) (hL:l≤2000000) (hA:a≤2000000) (hB:b≤2000000):
    Ev (fun k=>laws_heldMachine.f k (Loops.marks mkJob 6 1 l) i p c d r h s n (Loops.iota (1+6 * (l:Int)) a) (Loops.iota (1+6 * (l:Int)+a) b) w st P 1) (1+6 * (l:Int)+a+b):=by
  unfold laws_heldMachine.f
  refine Ev.bind (heldJobS_eq l (by omega)) ?_
  simp only[if_neg (show ¬(1:Int)+6 * (l:Int)<0 by omega)]
  refine Ev.bind (heldLineG_eq s n a b w st _ (by omega) (by omega) hA hB) ?_
  simp only[if_neg (show ¬(1:Int)+6 * (l:Int)+(a:Int)+(b:Int)<0 by omega)]
  exact Ev.now _
theorem szActS_eq (l:List S50) (a:Int) (hl:l.length≤9223372036854775807) (h0:0≤a) (h1:a≤1048576):∃t,laws_szActS.f l a=some t∧(0≤t→t≤a∧l.length≤1048576):=by
  unfold laws_szActS.f
  rw[Loops.wrap_in (show -9223372036854775808≤a - (l.length:Int) by omega) (by omega)]
  by_cases h:a - (l.length:Int)<0
  · rw[if_pos h];exact⟨-1,rfl,fun h=>absurd h (by omega)⟩
  · rw[if_neg h];exact⟨_,rfl,fun h=>by omega⟩
def aconv (x:S50):S53:=⟨x.f0,x.f1,x.f2,x.f3⟩
theorem toActS_eq (l:List S50) (hl:l.length≤1048576):Ev (fun k=>laws_toActS.f k l) (l.map aconv):=by
  unfold laws_toActS.f
  simp only[if_pos (show(0:Int)≤(l.length:Int) by omega),Int.toNat_natCast,if_pos (show l.length≤8796093022208 by omega)]
  refine Loops.map_loop (G:=fun k i o=>laws_toActS.l0 k l o i) l z50 z53 aconv (fun k i o hi ho=> ?_) (fun k o=> ?_)
  · simp only[laws_toActS.l0,laws_toAct.f,Option.bind_some]
    rw[if_pos (by omega),if_pos (by omega),if_pos (by omega),Loops.wrap_succ hi (by omega)]
    simp[rd_T50,aconv]
  · simp only[laws_toActS.l0]
    rw[if_neg (by omega)]
theorem eqAct_eq (a b c d:Int):laws_eqAct.f a b c d a b c d=some true:=by
  unfold laws_eqAct.f
  simp
theorem eqActS_eq (l:List S53) (hl:l.length≤4194304):Ev (fun k=>laws_eqActS.f k l l) true:=by
  unfold laws_eqActS.f
  simp only[if_true]
  exact Loops.plain_loop (G:=fun k i=>laws_eqActS.l0 k l l i) l.length (by omega) (fun k i hi=>by
    simp only[laws_eqActS.l0,eqAct_eq,Option.bind_some,if_true]
    rw[if_pos (by omega),if_pos (by omega),if_pos (by omega)]) (fun k=>by
    simp only[laws_eqActS.l0]
    rw[if_neg (by omega)])
def mkAct (m:Int):S53:=⟨m,m+1,m+2,m+3⟩
theorem markActS_eq (l:List S53) (a:Int) (hl:l.length≤4194304) (h0:0≤a) (h1:a≤1000000000):Ev (fun k=>laws_markActS.f k l a) (a+4 * (l.length:Int),Loops.marks mkAct 4 a l.length):=by
  unfold laws_markActS.f
  exact Loops.mark_gen (G:=laws_markActS.l0) mkAct z53 4 (by omega) l a (by omega) (by omega) (fun k x m i hi hx hm0 hm=>by
    simp only[laws_markActS.l0]
    rw[if_pos (by omega),if_pos (by omega),show wrap64 (m+1)=m+1 from Loops.wrap_in (by omega) (by omega),show wrap64 (m+1+1)=m+2 by unfold wrap64;omega,show wrap64 (m+2+1)=m+3 by unfold wrap64;omega,show wrap64 (m+3+1)=m+4 by unfold wrap64;omega,Loops.wrap_succ hi (by omega)]
    simp only[Option.bind_some,Int.toNat_natCast,rd_T53,List.set_set,mkAct]
    congr 2
    simp[List.getD,hi]) (fun k x m hx=>by
    simp only[laws_markActS.l0]
    rw[if_neg (by omega)])
theorem runs_both (L:List S33) (i p c:Int) (d:Bool) (r:Int) (h:Bool) (s n:Int) (I O:List Int) (w:Int) (st:Bool) (P:Int) (A:List S53) (hA:A.length≤1048576) (hL:L.length≤1048576) (hI:I.length≤1048576) (hO:O.length≤1048576):
    ∃(M2:Mach) (N:List Int),Ev (fun k=>spec_RunActs.f k L i p c d r h s n I O w st P A) (glueM M2 N)∧Ev (fun k=>impl_RunActs.f k L i p c d r h s n I O w st P A) (glueM M2 N)∧M2.1.length≤2000000∧M2.2.2.2.2.2.2.2.2.2.1.length≤2000000∧M2.2.2.2.2.2.2.2.2.2.2.1.length≤2000000∧N.length≤2000000:=by
  have no:(mok L i p c d r h s n I O w P=true→ ¬A.length≤40)→Ev (fun k=>spec_RunActs.f k L i p c d r h s n I O w st P A) (glueM (L,i,p,c,d,r,h,s,n,I,O,w,st,P) [])∧Ev (fun k=>impl_RunActs.f k L i p c d r h s n I O w st P A) (glueM (L,i,p,c,d,r,h,s,n,I,O,w,st,P) []):=by
    intro hn
    have js:Ev (fun k=>spec_RunActs.j0 k A [] true L i p c d r h s n I O w st P) (glueM (L,i,p,c,d,r,h,s,n,I,O,w,st,P) []):=Loops.Ev.one (fun k=>by simp only[spec_RunActs.j0,if_true,glueM])
    have ji:Ev (fun k=>impl_RunActs.j0 k A true L i p c d r h s n I O w st P) (glueM (L,i,p,c,d,r,h,s,n,I,O,w,st,P) []):=Loops.Ev.one (fun k=>by simp only[impl_RunActs.j0,if_true,glueM])
    constructor
    · unfold spec_RunActs.f
      simp only[scopyM_eq L i p c d r h s n I O w st P (by omega) hI hO,Option.bind_some]
      refine Ev.bind (smok_eq L i p c d r h s n I O w st P (by omega) hI hO) ?_
      by_cases hm:mok L i p c d r h s n I O w P=true
      · simp only[if_pos hm,decide_eq_true (show(A.length:Int) >40 by have:=hn hm;omega)]
        exact js
      · simp only[if_neg hm]
        exact js
    · unfold impl_RunActs.f
      simp only[icopyM_eq L i p c d r h s n I O w st P (by omega) hI hO,Option.bind_some]
      refine Ev.bind (imok_eq L i p c d r h s n I O w st P hI hO) ?_
      by_cases hm:mok L i p c d r h s n I O w P=true
      · simp only[if_pos hm,decide_eq_true (show(A.length:Int) >40 by have:=hn hm;omega)]
        exact ji
      · simp only[if_neg hm]
        exact ji
  by_cases hm:mok L i p c d r h s n I O w P=true
  · by_cases h4:A.length≤40
    · have er:=irun_eq (L,i,p,c,d,r,h,s,n,I,O,w,st,P) A h4 hm
      have sr:=srun_eq (L,i,p,c,d,r,h,s,n,I,O,w,st,P) A h4 hm
      have hr:=runM_mok A (L,i,p,c,d,r,h,s,n,I,O,w,st,P) hm
      obtain⟨M2,N,e⟩:∃M2 N,runM (L,i,p,c,d,r,h,s,n,I,O,w,st,P) A=(M2,N):=⟨_,_,rfl⟩
      rw[e]at er sr hr
      dsimp only at er sr hr
      refine⟨M2,N,sr,er,?_⟩
      obtain⟨L2,i2,p2,c2,d2,r2,h2,s2,n2,I2,O2,w2,st2,P2⟩:=M2
      have:=mok_len (show mok L2 i2 p2 c2 d2 r2 h2 s2 n2 I2 O2 w2 P2=true from hr.1)
      have:=hr.2
      dsimp only
      omega
    · have:=no (fun _=>h4)
      exact⟨(L,i,p,c,d,r,h,s,n,I,O,w,st,P),[],this.1,this.2,by dsimp only;omega,by dsimp only;omega,by dsimp only;omega,by simp⟩
  · have:=no (fun h=>absurd h hm)
    exact⟨(L,i,p,c,d,r,h,s,n,I,O,w,st,P),[],this.1,this.2,by dsimp only;omega,by dsimp only;omega,by dsimp only;omega,by simp⟩
theorem FnExactRunActs:∀(l0_0:List (S24)) (a0_1:Int) (a0_2:Int) (a0_3:Int) (a0_4:Bool) (a0_5:Int) (a0_6:Bool) (a0_7:Int) (a0_8:Int) (l0_9:List Int) (l0_10:List Int) (a0_11:Int) (a0_12:Bool) (a0_13:Int) (l1:List (S50)),(l0_0.length≤maxLen∧ ∀x ∈ l0_0,(Lit.int .i64 x.f0).wf=true∧(Lit.int .i64 x.f1).wf=true∧(Lit.int .i64 x.f2).wf=true∧True∧(Lit.int .i64 x.f4).wf=true∧True)→((Lit.int .i64 a0_1).wf=true)→((Lit.int .i64 a0_2).wf=true)→((Lit.int .i64 a0_3).wf=true)→((Lit.int .i64 a0_5).wf=true)→((Lit.int .i64 a0_7).wf=true)→((Lit.int .i64 a0_8).wf=true)→(l0_9.length≤maxLen∧ ∀x ∈ l0_9,(Lit.int .i64 x).wf=true)→(l0_10.length≤maxLen∧ ∀x ∈ l0_10,(Lit.int .i64 x).wf=true)→((Lit.int .i64 a0_11).wf=true)→((Lit.int .i64 a0_13).wf=true)→(l1.length≤maxLen∧ ∀x ∈ l1,(Lit.int .i64 x.f0).wf=true∧(Lit.int .i64 x.f1).wf=true∧(Lit.int .i64 x.f2).wf=true∧(Lit.int .i64 x.f3).wf=true)→ ∃k,laws_FnExactRunActs.f k l0_0 a0_1 a0_2 a0_3 a0_4 a0_5 a0_6 a0_7 a0_8 l0_9 l0_10 a0_11 a0_12 a0_13 l1=some true:=by
  intro L i p c d r h s n A B w st P K ⟨hL,_⟩ _ _ _ _ _ _ ⟨hA,_⟩ ⟨hB,_⟩ _ _ ⟨hK,_⟩
  have e:maxLen=9223372036854775807:=by decide
  rw[e]at hL hA hB hK
  refine Ev.rounds ?_
  unfold laws_FnExactRunActs.f
  obtain⟨t,ht,hs⟩:=szMachine_eq L i p c d r h s n A B w st P hL hA hB
  simp only[ht,Option.bind_some]
  by_cases h0:t<0
  · simp only[if_pos h0];exact Ev.now _
  obtain⟨ht1,hL,hA,hB⟩:=hs (by omega)
  simp only[if_neg h0]
  obtain⟨t2,ht2,hs2⟩:=szActS_eq K t hK (by omega) ht1
  simp only[ht2,Option.bind_some]
  by_cases h0:t2<0
  · simp only[if_pos h0];exact Ev.now _
  obtain⟨_,hK⟩:=hs2 (by omega)
  simp only[if_neg h0]
  have tm:=toMachine_eq L i p c d r h s n A B w st P hL hA hB
  have ta:=toActS_eq K hK
  have hm:(L.map jconv).length=L.length:=by simp
  have hk:(K.map aconv).length=K.length:=by simp
  obtain⟨M2,N,es,ei,l1,l2,l3,lN⟩:=runs_both (L.map jconv) i p c d r h s n A B w st P (K.map aconv) (by omega) (by omega) hA hB
  obtain⟨L2,i2,p2,c2,d2,r2,h2,s2,n2,I2,O2,w2,st2,P2⟩:=M2
  dsimp only at l1 l2 l3
  dsimp only[glueM]at es ei
  have eq:=eqMachine_eq L2 i2 p2 c2 d2 r2 h2 s2 n2 I2 O2 w2 st2 P2 l1 l2 l3
  have eqN:=eqIntS_eq N (by omega)
  have hd:=heldMachine_eq L2.length I2.length O2.length i2 p2 c2 d2 r2 h2 s2 n2 w2 st2 P2 l1 l2 l3
  have hdN:=heldIntS_eq N.length (1+6 * (L2.length:Int)+(I2.length:Int)+(O2.length:Int)) (by omega) (by omega) (by omega)
  refine Ev.bind tm (Ev.bind ta (Ev.bind es (Ev.bind tm (Ev.bind ta (Ev.bind ei (Ev.bind eq ?_))))))
  simp only[if_true]
  refine Ev.bind eqN ?_
  simp only[Bool.not_true]
  refine Loops.Ev.succ ?_
  simp only[laws_FnExactRunActs.j0,Bool.false_eq_true,if_false]
  refine Ev.bind tm (Ev.bind (eqMachine_eq (L.map jconv) i p c d r h s n A B w st P (by omega) (by omega) (by omega)) ?_)
  simp only[if_true]
  refine Ev.bind ta (Ev.bind (eqActS_eq (K.map aconv) (by omega)) ?_)
  simp only[if_true]
  refine Ev.bind (markMachine_eq (L.map jconv) i p c d r h s n A B w st P (by omega) (by omega) (by omega)) ?_
  refine Ev.bind (markActS_eq (K.map aconv) _ (by omega) (by omega) (by omega)) ?_
  simp only[if_neg (show ¬(1:Int)+6 * ((L.map jconv).length:Int)+(A.length:Int)+(B.length:Int)+4 * ((K.map aconv).length:Int)<0 by omega)]
  refine Ev.bind eq ?_
  simp only[if_true]
  refine Ev.bind eqN ?_
  simp only[Bool.not_true]
  refine Loops.Ev.succ ?_
  simp only[laws_FnExactRunActs.j1,Bool.false_eq_true,if_false]
  refine Ev.bind (markMachine_eq L2 i2 p2 c2 d2 r2 h2 s2 n2 I2 O2 w2 st2 P2 l1 l2 l3) ?_
  refine Ev.bind (markIntS_eq N _ (by omega) (by omega) (by omega)) ?_
  refine Ev.bind hd ?_
  simp only[if_neg (show ¬(1:Int)+6 * (L2.length:Int)+(I2.length:Int)+(O2.length:Int)<0 by omega)]
  refine Ev.bind hdN ?_
  simp only[if_neg (show ¬(1:Int)+6 * (L2.length:Int)+(I2.length:Int)+(O2.length:Int)+(N.length:Int)<0 by omega),if_true]
  refine Ev.bind tm (Ev.bind ta (Ev.bind ei (Ev.bind eq ?_)))
  simp only[if_true]
  refine Ev.bind eqN ?_
  simp only[Bool.not_true]
  refine Loops.Ev.succ ?_
  simp only[laws_FnExactRunActs.j2,Bool.false_eq_true,if_false]
  refine Ev.bind hd ?_
  simp only[if_neg (show ¬(1:Int)+6 * (L2.length:Int)+(I2.length:Int)+(O2.length:Int)<0 by omega)]
  refine Ev.bind hdN ?_
  simp only[if_neg (show ¬(1:Int)+6 * (L2.length:Int)+(I2.length:Int)+(O2.length:Int)+(N.length:Int)<0 by omega),if_true]
  exact Ev.now _
end Go.Proofs.Ytblceimapaenlaa.Pure
