/- The pure part of FnExactRunScript: over numbers and lists alone. No condition beyond the numbers' own kinds. -/
import Derived.Test.YtgdnlmfoghpeoaaGreatDoorQFnExactRunScript16
import Derived.Test.YtgdnlmfoghpeoaaGreatDoorLot
import Derived.Test.YtgdnlmfoghpeoaaGreatDoorJn
import Derived.Lib.ItoaLen
import Derived.Lib.Join
import Derived.Lib.SplitLaws
namespace Go.Proofs.YtgdnlmfoghpeoaaGreatDoor.Pure
open Go.RowKit Go.Proofs.YtgdnlmfoghpeoaaGreatDoor.PFnExactRunScript Go.Proofs.YtgdnlmfoghpeoaaGreatDoorW.PrintWords Go.Proofs.YtgdnlmfoghpeoaaGreatDoorW.PrintLast Go.Proofs.YtgdnlmfoghpeoaaGreatDoorW.PrintMore
set_option linter.unusedVariables false
set_option linter.unusedSimpArgs false
theorem within_eq (a b c:Int):impl_within.f a b c=some (decide (b≤a∧a≤c)):=by
  unfold impl_within.f
  by_cases h:a ≥ b
  · rw[if_pos h];congr 1;simp;omega
  · rw[if_neg h];congr 1;simp;omega
theorem in_eq (a b c:Int):spec_l01In.f a b c=some (decide (b≤a∧a≤c)):=by
  unfold spec_l01In.f
  by_cases h:a ≥ b
  · rw[if_pos h];congr 1;simp;omega
  · rw[if_neg h];congr 1;simp;omega
def jok (i p c r:Int):Bool:=decide (1≤i∧i≤9999) && (decide (1≤p∧p≤64) && (decide (1≤c∧c≤20) && decide (0≤r∧r≤9)))
theorem jok_true {i p c r:Int} (h:jok i p c r=true):(1≤i∧i≤9999)∧(1≤p∧p≤64)∧(1≤c∧c≤20)∧0≤r∧r≤9:=by
  simp only[jok,Bool.and_eq_true,decide_eq_true_eq]at h;omega
theorem ijok_eq (i p c:Int) (d:Bool) (r:Int) (h:Bool):impl_JobOk.f i p c d r h=some (jok i p c r):=by
  unfold impl_JobOk.f jok
  simp only[within_eq,Option.bind_some]
  cases decide (1≤i∧i≤9999)<;>cases decide (1≤p∧p≤64)<;>cases decide (1≤c∧c≤20)<;>simp
theorem sjok_eq (i p c:Int) (d:Bool) (r:Int) (h:Bool):spec_JobOk.f i p c d r h=some (jok i p c r):=by
  unfold spec_JobOk.f jok
  simp only[in_eq,Option.bind_some]
  cases decide (1≤i∧i≤9999)<;>cases decide (1≤p∧p≤64)<;>cases decide (1≤c∧c≤20)<;>simp
def seqB:Int→List Int→Bool
  |_,[]=>true
  |a,x::xs=>decide (x=a) && seqB (a+1) xs
theorem seqB_append (l m:List Int):∀a,seqB a (l++m)=(seqB a l && seqB (a+l.length) m):=by
  induction l with
  |nil=>intro a;simp[seqB]
  |cons x xs ih=>
    intro a
    simp only[List.cons_append,seqB,ih,Bool.and_assoc,List.length_cons]
    rw[show a+1+(xs.length:Int)=a+((xs.length+1:Nat):Int) by omega]
theorem seq_loop {G:Nat→Int→Option Bool} {r:Bool} (l:List Int) (a:Int) (hl:l.length≤9223372036854775807)
    (hG:∀k (i:Nat),i<l.length→G (k+1) (i:Int)=if l.getD i 0=a+i then G k (wrap64 ((i:Int)+1)) else some false)
    (fin:Ev (fun k=>G k (l.length:Int)) r):Ev (fun k=>G k 0) (seqB a l && r):=by
  have key:=Loops.back_loop (G:=fun k i (_:Unit)=>G k i) (fun i _=>seqB (a+i) (l.drop i) && r) l.length (fun i _ hi ih=>by
    rw[Loops.drop_cons_getD l 0 i hi]
    by_cases h:l.getD i 0=a+i
    · refine Ev.step (f:=fun k=>G k ((i+1:Nat):Int)) (fun k=>by rw[hG k i hi,if_pos h,Loops.wrap_succ hi hl]) ?_
      simp only[seqB,decide_eq_true h,Bool.true_and]
      rw[show a+(i:Int)+1=a+((i+1:Nat):Int) by omega]
      exact ih ()
    · refine Loops.Ev.one (fun k=> ?_)
      rw[hG k i hi,if_neg h]
      simp only[seqB,decide_eq_false h,Bool.false_and]) (fun _=>by simpa[seqB]using fin) ()
  simpa using key
theorem concat_eq (A B:List Int) (hA:A.length≤1048576) (hB:B.length≤1048576):Ev (fun k=>slices_Concat_int_int.f k [A,B]) (A++B):=by
  refine⟨6,fun k hk=> ?_⟩
  obtain⟨k,rfl⟩:∃j,k=j+6:=⟨k - 6,by omega⟩
  have w1:wrap64 (0+1)=1:=by unfold wrap64;omega
  have w2:wrap64 (1+1)=2:=by unfold wrap64;omega
  have hl:(([A,B].length:Nat):Int)=2:=rfl
  have e0:rd_L3 [A,B] 0=A:=rfl
  have e1:rd_L3 [A,B] 1=B:=rfl
  have wA:wrap64 (0+(A.length:Int))=A.length:=by unfold wrap64;omega
  have wB:wrap64 ((A.length:Int)+(B.length:Int))=A.length+B.length:=by unfold wrap64;omega
  unfold slices_Concat_int_int.f
  show slices_Concat_int_int.l0 (k+5+1) [A,B] 0 [A,B] (([A,B].length:Nat):Int) 0=_
  rw[slices_Concat_int_int.l0,hl,if_pos (by omega),if_pos (by omega),if_pos (by omega),e0,wA,if_neg (by omega),w1]
  show slices_Concat_int_int.l0 (k+4+1) [A,B] (A.length:Int) [A,B] 2 1=_
  rw[slices_Concat_int_int.l0,hl,if_pos (by omega),if_pos (by omega),if_pos (by omega),e1,wB,if_neg (by omega),w2]
  show slices_Concat_int_int.l0 (k+3+1) [A,B] ((A.length:Int)+B.length) [A,B] 2 2=_
  rw[slices_Concat_int_int.l0,hl,if_neg (by omega),if_neg (by omega),if_neg (by omega)]
  show slices_Concat_int_int.l1 (k+2+1) [] [A,B] 2 0=_
  rw[slices_Concat_int_int.l1,hl,if_pos (by omega),if_pos (by omega),if_pos (by omega),e0,if_pos (by simp;omega),w1,List.nil_append]
  show slices_Concat_int_int.l1 (k+1+1) A [A,B] 2 1=_
  rw[slices_Concat_int_int.l1,hl,if_pos (by omega),if_pos (by omega),if_pos (by omega),e1,if_pos (by omega),w2]
  show slices_Concat_int_int.l1 (k+1) (A++B) [A,B] 2 2=_
  rw[slices_Concat_int_int.l1,if_neg (by omega)]
def lineOk (s n:Int) (A B:List Int) (w:Int):Bool:=decide (((0≤s∧s≤40)∧n≤s)∧(A.length:Int)≤5∧(0≤w∧w≤100000)∧(B.length:Int)+A.length=n) && seqB 0 (B++A)
theorem iline_eq (s n:Int) (A B:List Int) (w:Int) (st:Bool) (hA:A.length≤1048576) (hB:B.length≤1048576):Ev (fun k=>impl_LineOk.f k s n A B w st) (lineOk s n A B w):=by
  have jt:Ev (fun k=>impl_LineOk.j0 k true s n A B w st) false:=Loops.Ev.one (fun k=>by simp only[impl_LineOk.j0,if_true])
  have jf:Ev (fun k=>impl_LineOk.j0 k false s n A B w st) (seqB 0 (B++A)):=by
    refine Loops.Ev.succ ?_
    simp only[impl_LineOk.j0,Bool.false_eq_true,if_false]
    refine(Ev.bind (concat_eq B A hB hA) ?_)
    have key:=seq_loop (G:=fun k i=>impl_LineOk.l0 k (B++A) ((B++A).length:Int) i) (r:=true) (B++A) 0 (by simp;omega) (fun k i hi=>by
      simp only[impl_LineOk.l0]
      rw[if_pos (by omega),if_pos (by omega),if_pos (by omega),Loops.rd_nat,Int.zero_add]) (Loops.Ev.one (fun k=>by
      simp only[impl_LineOk.l0]
      rw[if_neg (by omega)]))
    simpa using key
  unfold impl_LineOk.f lineOk
  simp only[within_eq,Option.bind_some,decide_eq_true_eq]
  by_cases h1:0≤s∧s≤40
  · simp only[if_pos h1]
    by_cases h2:n >s
    · simp only[if_pos h2]
      exact Loops.Ev.eq jt (by rw[decide_eq_false (by omega)];rfl)
    · simp only[if_neg h2]
      by_cases h3:(A.length:Int) >5
      · simp only[if_pos h3]
        exact Loops.Ev.eq jt (by rw[decide_eq_false (by omega)];rfl)
      · simp only[if_neg h3]
        by_cases h4:0≤w∧w≤100000
        · simp only[if_pos h4]
          rw[Loops.wrap_in (show -9223372036854775808≤(B.length:Int)+(A.length:Int) by omega) (by omega)]
          by_cases h5:(B.length:Int)+A.length=n
          · rw[show((B.length:Int)+(A.length:Int) !=n)=false by simp[h5],decide_eq_true (by omega),Bool.true_and]
            exact jf
          · rw[show((B.length:Int)+(A.length:Int) !=n)=true by simp[h5]]
            exact Loops.Ev.eq jt (by rw[decide_eq_false (by omega)];rfl)
        · simp only[if_neg h4]
          exact Loops.Ev.eq jt (by rw[decide_eq_false (by omega)];rfl)
  · simp only[if_neg h1]
    exact Loops.Ev.eq jt (by rw[decide_eq_false (by omega)];rfl)
theorem sline_eq (s n:Int) (A B:List Int) (w:Int) (st:Bool) (hA:A.length≤1048576) (hB:B.length≤1048576):Ev (fun k=>spec_LineOk.f k s n A B w st) (lineOk s n A B w):=by
  have jt:Ev (fun k=>spec_LineOk.j0 k true s n A B w st) false:=Loops.Ev.one (fun k=>by simp only[spec_LineOk.j0,if_true])
  have jf:Ev (fun k=>spec_LineOk.j0 k false s n A B w st) (seqB 0 (B++A)):=by
    refine Ev.step (f:=fun k=>spec_LineOk.l0 k 0 s n A B w st) (fun k=>by simp only[spec_LineOk.j0,Bool.false_eq_true,if_false]) ?_
    rw[seqB_append]
    refine seq_loop (G:=fun k i=>spec_LineOk.l0 k i s n A B w st) B 0 (by omega) (fun k i hi=>by
      simp only[spec_LineOk.l0]
      rw[if_pos (by omega),if_pos (by omega),Loops.rd_nat,Int.zero_add]) (Ev.step (f:=fun k=>spec_LineOk.l1 k 0 s n A B w st) (fun k=>by
      simp only[spec_LineOk.l0]
      rw[if_neg (by omega)]) ?_)
    have key:=seq_loop (G:=fun k i=>spec_LineOk.l1 k i s n A B w st) (r:=true) A (0+B.length) (by omega) (fun k i hi=>by
      simp only[spec_LineOk.l1]
      rw[if_pos (by omega),if_pos (by omega),Loops.rd_nat,Loops.wrap_in (show -9223372036854775808≤(B.length:Int)+(i:Int) by omega) (by omega),Int.zero_add]) (Loops.Ev.one (fun k=>by
      simp only[spec_LineOk.l1]
      rw[if_neg (by omega)]))
    simpa using key
  unfold spec_LineOk.f lineOk
  simp only[in_eq,Option.bind_some,decide_eq_true_eq]
  by_cases h1:0≤s∧s≤40
  · simp only[if_pos h1]
    by_cases h2:0≤n∧n≤s
    · simp only[if_pos h2]
      by_cases h3:(A.length:Int) >5
      · simp only[if_pos h3]
        exact Loops.Ev.eq jt (by rw[decide_eq_false (by omega)];rfl)
      · simp only[if_neg h3]
        by_cases h4:0≤w∧w≤100000
        · simp only[if_pos h4]
          rw[Loops.wrap_in (show -9223372036854775808≤(B.length:Int)+(A.length:Int) by omega) (by omega)]
          by_cases h5:(B.length:Int)+A.length=n
          · rw[show((B.length:Int)+(A.length:Int) !=n)=false by simp[h5],decide_eq_true (by omega),Bool.true_and]
            exact jf
          · rw[show((B.length:Int)+(A.length:Int) !=n)=true by simp[h5]]
            exact Loops.Ev.eq jt (by rw[decide_eq_false (by omega)];rfl)
        · simp only[if_neg h4]
          exact Loops.Ev.eq jt (by rw[decide_eq_false (by omega)];rfl)
    · simp only[if_neg h2]
      exact Loops.Ev.eq jt (by rw[decide_eq_false (by omega)];rfl)
  · simp only[if_neg h1]
    exact Loops.Ev.eq jt (by rw[decide_eq_false (by omega)];rfl)
theorem all_range {G:Nat→Int→Option Bool} {r:Bool} (n:Nat) (p:Nat→Bool) (step:∀(i:Nat) (R:Bool),i<n→Ev (fun k=>G k ((i+1:Nat):Int)) R→Ev (fun k=>G k (i:Int)) (p i && R))
    (fin:Ev (fun k=>G k (n:Int)) r):Ev (fun k=>G k 0) ((List.range n).all p && r):=by
  have key:∀(m i:Nat),i+m=n→Ev (fun k=>G k (i:Int)) ((List.range' i m).all p && r):=by
    intro m
    induction m with
    | zero => intro i h; obtain rfl : i = n := by omega
              simpa using fin
    |succ m ih=>
      intro i h
      have h2:=step i _ (by omega) (ih (i+1) (by omega))
      rw[←Bool.and_assoc]at h2
      rw[List.range'_succ,List.all_cons]
      exact h2
  have h:=key n 0 (by omega)
  rw[←List.range_eq_range']at h
  exact h
theorem rdJ (l:List S26) (i:Nat):rd_T26 l (i:Int)=l.getD i z26:=by simp[rd_T26]
def jokAt (l:List S26) (i:Nat):Bool:=jok (l.getD i z26).f0 (l.getD i z26).f1 (l.getD i z26).f2 (l.getD i z26).f4
def newAt (l:List S26) (i:Nat):Bool:=(List.range i).all fun j=>decide ((l.getD j z26).f0≠(l.getD i z26).f0)
def jobsOk (l:List S26):Bool:=decide (l.length≤12) && (List.range l.length).all fun i=>jokAt l i && newAt l i
theorem jobIdx_first:∀(l:List S26) (b a:Int) (i:Nat),i<l.length→(l.getD i z26).f0=b→(jobIdx l b a=a+i ↔ ∀j,j<i→(l.getD j z26).f0≠b):=by
  intro l
  induction l with
  |nil=>intro b a i h;exact absurd h (by simp)
  |cons y ys ih=>
    intro b a i h hb
    unfold jobIdx
    cases i with
    |zero=>
      simp only[List.getD_cons_zero]at hb
      rw[if_pos hb]
      exact⟨fun _ j hj=>absurd hj (by omega),fun _=>by simp⟩
    |succ i=>
      simp only[List.getD_cons_succ]at hb
      by_cases hy:y.f0=b
      · rw[if_pos hy]
        exact⟨fun e=>absurd e (by omega),fun e=>absurd hy (e 0 (by omega))⟩
      · rw[if_neg hy]
        have h2:=ih b (a+1) i (by simpa using h) hb
        rw[show a+((i+1:Nat):Int)=a+1+(i:Int) by omega,h2]
        constructor
        · intro e j hj
          cases j with
          |zero=>exact hy
          |succ j=>exact e j (by omega)
        · intro e j hj
          exact e (j+1) (by omega)
theorem newAt_iff (l:List S26) (i:Nat) (h:i<l.length):(jobIdx l (l.getD i z26).f0 0=(i:Int)) ↔ newAt l i=true:=by
  have h1:=jobIdx_first l (l.getD i z26).f0 0 i h rfl
  rw[Int.zero_add]at h1
  rw[h1]
  unfold newAt
  rw[List.all_eq_true]
  constructor
  · intro e x hx
    exact decide_eq_true (e x (List.mem_range.1 hx))
  · intro e j hj
    exact of_decide_eq_true (e j (List.mem_range.2 hj))
theorem sjobs_eq (l:List S26) (hl:l.length≤4194304):Ev (fun k=>spec_JobsOk.f k l) (jobsOk l):=by
  unfold spec_JobsOk.f jobsOk
  have key:=all_range (G:=fun k i=>spec_JobsOk.l0 k l i) (r:=decide (l.length≤12)) l.length (fun i=>jokAt l i && newAt l i) (fun i R hi hR=>by
    refine Loops.Ev.succ ?_
    simp only[spec_JobsOk.l0,if_pos (show(i:Int)<(l.length:Int) by omega),if_pos (show 0≤(i:Int) by omega),rdJ,sjok_eq,Option.bind_some]
    show Ev (fun k=>if jokAt l i=true then _ else _) _
    by_cases h1:jokAt l i=true
    · simp only[if_pos h1,h1,Bool.true_and]
      refine all_range (G:=fun k j=>spec_JobsOk.l1 k l (i:Int) j) (r:=R) i (fun j=>decide ((l.getD j z26).f0≠(l.getD i z26).f0)) (fun j R2 hj hR2=> ?_) (Loops.Ev.succ ?_)
      · refine Loops.Ev.succ ?_
        simp only[spec_JobsOk.l1,if_pos (show(j:Int)<(i:Int) by omega),if_pos (show 0≤(j:Int) by omega),if_pos (show(j:Int)<(l.length:Int) by omega),if_pos (show 0≤(i:Int) by omega),if_pos (show(i:Int)<(l.length:Int) by omega),rdJ]
        rw[Loops.wrap_succ hj (by omega)]
        by_cases h2:(l.getD j z26).f0=(l.getD i z26).f0
        · simp only[if_pos h2,decide_eq_false (show ¬((l.getD j z26).f0≠(l.getD i z26).f0) from fun e=>e h2),Bool.false_and]
          exact Ev.now _
        · simp only[if_neg h2,decide_eq_true h2,Bool.true_and]
          exact hR2
      · simp only[spec_JobsOk.l1,if_neg (show ¬(i:Int)<(i:Int) by omega)]
        rw[Loops.wrap_succ hi (by omega)]
        exact hR
    · simp only[if_neg h1,Bool.eq_false_iff.mpr h1,Bool.false_and]
      exact Ev.now _) (Loops.Ev.one (fun k=>by
      simp only[spec_JobsOk.l0]
      rw[if_neg (by omega)]
      congr 2
      apply propext
      omega))
  rw[Bool.and_comm]at key
  exact key
def sheets (p:Int) (d:Bool):Int:=if d=true then(p+1) / 2 else p
theorem sheets_in (p:Int) (d:Bool) (h:1≤p∧p≤64):1≤sheets p d∧sheets p d≤64:=by
  unfold sheets
  split<;>omega
def jsh (i p c:Int) (d:Bool) (r:Int):Int:=if jok i p c r=true then c * sheets p d else 0
theorem jsh_in (i p c:Int) (d:Bool) (r:Int):0≤jsh i p c d r∧jsh i p c d r≤1280:=by
  unfold jsh
  split
  · rename_i h
    have hj:=jok_true h
    have hs:=sheets_in p d hj.2.1
    have h1:0≤c * sheets p d:=Int.mul_nonneg (by omega) (by omega)
    have h2:c * sheets p d≤20 * sheets p d:=Int.mul_le_mul_of_nonneg_right (by omega) (by omega)
    omega
  · omega
set_option maxRecDepth 100000 in
theorem ssheets_all:((List.range 64).all fun i=>(spec_SheetsFor.f 200 (1+(i:Int)) 1 true==some (sheets (1+(i:Int)) true)) && (spec_SheetsFor.f 200 (1+(i:Int)) 1 false==some (sheets (1+(i:Int)) false)))=true:=by decide+kernel
theorem ssheets_eq (p:Int) (d:Bool) (h:1≤p∧p≤64):Ev (fun k=>spec_SheetsFor.f k p 1 d) (sheets p d):=by
  have h1:=List.all_eq_true.1 ssheets_all (p - 1).toNat (List.mem_range.2 (by omega))
  rw[show 1+((p - 1).toNat:Int)=p by omega,Bool.and_eq_true]at h1
  refine Ev.of (k:=200) (fun k=>spec_SheetsFor.mono p 1 d k) ?_
  cases d with
  |true=>exact beq_iff_eq.1 h1.1
  |false=>exact beq_iff_eq.1 h1.2
theorem sjsh_eq (i p c:Int) (d:Bool) (r:Int) (h:Bool):Ev (fun k=>spec_JobSheets.f k i p c d r h) (jsh i p c d r):=by
  have hb:=jsh_in i p c d r
  unfold spec_JobSheets.f jsh
  unfold jsh at hb
  simp only[sjok_eq,Option.bind_some]
  by_cases hj:jok i p c r=true
  · simp only[if_pos hj]at hb ⊢
    have hk:=jok_true hj
    refine Ev.bind (ssheets_eq p d hk.2.1) ?_
    rw[Loops.wrap_in (by omega) (by omega)]
    exact Ev.now _
  · simp only[if_neg hj]
    exact Ev.now _
def nowOk (i p c:Int) (d:Bool) (r:Int) (h:Bool) (s:Int):Bool:=if(i==0 && (p==0 && (c==0 && (!d && (r==0 && (!h))))))=true then(s==0) else(jok i p c r && (decide (jsh i p c d r≤40) && (jsh i p c d r==s)))
def mok (L:List S26) (i p c:Int) (d:Bool) (r:Int) (h:Bool) (s n:Int) (I O:List Int) (w:Int) (P:Int):Bool:=jobsOk L && (lineOk s n I O w && (decide (0≤P∧P≤100000) && nowOk i p c d r h s))
theorem smok_eq (L:List S26) (i p c:Int) (d:Bool) (r:Int) (h:Bool) (s n:Int) (I O:List Int) (w:Int) (st:Bool) (P:Int) (hL:L.length≤4194304) (hI:I.length≤1048576) (hO:O.length≤1048576):
    Ev (fun k=>spec_MachineOk.f k L i p c d r h s n I O w st P) (mok L i p c d r h s n I O w P):=by
  have jt:Ev (fun k=>spec_MachineOk.j0 k true L i p c d r h s n I O w st P) false:=Loops.Ev.one (fun k=>by simp only[spec_MachineOk.j0,if_true])
  have jf:Ev (fun k=>spec_MachineOk.j0 k false L i p c d r h s n I O w st P) (nowOk i p c d r h s):=by
    refine Loops.Ev.succ ?_
    simp only[spec_MachineOk.j0,Bool.false_eq_true,if_false]
    unfold nowOk
    by_cases h0:(i==0 && (p==0 && (c==0 && (!d && (r==0 && (!h))))))=true
    · simp only[if_pos h0]
      exact Ev.now _
    simp only[if_neg h0,sjok_eq,Option.bind_some]
    by_cases hj:jok i p c r=true
    · simp only[if_pos hj,hj,Bool.true_and]
      refine Ev.bind (sjsh_eq i p c d r h) ?_
      by_cases h4:jsh i p c d r≤40
      · simp only[if_pos h4,decide_eq_true h4,Bool.true_and]
        exact Ev.bind (sjsh_eq i p c d r h) (Ev.now _)
      · simp only[if_neg h4,decide_eq_false h4,Bool.false_and]
        exact Ev.now _
    · simp only[if_neg hj,Bool.eq_false_iff.mpr hj,Bool.false_and]
      exact Ev.now _
  unfold spec_MachineOk.f mok
  refine Ev.bind (sjobs_eq L hL) ?_
  by_cases h1:jobsOk L=true
  · simp only[if_pos h1,h1,Bool.true_and]
    refine Ev.bind (sline_eq s n I O w st hI hO) ?_
    by_cases h2:lineOk s n I O w=true
    · simp only[if_pos h2,h2,Bool.true_and,in_eq,Option.bind_some]
      by_cases h3:0≤P∧P≤100000
      · simp only[decide_eq_true h3,Bool.not_true,Bool.true_and]
        exact jf
      · simp only[decide_eq_false h3,Bool.not_false,Bool.false_and]
        exact jt
    · simp only[if_neg h2,Bool.eq_false_iff.mpr h2,Bool.false_and]
      exact jt
  · simp only[if_neg h1,Bool.eq_false_iff.mpr h1,Bool.false_and]
    exact jt
def newLine (a:Int):Int×Int×List Int×List Int×Int×Bool×Bool:=if 0≤a∧a≤40 then(a,0,[],[],0,false,true) else(0,0,[],[],0,false,false)
theorem inew_eq (a:Int):impl_NewLine.f a=some (newLine a):=by
  unfold impl_NewLine.f newLine
  rw[within_eq]
  by_cases h:0≤a∧a≤40<;>simp[h]
theorem snew_eq (a:Int):spec_NewLine.f a=some (newLine a):=by
  unfold spec_NewLine.f newLine
  rw[in_eq]
  by_cases h:0≤a∧a≤40<;>simp[h]
def aok (k a b c:Int):Bool:=if k=1 then jok a b 1 c else if k=2∨k=4 then decide (a=0∧b=0∧c=0) else if k=3 then decide ((1≤a∧a≤5)∧b=0∧c=0) else if k=5 then decide ((1≤a∧a≤9999)∧b=0∧c=0) else false
theorem zero3 (a b c:Int):(if a=0 then(if b=0 then(some (c==0)) else some false) else some false)=some (decide (a=0∧b=0∧c=0)):=by
  by_cases h:a=0<;>by_cases h2:b=0<;>by_cases h3:c=0<;>simp[h,h2,h3]
theorem zero2 (p:Prop) [Decidable p] (b c:Int):(if decide p=true then(if b=0 then(some (c==0)) else some false) else some false)=some (decide (p∧b=0∧c=0)):=by
  by_cases h:p<;>by_cases h2:b=0<;>by_cases h3:c=0<;>simp[h,h2,h3]
theorem saok_eq (K a b c:Int):Ev (fun k=>spec_ActOk.f k K a b c) (aok K a b c):=by
  unfold spec_ActOk.f aok
  by_cases h1:K=1
  · simp only[if_pos h1,spec_l39Job.f,sjok_eq,Option.bind_some]
    exact Ev.now _
  simp only[if_neg h1]
  by_cases h3:K=3
  · simp only[if_pos h3,if_neg (show ¬(K=2∨K=4) by omega),in_eq,Option.bind_some,zero2]
    exact Ev.now _
  simp only[if_neg h3]
  by_cases h2:K=2
  · simp only[if_pos h2,h2,true_or,if_true]
    exact Loops.Ev.one (fun k=>by simp only[spec_ActOk.j0,beq_self_eq_true,if_true,zero3])
  simp only[if_neg h2]
  by_cases h4:K=4
  · simp only[h4,or_true,if_true]
    exact Loops.Ev.one (fun k=>by simp only[spec_ActOk.j0,beq_self_eq_true,if_true,zero3])
  rw[if_neg (show ¬(K=2∨K=4) by omega)]
  refine Loops.Ev.one (fun k=> ?_)
  simp only[spec_ActOk.j0]
  rw[if_neg (by simp[h4])]
  by_cases h5:K=5
  · simp only[if_pos h5,in_eq,Option.bind_some,zero2]
  · simp only[if_neg h5]
theorem clone_eq (l:List Int) (hl:l.length≤1048576):slices_Clone_int_int.f l=some l:=by
  unfold slices_Clone_int_int.f
  simp only[Option.bind_some,List.length_nil,List.nil_append]
  rw[if_pos (by omega)]
theorem copyLine_eq (s n:Int) (I O:List Int) (w:Int) (st:Bool) (hI:I.length≤1048576) (hO:O.length≤1048576):impl_copyLine.f s n I O w st=some (s,n,I,O,w,st):=by
  unfold impl_copyLine.f
  simp only[clone_eq I hI,clone_eq O hO,Option.bind_some]
def lstep (s n:Int) (I O:List Int) (w:Int) (st:Bool) (a:Int):Int×Int×List Int×List Int×Int×Bool×Bool:=
  if lineOk s n I O w=true then
    (if a=1 then(if(I.length:Int) ≥ 5 then(s,n,I,O,w,st,false) else if n ≥ s then(s,n,I,O,w,st,false) else if st=true then(s,n,I,O,w,st,false) else(s,n+1,I++ [n],O,w,st,true))
    else if a=2 then(if(I.length:Int)=0 then(s,n,I,O,w,st,false) else if st=true then(s,n,I,O,w,st,false) else(s,n,I.drop 1,O++ [rd I 0],w,st,true))
    else if a=3 then(s,(O.length:Int),[],O,mn 100000 (w+I.length),true,true)
    else if a=4 then(s,n,I,O,w,true,true)
    else if a=5 then(s,n,I,O,w,false,true)
    else(s,n,I,O,w,st,false))
  else(s,n,I,O,w,st,false)
theorem lineOk_parts {s n:Int} {I O:List Int} {w:Int} (h:lineOk s n I O w=true):((0≤s∧s≤40)∧n≤s)∧(I.length:Int)≤5∧(0≤w∧w≤100000)∧(O.length:Int)+I.length=n:=by
  simp only[lineOk,Bool.and_eq_true,decide_eq_true_eq]at h
  exact h.1
theorem lineOk_seq {s n:Int} {I O:List Int} {w:Int} (h:lineOk s n I O w=true):seqB 0 (O++I)=true:=by
  simp only[lineOk,Bool.and_eq_true]at h
  exact h.2
theorem lineOk_mk {s n:Int} {I O:List Int} {w:Int} (h:((0≤s∧s≤40)∧n≤s)∧(I.length:Int)≤5∧(0≤w∧w≤100000)∧(O.length:Int)+I.length=n) (h2:seqB 0 (O++I)=true):lineOk s n I O w=true:=by
  unfold lineOk
  rw[decide_eq_true h,h2]
  rfl
theorem istep_eq (s n:Int) (I O:List Int) (w:Int) (st:Bool) (a:Int) (hI:I.length≤1048576) (hO:O.length≤1048576):Ev (fun k=>impl_LineStep.f k s n I O w st a) (lstep s n I O w st a):=by
  unfold impl_LineStep.f lstep
  simp only[copyLine_eq s n I O w st hI hO,Option.bind_some]
  refine Ev.bind (iline_eq s n I O w st hI hO) ?_
  by_cases hl:lineOk s n I O w=true
  · simp only[if_pos hl]
    have hp:=lineOk_parts hl
    by_cases h1:a=1
    · simp only[if_pos h1]
      by_cases h2:(I.length:Int) ≥ 5
      · simp only[if_pos h2];exact Ev.now _
      simp only[if_neg h2]
      by_cases h3:n ≥ s
      · simp only[if_pos h3];exact Ev.now _
      simp only[if_neg h3]
      by_cases h4:st=true
      · simp only[if_pos h4];exact Ev.now _
      simp only[if_neg h4,if_pos (show I.length<17592186044416 by omega)]
      rw[Loops.wrap_in (show -9223372036854775808≤n+1 by omega) (by omega)]
      exact Ev.now _
    simp only[if_neg h1]
    by_cases h1:a=2
    · simp only[if_pos h1]
      by_cases h2:(I.length:Int)=0
      · simp only[if_pos h2];exact Ev.now _
      simp only[if_neg h2]
      by_cases h4:st=true
      · simp only[if_pos h4];exact Ev.now _
      simp only[if_neg h4,if_pos (show 0<(I.length:Int) by omega),if_pos (show O.length<17592186044416 by omega),if_pos (show 1≤(I.length:Int) by omega)]
      exact Ev.now _
    simp only[if_neg h1]
    by_cases h1:a=3
    · simp only[if_pos h1]
      rw[Loops.wrap_in (show -9223372036854775808≤w+(I.length:Int) by omega) (by omega)]
      exact Ev.now _
    simp only[if_neg h1]
    by_cases h1:a=4
    · simp only[if_pos h1];exact Ev.now _
    simp only[if_neg h1]
    by_cases h1:a=5
    · simp only[if_pos h1];exact Ev.now _
    simp only[if_neg h1];exact Ev.now _
  · simp only[if_neg hl];exact Ev.now _
theorem lstep_good (s n:Int) (I O:List Int) (w:Int) (st:Bool) (a:Int) (hl:lineOk s n I O w=true):∃n2 I2 O2 w2 st2 ok,lstep s n I O w st a=(s,n2,I2,O2,w2,st2,ok)∧lineOk s n2 I2 O2 w2=true∧w2≤w+5:=by
  have hp:=lineOk_parts hl
  have hs:=lineOk_seq hl
  unfold lstep
  rw[if_pos hl]
  split
  · split
    · exact⟨_,_,_,_,_,_,rfl,hl,by omega⟩
    split
    · exact⟨_,_,_,_,_,_,rfl,hl,by omega⟩
    split
    · exact⟨_,_,_,_,_,_,rfl,hl,by omega⟩
    refine⟨_,_,_,_,_,_,rfl,lineOk_mk ⟨by omega,by simp;omega,by omega,by simp;omega⟩ ?_,by omega⟩
    rw[←List.append_assoc,seqB_append,hs,Bool.true_and]
    simp only[seqB,Bool.and_true,decide_eq_true_eq,List.length_append]
    omega
  split
  · split
    · exact⟨_,_,_,_,_,_,rfl,hl,by omega⟩
    split
    · exact⟨_,_,_,_,_,_,rfl,hl,by omega⟩
    rename_i hne _
    cases I with
    |nil=>exact absurd rfl hne
    |cons x xs=>
      refine⟨_,_,_,_,_,_,rfl,lineOk_mk ⟨by omega,?_,by omega,?_⟩ ?_,by omega⟩
      · simp at hp ⊢;omega
      · simp at hp ⊢;omega
      · have e:(O++ [rd (x::xs) 0])++List.drop 1 (x::xs)=O++(x::xs):=by simp[rd]
        rw[e];exact hs
  split
  · refine⟨_,_,_,_,_,_,rfl,lineOk_mk ⟨by omega,by simp,by unfold mn;split<;>omega,by simp⟩ ?_,by unfold mn;split<;>omega⟩
    rw[List.append_nil]
    rw[seqB_append,Bool.and_eq_true]at hs
    exact hs.1
  split
  · exact⟨_,_,_,_,_,_,rfl,hl,by omega⟩
  split
  · exact⟨_,_,_,_,_,_,rfl,hl,by omega⟩
  exact⟨_,_,_,_,_,_,rfl,hl,by omega⟩
theorem good_len {s n:Int} {I O:List Int} {w:Int} (h:lineOk s n I O w=true):I.length≤1048576∧O.length≤1048576:=by
  have:=lineOk_parts h
  omega
theorem scopy_eq (l:List Int) (hl:l.length≤1048576):spec_l05Copy.f l=some l:=by
  unfold spec_l05Copy.f
  simp only[Option.bind_some,List.length_nil,List.nil_append]
  rw[if_pos (by omega)]
theorem scopyLine_eq (s n:Int) (I O:List Int) (w:Int) (st:Bool) (hI:I.length≤1048576) (hO:O.length≤1048576):spec_l37Copy.f s n I O w st=some (s,n,I,O,w,st):=by
  unfold spec_l37Copy.f
  simp only[scopy_eq I hI,scopy_eq O hO,Option.bind_some]
theorem sstep_eq (s n:Int) (I O:List Int) (w:Int) (st:Bool) (a:Int) (hI:I.length≤1048576) (hO:O.length≤1048576):Ev (fun k=>spec_LineStep.f k s n I O w st a) (lstep s n I O w st a):=by
  unfold spec_LineStep.f lstep
  simp only[scopyLine_eq s n I O w st hI hO,Option.bind_some]
  refine Ev.bind (sline_eq s n I O w st hI hO) ?_
  by_cases hl:lineOk s n I O w=true
  · simp only[if_pos hl]
    have hp:=lineOk_parts hl
    by_cases h1:a=1
    · simp only[if_pos h1]
      by_cases h4:st=true
      · simp only[if_pos h4,ite_self];exact Ev.now _
      simp only[if_neg h4]
      by_cases h2:(I.length:Int)=5
      · simp only[if_pos h2,if_pos (show(I.length:Int) ≥ 5 by omega)];exact Ev.now _
      simp only[if_neg h2,if_neg (show ¬(I.length:Int) ≥ 5 by omega)]
      by_cases h3:n=s
      · simp only[if_pos h3,if_pos (show n ≥ s by omega)];exact Ev.now _
      simp only[if_neg h3,if_neg (show ¬n ≥ s by omega),if_pos (show I.length<17592186044416 by omega)]
      rw[Loops.wrap_in (show -9223372036854775808≤n+1 by omega) (by omega)]
      exact Ev.now _
    simp only[if_neg h1]
    by_cases h1:a=2
    · simp only[if_pos h1]
      by_cases h4:st=true
      · simp only[if_pos h4,ite_self];exact Ev.now _
      simp only[if_neg h4]
      by_cases h2:(I.length:Int)=0
      · simp only[if_pos h2];exact Ev.now _
      simp only[if_neg h2,if_pos (show 0<(I.length:Int) by omega),if_pos (show O.length<17592186044416 by omega),if_pos (show 1≤(I.length:Int) by omega)]
      exact Ev.now _
    simp only[if_neg h1]
    by_cases h1:a=3
    · simp only[if_pos h1]
      rw[Loops.wrap_in (show -9223372036854775808≤w+(I.length:Int) by omega) (by omega)]
      exact Ev.now _
    simp only[if_neg h1]
    by_cases h1:a=4
    · simp only[if_pos h1];exact Ev.now _
    simp only[if_neg h1]
    by_cases h1:a=5
    · simp only[if_pos h1];exact Ev.now _
    simp only[if_neg h1];exact Ev.now _
  · simp only[if_neg hl];exact Ev.now _
theorem seqB_get:∀(l:List Int) (a:Int),seqB a l=true→ ∀i,i<l.length→l.getD i 0=a+i:=by
  intro l
  induction l with
  |nil=>intro a _ i hi;exact absurd hi (by simp)
  |cons x xs ih=>
    intro a h i hi
    simp only[seqB,Bool.and_eq_true,decide_eq_true_eq]at h
    cases i with
    |zero=>simp;exact h.1
    |succ i=>
      have:=ih (a+1) h.2 i (by simpa using hi)
      simp only[List.getD_cons_succ,this]
      omega
theorem feed_ok {s n:Int} {I O:List Int} {w:Int} (hl:lineOk s n I O w=true) (h:(I.length:Int)<5∧n<s):lstep s n I O w false 1=(s,n+1,I++ [n],O,w,false,true):=by
  unfold lstep
  rw[if_pos hl,if_pos rfl,if_neg (by omega),if_neg (by omega),if_neg (by simp)]
theorem feed_no {s n:Int} {I O:List Int} {w:Int} (hl:lineOk s n I O w=true) (h:¬((I.length:Int)<5∧n<s)):lstep s n I O w false 1=(s,n,I,O,w,false,false):=by
  unfold lstep
  rw[if_pos hl,if_pos rfl]
  by_cases h5:(I.length:Int) ≥ 5
  · rw[if_pos h5]
  · rw[if_neg h5,if_pos (by omega)]
theorem move_ok {s n:Int} {I O:List Int} {w:Int} (hl:lineOk s n I O w=true) (h:¬(I.length:Int)=0):lstep s n I O w false 2=(s,n,I.drop 1,O++ [rd I 0],w,false,true):=by
  unfold lstep
  rw[if_pos hl,if_neg (by omega),if_pos rfl,if_neg h,if_neg (by simp)]
theorem move_no {s n:Int} {I O:List Int} {w:Int} (hl:lineOk s n I O w=true) (h:(I.length:Int)=0):lstep s n I O w false 2=(s,n,I,O,w,false,false):=by
  unfold lstep
  rw[if_pos hl,if_neg (by omega),if_pos rfl,if_pos h]
theorem good_after {s n:Int} {I O:List Int} {w:Int} {st:Bool} {a n2:Int} {I2 O2:List Int} {w2:Int} {st2 ok:Bool} (hl:lineOk s n I O w=true) (e:lstep s n I O w st a=(s,n2,I2,O2,w2,st2,ok)):lineOk s n2 I2 O2 w2=true:=by
  obtain⟨n3,I3,O3,w3,st3,ok3,e3,h3,_⟩:=lstep_good s n I O w st a hl
  have h:=e3.symm.trans e
  simp only[Prod.mk.injEq]at h
  obtain⟨_,rfl,rfl,rfl,rfl,_⟩:=h
  exact h3
theorem fin_l1 (s:Int) (w:Int):∀(d:Nat) (c:Bool) (n:Int) (I O:List Int),lineOk s n I O w=true→2 * ((s - n)+(s - O.length))+(if c=true then 1 else 0)<d→ ∃O2,Ev (fun k=>impl_FinishLine.l1 k c s n I O w false) (s,s,[],O2,w,false)∧lineOk s s [] O2 w=true:=by
  intro d
  induction d with
  |zero=>
    intro c n I O hl hd
    have hp:=lineOk_parts hl
    split at hd<;>omega
  |succ d ih=>
    intro c n I O hl hd
    have hp:=lineOk_parts hl
    have hg:=good_len hl
    by_cases hf:(I.length:Int)<5∧n<s
    · have e:=feed_ok hl hf
      have ev:=istep_eq s n I O w false 1 hg.1 hg.2
      rw[e]at ev
      obtain⟨O2,ev2,h2⟩:=ih true (n+1) (I++ [n]) O (good_after hl e) (by simp only[if_true];split at hd<;>omega)
      refine⟨O2,Loops.Ev.succ ?_,h2⟩
      simp only[impl_FinishLine.l1]
      refine Ev.bind ev ?_
      simp only[if_true]
      exact ev2
    · have e:=feed_no hl hf
      have ev:=istep_eq s n I O w false 1 hg.1 hg.2
      rw[e]at ev
      by_cases hm:(I.length:Int)=0
      · have e2:=move_no hl hm
        have ev2:=istep_eq s n I O w false 2 hg.1 hg.2
        rw[e2]at ev2
        obtain rfl:I= []:=List.eq_nil_of_length_eq_zero (by omega)
        obtain rfl:n=s:=by simp at hf hp;omega
        cases c with
        |true=>
          obtain⟨O2,ev3,h3⟩:=ih false n [] O hl (by simp only[Bool.false_eq_true,if_false];simp only[if_true]at hd;omega)
          refine⟨O2,Loops.Ev.succ ?_,h3⟩
          simp only[impl_FinishLine.l1]
          refine Ev.bind ev ?_
          simp only[Bool.false_eq_true,if_false]
          refine Ev.bind ev2 ?_
          simp only[Bool.false_eq_true,if_false]
          refine Loops.Ev.succ ?_
          simp only[impl_FinishLine.l0,if_true]
          exact ev3
        |false=>
          refine⟨O,Loops.Ev.succ ?_,hl⟩
          simp only[impl_FinishLine.l1]
          refine Ev.bind ev ?_
          simp only[Bool.false_eq_true,if_false]
          refine Ev.bind ev2 ?_
          simp only[Bool.false_eq_true,if_false]
          refine Loops.Ev.one (fun k=> ?_)
          simp only[impl_FinishLine.l0,Bool.false_eq_true,if_false]
      · have e2:=move_ok hl hm
        have ev2:=istep_eq s n I O w false 2 hg.1 hg.2
        rw[e2]at ev2
        obtain⟨O2,ev3,h3⟩:=ih false n (I.drop 1) (O++ [rd I 0]) (good_after hl e2) (by simp only[Bool.false_eq_true,if_false,List.length_append,List.length_cons,List.length_nil];split at hd<;>omega)
        refine⟨O2,Loops.Ev.succ ?_,h3⟩
        simp only[impl_FinishLine.l1]
        refine Ev.bind ev ?_
        simp only[Bool.false_eq_true,if_false]
        refine Ev.bind ev2 ?_
        simp only[if_true]
        refine Loops.Ev.succ ?_
        simp only[impl_FinishLine.l0,if_true]
        exact ev3
theorem ifin_good (s n:Int) (I O:List Int) (w:Int) (st:Bool) (hl:lineOk s n I O w=true):∃O2,Ev (fun k=>impl_FinishLine.f k s n I O w st) (s,s,[],O2,w,false)∧lineOk s s [] O2 w=true:=by
  have hp:=lineOk_parts hl
  have hg:=good_len hl
  obtain⟨O2,ev,h2⟩:=fin_l1 s w 1000 false n I O hl (by simp only[Bool.false_eq_true,if_false];omega)
  refine⟨O2,?_,h2⟩
  unfold impl_FinishLine.f
  have e:lstep s n I O w st 5=(s,n,I,O,w,false,true):=by
    unfold lstep
    rw[if_pos hl,if_neg (by omega),if_neg (by omega),if_neg (by omega),if_neg (by omega),if_pos rfl]
  have eg:=istep_eq s n I O w st 5 hg.1 hg.2
  rw[e]at eg
  refine Ev.bind eg (Loops.Ev.succ ?_)
  simp only[impl_FinishLine.l0,if_true]
  exact ev
theorem seqB_iota:∀(l:List Int) (a:Int),seqB a l=true→l=Loops.iota a l.length:=by
  intro l a h
  apply List.ext_getElem
  · rw[Loops.iota_len]
  · intro i h1 h2
    have e1:=seqB_get l a h i h1
    have e2:=Loops.iota_get a l.length i h1
    simp only[List.getD,List.getElem?_eq_getElem h1,Option.getD_some]at e1
    simp only[List.getD,List.getElem?_eq_getElem h2,Option.getD_some]at e2
    rw[e1,e2]
theorem full_one {s:Int} {O:List Int} {w:Int} (h:lineOk s s [] O w=true):O=Loops.iota 0 s.toNat:=by
  have hp:=lineOk_parts h
  have hq:=lineOk_seq h
  rw[List.append_nil]at hq
  rw[seqB_iota O 0 hq]
  congr 1
  simp at hp
  omega
theorem sfin_l1 (s:Int) (w:Int):∀(d:Nat) (c:Bool) (n:Int) (I O:List Int),lineOk s n I O w=true→(c=false→ ¬((I.length:Int)<5∧n<s))→2 * ((s - n)+(s - O.length))+(if c=true then 1 else 0)<d→ ∃O2,Ev (fun k=>spec_FinishLine.l1 k c s n I O w false) (s,s,[],O2,w,false)∧lineOk s s [] O2 w=true:=by
  intro d
  induction d with
  |zero=>
    intro c n I O hl hcf hd
    have hp:=lineOk_parts hl
    split at hd<;>omega
  |succ d ih=>
    intro c n I O hl hcf hd
    have hp:=lineOk_parts hl
    have hg:=good_len hl
    cases c with
    |true=>
      simp only[if_true]at hd
      by_cases hf:(I.length:Int)<5∧n<s
      · have e:=feed_ok hl hf
        have ev:=sstep_eq s n I O w false 1 hg.1 hg.2
        rw[e]at ev
        obtain⟨O2,ev2,h2⟩:=ih true (n+1) (I++ [n]) O (good_after hl e) (by simp) (by simp only[if_true];omega)
        refine⟨O2,Loops.Ev.succ ?_,h2⟩
        simp only[spec_FinishLine.l1,if_true]
        exact Ev.bind ev ev2
      · have e:=feed_no hl hf
        have ev:=sstep_eq s n I O w false 1 hg.1 hg.2
        rw[e]at ev
        obtain⟨O2,ev2,h2⟩:=ih false n I O hl (fun _=>hf) (by simp only[Bool.false_eq_true,if_false];omega)
        refine⟨O2,Loops.Ev.succ ?_,h2⟩
        simp only[spec_FinishLine.l1,if_true]
        exact Ev.bind ev ev2
    |false=>
      simp only[Bool.false_eq_true,if_false]at hd
      by_cases hm:(I.length:Int)=0
      · have e2:=move_no hl hm
        have ev2:=sstep_eq s n I O w false 2 hg.1 hg.2
        rw[e2]at ev2
        obtain rfl:I= []:=List.eq_nil_of_length_eq_zero (by omega)
        have hf:=hcf rfl
        obtain rfl:n=s:=by simp at hf;omega
        refine⟨O,Loops.Ev.succ ?_,hl⟩
        simp only[spec_FinishLine.l1,Bool.false_eq_true,if_false]
        refine Ev.bind ev2 (Loops.Ev.one (fun k=> ?_))
        simp only[spec_FinishLine.l0,Bool.false_eq_true,if_false]
      · have e2:=move_ok hl hm
        have ev2:=sstep_eq s n I O w false 2 hg.1 hg.2
        rw[e2]at ev2
        obtain⟨O2,ev3,h3⟩:=ih true n (I.drop 1) (O++ [rd I 0]) (good_after hl e2) (by simp) (by simp only[if_true,List.length_append,List.length_cons,List.length_nil];omega)
        refine⟨O2,Loops.Ev.succ ?_,h3⟩
        simp only[spec_FinishLine.l1,Bool.false_eq_true,if_false]
        refine Ev.bind ev2 (Loops.Ev.succ ?_)
        simp only[spec_FinishLine.l0,if_true]
        exact ev3
theorem go_ok {s n:Int} {I O:List Int} {w:Int} {st:Bool} (hl:lineOk s n I O w=true):lstep s n I O w st 5=(s,n,I,O,w,false,true):=by
  unfold lstep
  rw[if_pos hl,if_neg (by omega),if_neg (by omega),if_neg (by omega),if_neg (by omega),if_pos rfl]
theorem jobsOk_iff (L:List S26):jobsOk L=true ↔ L.length≤12∧(∀x ∈ L,jok x.f0 x.f1 x.f2 x.f4=true)∧(L.map (fun x=>x.f0)).Pairwise (fun a b=>a≠b):=by
  unfold jobsOk
  rw[Bool.and_eq_true,decide_eq_true_eq,List.all_eq_true,List.pairwise_map,List.pairwise_iff_getElem]
  constructor
  · rintro⟨h1,h2⟩
    refine⟨h1,fun x hx=> ?_,fun i j hi hj hij=> ?_⟩
    · obtain⟨i,hi,rfl⟩:=List.getElem_of_mem hx
      have:=h2 i (List.mem_range.2 hi)
      rw[Bool.and_eq_true]at this
      have:=this.1
      unfold jokAt at this
      simpa[List.getD,List.getElem?_eq_getElem hi]using this
    · have:=h2 j (List.mem_range.2 hj)
      rw[Bool.and_eq_true]at this
      have:=this.2
      unfold newAt at this
      rw[List.all_eq_true]at this
      have:=of_decide_eq_true (this i (List.mem_range.2 hij))
      simpa[List.getD,List.getElem?_eq_getElem hi,List.getElem?_eq_getElem hj]using this
  · rintro⟨h1,h2,h3⟩
    refine⟨h1,fun i hi=> ?_⟩
    have hi:=List.mem_range.1 hi
    rw[Bool.and_eq_true]
    constructor
    · have:=h2 _ (List.getElem_mem hi)
      unfold jokAt
      simpa[List.getD,List.getElem?_eq_getElem hi]using this
    · unfold newAt
      rw[List.all_eq_true]
      intro j hj
      have hj:=List.mem_range.1 hj
      have:=h3 j i (by omega) hi hj
      apply decide_eq_true
      simpa[List.getD,List.getElem?_eq_getElem hi,List.getElem?_eq_getElem (show j<L.length by omega)]using this
def addJ (L:List S26) (j:S26):List S26×Bool:=if jobsOk L=true then(if jobsOk (L++ [j])=true then(L++ [j],true) else(L,false)) else(L,false)
def pickJ (L:List S26) (b:Int) (i:Nat):Int:=if(L.getD i z26).f5=true then b else if b<0 then(i:Int) else if(L.getD i z26).f4 >(L.getD b.toNat z26).f4 then(i:Int) else b
def bestJ (L:List S26) (i:Nat):Int:=(List.range i).foldl (pickJ L) (-1)
def nextJ (L:List S26):Int:=if jobsOk L=true then bestJ L L.length else -1
theorem bestJ_succ (L:List S26) (i:Nat):bestJ L (i+1)=pickJ L (bestJ L i) i:=by simp[bestJ,List.range_succ]
theorem bestJ_in (L:List S26):∀i,-1≤bestJ L i∧bestJ L i<i:=by
  intro i
  induction i with
  |zero=>simp[bestJ]
  |succ i ih=>
    rw[bestJ_succ]
    unfold pickJ
    repeat' split
    all_goals omega
theorem nextJ_in (L:List S26): -1≤nextJ L∧nextJ L<L.length:=by
  unfold nextJ
  split
  · exact bestJ_in L L.length
  · omega
def jobJ (L:List S26):S26:=if nextJ L<0 then⟨0,0,0,false,0,false⟩ else L.getD (nextJ L).toNat z26
def restJ (L:List S26):List S26:=if nextJ L<0 then L else L.eraseIdx (nextJ L).toNat
def findJ (L:List S26) (a:Int):Int:=if jobsOk L=true then jobIdx L a 0 else -1
def freeJ (x:S26):S26:=⟨x.f0,x.f1,x.f2,x.f3,x.f4,false⟩
def relJ (L:List S26) (a:Int):List S26×Bool:=if findJ L a<0 then(L,false) else if(L.getD (findJ L a).toNat z26).f5=true then(L.set (findJ L a).toNat (freeJ (L.getD (findJ L a).toNat z26)),true) else(L,false)
theorem jobIdx_in:∀(l:List S26) (b a:Int),0≤a→jobIdx l b a= -1∨(a≤jobIdx l b a∧jobIdx l b a<a+l.length):=by
  intro l
  induction l with
  |nil=>intro b a _;exact .inl rfl
  |cons y ys ih=>
    intro b a ha
    unfold jobIdx
    split
    · right;simp;omega
    · rcases ih b (a+1) (by omega) with h|h
      · exact .inl h
      · right;simp;omega
theorem findJ_in (L:List S26) (a:Int): -1≤findJ L a∧findJ L a<L.length:=by
  unfold findJ
  split
  · rcases jobIdx_in L a 0 (by omega) with h|h<;>omega
  · omega
theorem addJ_ok {L:List S26} {j:S26} (h:jobsOk L=true):jobsOk (addJ L j).1=true:=by
  unfold addJ
  rw[if_pos h]
  split
  · assumption
  · exact h
theorem restJ_ok {L:List S26} (h:jobsOk L=true):jobsOk (restJ L)=true:=by
  unfold restJ
  split
  · exact h
  · rw[jobsOk_iff]at h ⊢
    obtain⟨h1,h2,h3⟩:=h
    have hs:=List.eraseIdx_sublist L (nextJ L).toNat
    exact⟨Nat.le_trans hs.length_le h1,fun x hx=>h2 x (hs.subset hx),h3.sublist (hs.map _)⟩
theorem jobJ_ok {L:List S26} (h:jobsOk L=true) (h0:¬nextJ L<0):jok (jobJ L).f0 (jobJ L).f1 (jobJ L).f2 (jobJ L).f4=true:=by
  have hi:=nextJ_in L
  unfold jobJ
  rw[if_neg h0]
  exact((jobsOk_iff L).1 h).2.1 _ (Loops.getD_mem L _ _ (by omega))
theorem relJ_ok {L:List S26} (a:Int) (h:jobsOk L=true):jobsOk (relJ L a).1=true:=by
  unfold relJ
  have hi:=findJ_in L a
  split
  · exact h
  split
  · rename_i h0 _
    rw[jobsOk_iff]at h ⊢
    obtain⟨h1,h2,h3⟩:=h
    have hlt:(findJ L a).toNat<L.length:=by omega
    refine⟨by simpa using h1,fun x hx=> ?_,?_⟩
    · rcases List.mem_or_eq_of_mem_set hx with h|rfl
      · exact h2 x h
      · have:=h2 _ (Loops.getD_mem L z26 _ hlt)
        exact this
    · have e:(L.set (findJ L a).toNat (freeJ (L.getD (findJ L a).toNat z26))).map (fun x=>x.f0)=L.map (fun x=>x.f0):=by
        rw[List.map_set]
        apply List.ext_getElem
        · simp
        · intro n h1 h2
          rw[List.getElem_set]
          split
          · rename_i e
            subst e
            simp[freeJ,List.getD,List.getElem?_eq_getElem hlt]
          · rfl
      rw[e]
      exact h3
  · exact h
theorem sclone_eq (L:List S26) (h:L.length≤4194304):spec_l29Copy.f L=some L:=by
  unfold spec_l29Copy.f
  simp only[Option.bind_some,List.length_nil,List.nil_append]
  rw[if_pos (by omega)]
theorem sadd_eq (L:List S26) (i p c:Int) (d:Bool) (r:Int) (h:Bool) (hL:L.length≤4194303):Ev (fun k=>spec_AddJob.f k L i p c d r h) (addJ L ⟨i,p,c,d,r,h⟩):=by
  unfold spec_AddJob.f addJ
  simp only[sclone_eq L (by omega),Option.bind_some,if_pos (show L.length+([(⟨i,p,c,d,r,h⟩:S26)]:List S26).length<2932031007402 by simp;omega)]
  refine Ev.bind (sjobs_eq L (by omega)) ?_
  by_cases h1:jobsOk L=true
  · simp only[if_pos h1]
    refine Ev.bind (sjobs_eq _ (by simp;omega)) ?_
    by_cases h2:jobsOk (L++ [(⟨i,p,c,d,r,h⟩:S26)])=true
    · simp only[if_pos h2];exact Ev.now _
    · simp only[if_neg h2];exact Ev.now _
  · simp only[if_neg h1];exact Ev.now _
theorem snext_eq (L:List S26) (hL:L.length≤4194304):Ev (fun k=>spec_NextJob.f k L) (nextJ L):=by
  unfold spec_NextJob.f nextJ
  by_cases h1:jobsOk L=true
  · rw[if_pos h1]
    have hl:=((jobsOk_iff L).1 h1).1
    have key:∀(d i:Nat),i+d=L.length→Ev (fun k=>spec_NextJob.l0 k L (bestJ L i) (i:Int)) (bestJ L L.length):=by
      intro d
      induction d with
      |zero=>
        intro i hi
        obtain rfl:i=L.length:=by omega
        refine Ev.step (f:=fun k=>spec_NextJob.j1 k L (bestJ L L.length) (L.length:Int) false) (fun k=> ?_) (Loops.Ev.one (fun k=>by simp only[spec_NextJob.j1,Bool.false_eq_true,if_false]))
        simp only[spec_NextJob.l0]
        rw[if_neg (by omega)]
      |succ d ih=>
        intro i hi
        have hb:=bestJ_in L i
        refine Loops.Ev.succ ?_
        simp only[spec_NextJob.l0,if_pos (show(i:Int)<(L.length:Int) by omega)]
        refine Ev.bind (sjobs_eq L hL) ?_
        rw[h1]
        refine Ev.step (fun k=> ?_) (ih (i+1) (by omega))
        simp only[spec_NextJob.j1,if_true]
        rw[if_pos (show 0≤(i:Int) by omega),if_pos (show(i:Int)<(L.length:Int) by omega),rdJ,bestJ_succ,Loops.wrap_succ (n:=L.length) (by omega) (by omega)]
        unfold pickJ
        by_cases h5:(L.getD i z26).f5=true
        · rw[if_pos h5,if_pos h5]
        · rw[if_neg h5,if_neg h5]
          by_cases h6:bestJ L i<0
          · rw[if_pos h6,if_pos h6]
          · rw[if_neg h6,if_neg h6,if_pos (by omega),if_pos (by omega)]
            have e:rd_T26 L (bestJ L i)=L.getD (bestJ L i).toNat z26:=rfl
            rw[e]
            by_cases h7:(L.getD i z26).f4 >(L.getD (bestJ L i).toNat z26).f4
            · rw[if_pos h7,if_pos h7]
            · rw[if_neg h7,if_neg h7]
    have:=key L.length 0 (by omega)
    simpa[bestJ]using this
  · rw[if_neg h1]
    refine Loops.Ev.succ ?_
    simp only[spec_NextJob.l0]
    by_cases h0:(0:Int)<(L.length:Int)
    · simp only[if_pos h0]
      refine Ev.bind (sjobs_eq L hL) ?_
      rw[Bool.eq_false_iff.mpr h1]
      exact Loops.Ev.one (fun k=>by simp only[spec_NextJob.j1,Bool.false_eq_true,if_false])
    · simp only[if_neg h0]
      exact Loops.Ev.one (fun k=>by simp only[spec_NextJob.j1,Bool.false_eq_true,if_false])
theorem stake_eq (L:List S26) (hL:L.length≤4194304):Ev (fun k=>spec_TakeJob.f k L) (restJ L,(jobJ L).f0,(jobJ L).f1,(jobJ L).f2,(jobJ L).f3,(jobJ L).f4,(jobJ L).f5,decide (0≤nextJ L)):=by
  unfold spec_TakeJob.f
  refine Ev.bind (snext_eq L hL) ?_
  have hi:=nextJ_in L
  unfold restJ jobJ
  by_cases h:nextJ L<0
  · simp only[if_pos h,sclone_eq L hL,Option.bind_some,decide_eq_false (show ¬0≤nextJ L by omega)]
    exact Ev.now _
  · have e2:rd_T26 L (nextJ L)=L.getD (nextJ L).toNat z26:=rfl
    have e3:(L.take (nextJ L).toNat).length≤4194304:=by rw[List.length_take];omega
    simp only[if_neg h,decide_eq_true (show 0≤nextJ L by omega),if_pos (show 0≤nextJ L by omega),if_pos (show nextJ L≤(L.length:Int) by omega),sclone_eq _ e3,Option.bind_some]
    rw[Loops.wrap_in (show -9223372036854775808≤nextJ L+1 by omega) (by omega)]
    have e4:L.take (nextJ L).toNat++L.drop (nextJ L+1).toNat=L.eraseIdx (nextJ L).toNat:=by
      rw[List.eraseIdx_eq_take_drop_succ,show(nextJ L+1).toNat=(nextJ L).toNat+1 by omega]
    simp only[if_pos (show 0≤nextJ L+1 by omega),if_pos (show nextJ L+1≤(L.length:Int) by omega),if_pos (show(L.take (nextJ L).toNat).length+(L.drop (nextJ L+1).toNat).length<2932031007402 by rw[List.length_take,List.length_drop];omega),if_pos (show nextJ L<(L.length:Int) by omega),e2,e4]
    exact Ev.now _
theorem sfind_eq (L:List S26) (a:Int) (hL:L.length≤4194304):Ev (fun k=>spec_l29Find.f k L a) (findJ L a):=by
  unfold spec_l29Find.f findJ
  by_cases h1:jobsOk L=true
  · rw[if_pos h1]
    have key:∀(d i:Nat),i+d=L.length→Ev (fun k=>spec_l29Find.l0 k L a (i:Int)) (jobIdx (L.drop i) a (i:Int)):=by
      intro d
      induction d with
      |zero=>
        intro i hi
        obtain rfl:i=L.length:=by omega
        rw[List.drop_length]
        refine Ev.step (f:=fun k=>spec_l29Find.j1 k L a (L.length:Int) false) (fun k=> ?_) (Loops.Ev.one (fun k=>by simp only[spec_l29Find.j1,Bool.false_eq_true,if_false];rfl))
        simp only[spec_l29Find.l0]
        rw[if_neg (by omega)]
      |succ d ih=>
        intro i hi
        rw[Loops.drop_cons_getD L z26 i (by omega)]
        refine Loops.Ev.succ ?_
        simp only[spec_l29Find.l0,if_pos (show(i:Int)<(L.length:Int) by omega)]
        refine Ev.bind (sjobs_eq L hL) ?_
        rw[h1]
        refine Loops.Ev.succ ?_
        simp only[spec_l29Find.j1,if_true,if_pos (show 0≤(i:Int) by omega),if_pos (show(i:Int)<(L.length:Int) by omega),rdJ,Loops.wrap_succ (n:=L.length) (i:=i) (by omega) (by omega)]
        unfold jobIdx
        by_cases h2:(L.getD i z26).f0=a
        · simp only[if_pos h2];exact Ev.now _
        · simp only[if_neg h2]
          exact ih (i+1) (by omega)
    simpa using key L.length 0 (by omega)
  · rw[if_neg h1]
    refine Loops.Ev.succ ?_
    simp only[spec_l29Find.l0]
    by_cases h0:(0:Int)<(L.length:Int)
    · simp only[if_pos h0]
      refine Ev.bind (sjobs_eq L hL) ?_
      rw[Bool.eq_false_iff.mpr h1]
      exact Loops.Ev.one (fun k=>by simp only[spec_l29Find.j1,Bool.false_eq_true,if_false])
    · simp only[if_neg h0]
      exact Loops.Ev.one (fun k=>by simp only[spec_l29Find.j1,Bool.false_eq_true,if_false])
theorem srel_eq (L:List S26) (a:Int) (hL:L.length≤4194304):Ev (fun k=>spec_ReleaseJob.f k L a) (relJ L a):=by
  unfold spec_ReleaseJob.f relJ
  have hi:=findJ_in L a
  simp only[sclone_eq L hL,Option.bind_some]
  refine Ev.bind (sfind_eq L a hL) ?_
  by_cases h2:findJ L a<0
  · simp only[if_pos h2];exact Ev.now _
  · have e2:rd_T26 L (findJ L a)=L.getD (findJ L a).toNat z26:=rfl
    simp only[if_neg h2,if_pos (show 0≤findJ L a by omega),if_pos (show findJ L a<(L.length:Int) by omega),e2]
    by_cases h3:(L.getD (findJ L a).toNat z26).f5=true
    · simp only[if_pos h3];exact Ev.now _
    · simp only[if_neg h3];exact Ev.now _
abbrev Mach:=List S26×Int×Int×Int×Bool×Int×Bool×Int×Int×List Int×List Int×Int×Bool×Int
abbrev MachN:=List S26×Int×Int×Int×Bool×Int×Bool×Int×Int×List Int×List Int×Int×Bool×Int×Int
def bitJ (b:Bool):Int:=if b=true then 1 else 0
def canTake (L:List S26) (s n:Int) (I O:List Int) (w:Int):Bool:=decide (0≤nextJ L) && (lineOk s n I O w && ((O.length:Int)==s) && decide (jsh (jobJ L).f0 (jobJ L).f1 (jobJ L).f2 (jobJ L).f3 (jobJ L).f4≤40))
def act1 (L:List S26) (i p c:Int) (d:Bool) (r:Int) (h:Bool) (s n:Int) (I O:List Int) (w:Int) (st:Bool) (P:Int) (K a b e:Int):MachN:=
  if K=1 then((addJ L ⟨a,b,1,false,e,e==9⟩).1,i,p,c,d,r,h,s,n,I,O,w,st,P,bitJ (addJ L ⟨a,b,1,false,e,e==9⟩).2)
  else if K=2 then(if canTake L s n I O w=true then(restJ L,(jobJ L).f0,(jobJ L).f1,(jobJ L).f2,(jobJ L).f3,(jobJ L).f4,(jobJ L).f5,jsh (jobJ L).f0 (jobJ L).f1 (jobJ L).f2 (jobJ L).f3 (jobJ L).f4,0,[],[],0,false,mn 100000 (P+O.length),(jobJ L).f0) else(L,i,p,c,d,r,h,s,n,I,O,w,st,P,0))
  else if K=3 then(L,i,p,c,d,r,h,(lstep s n I O w st a).1,(lstep s n I O w st a).2.1,(lstep s n I O w st a).2.2.1,(lstep s n I O w st a).2.2.2.1,(lstep s n I O w st a).2.2.2.2.1,(lstep s n I O w st a).2.2.2.2.2.1,P,bitJ (lstep s n I O w st a).2.2.2.2.2.2)
  else if K=4 then(L,i,p,c,d,r,h,s,s,[],Loops.iota 0 s.toNat,w,false,P,s)
  else((relJ L a).1,i,p,c,d,r,h,s,n,I,O,w,st,P,bitJ (relJ L a).2)
def doAct (L:List S26) (i p c:Int) (d:Bool) (r:Int) (h:Bool) (s n:Int) (I O:List Int) (w:Int) (st:Bool) (P:Int) (K a b e:Int):MachN:=
  if mok L i p c d r h s n I O w P=true then(if aok K a b e=true then act1 L i p c d r h s n I O w st P K a b e else(L,i,p,c,d,r,h,s,n,I,O,w,st,P,-1)) else(L,i,p,c,d,r,h,s,n,I,O,w,st,P,-1)
theorem mok_parts {L:List S26} {i p c:Int} {d:Bool} {r:Int} {h:Bool} {s n:Int} {I O:List Int} {w P:Int} (H:mok L i p c d r h s n I O w P=true):jobsOk L=true∧lineOk s n I O w=true∧(0≤P∧P≤100000)∧nowOk i p c d r h s=true:=by
  unfold mok at H
  simp only[Bool.and_eq_true,decide_eq_true_eq]at H
  exact H
theorem mok_mk {L:List S26} {i p c:Int} {d:Bool} {r:Int} {h:Bool} {s n:Int} {I O:List Int} {w P:Int} (h1:jobsOk L=true) (h2:lineOk s n I O w=true) (h3:0≤P∧P≤100000) (h4:nowOk i p c d r h s=true):mok L i p c d r h s n I O w P=true:=by
  unfold mok
  rw[h1,h2,h4,decide_eq_true h3]
  rfl
theorem mok_len {L:List S26} {i p c:Int} {d:Bool} {r:Int} {h:Bool} {s n:Int} {I O:List Int} {w P:Int} (H:mok L i p c d r h s n I O w P=true):L.length≤12∧I.length≤1048576∧O.length≤1048576:=by
  obtain⟨h1,h2,_,_⟩:=mok_parts H
  exact⟨((jobsOk_iff L).1 h1).1,good_len h2⟩
def glueM {α:Type}:Mach→α→List S26×Int×Int×Int×Bool×Int×Bool×Int×Int×List Int×List Int×Int×Bool×Int×α
  |(L,i,p,c,d,r,h,s,n,I,O,w,st,P),v=>(L,i,p,c,d,r,h,s,n,I,O,w,st,P,v)
def mokM:Mach→Bool
  |(L,i,p,c,d,r,h,s,n,I,O,w,_,P)=>mok L i p c d r h s n I O w P
theorem act1_mok {L:List S26} {i p c:Int} {d:Bool} {r:Int} {h:Bool} {s n:Int} {I O:List Int} {w:Int} {st:Bool} {P:Int} (K a b e:Int) (hw:lineOk s s [] (Loops.iota 0 s.toNat) w=true) (H:mok L i p c d r h s n I O w P=true):
    ∃(M:Mach) (v:Int),act1 L i p c d r h s n I O w st P K a b e=glueM M v∧mokM M=true:=by
  obtain⟨h1,h2,h3,h4⟩:=mok_parts H
  unfold act1
  split
  · exact⟨(_,_,_,_,_,_,_,_,_,_,_,_,_,_),_,rfl,mok_mk (addJ_ok h1) h2 h3 h4⟩
  split
  · split
    · rename_i hc
      unfold canTake at hc
      simp only[Bool.and_eq_true,decide_eq_true_eq]at hc
      have hj:=jobJ_ok h1 (show ¬nextJ L<0 by omega)
      have hs:=jsh_in (jobJ L).f0 (jobJ L).f1 (jobJ L).f2 (jobJ L).f3 (jobJ L).f4
      refine⟨(_,_,_,_,_,_,_,_,_,_,_,_,_,_),_,rfl,mok_mk (restJ_ok h1) (lineOk_mk ⟨by omega,by simp,by omega,by simp⟩ rfl) ?_ ?_⟩
      · unfold mn;split<;>omega
      · unfold nowOk
        have hj2:=jok_true hj
        rw[if_neg (by simp;intro hz;omega),hj,decide_eq_true (show jsh (jobJ L).f0 (jobJ L).f1 (jobJ L).f2 (jobJ L).f3 (jobJ L).f4≤40 by omega)]
        simp
    · exact⟨(_,_,_,_,_,_,_,_,_,_,_,_,_,_),_,rfl,H⟩
  split
  · obtain⟨n2,I2,O2,w2,st2,ok,e2,h5,_⟩:=lstep_good s n I O w st a h2
    rw[e2]
    exact⟨(_,_,_,_,_,_,_,_,_,_,_,_,_,_),_,rfl,mok_mk h1 h5 h3 h4⟩
  split
  · exact⟨(_,_,_,_,_,_,_,_,_,_,_,_,_,_),_,rfl,mok_mk h1 hw h3 h4⟩
  · exact⟨(_,_,_,_,_,_,_,_,_,_,_,_,_,_),_,rfl,mok_mk (relJ_ok a h1) h2 h3 h4⟩
theorem iota_seq:∀(n:Nat) (a:Int),seqB a (Loops.iota a n)=true:=by
  intro n
  induction n with
  |zero=>intro a;rfl
  |succ n ih=>
    intro a
    rw[Loops.iota_succ,seqB_append,ih a,Loops.iota_len]
    simp[seqB]
theorem iota_ok {s n:Int} {I O:List Int} {w:Int} (h:lineOk s n I O w=true):lineOk s s [] (Loops.iota 0 s.toNat) w=true:=by
  have hp:=lineOk_parts h
  refine lineOk_mk ⟨by omega,by simp,by omega,?_⟩ ?_
  · rw[Loops.iota_len];simp;omega
  · rw[List.append_nil];exact iota_seq _ _
theorem doAct_mok {L:List S26} {i p c:Int} {d:Bool} {r:Int} {h:Bool} {s n:Int} {I O:List Int} {w:Int} {st:Bool} {P:Int} (K a b e:Int) (H:mok L i p c d r h s n I O w P=true):
    ∃(M:Mach) (v:Int),doAct L i p c d r h s n I O w st P K a b e=glueM M v∧mokM M=true:=by
  unfold doAct
  rw[if_pos H]
  split
  · exact act1_mok K a b e (iota_ok (mok_parts H).2.1) H
  · exact⟨(L,i,p,c,d,r,h,s,n,I,O,w,st,P),-1,rfl,H⟩
theorem scopyM_eq (L:List S26) (i p c:Int) (d:Bool) (r:Int) (h:Bool) (s n:Int) (I O:List Int) (w:Int) (st:Bool) (P:Int) (hL:L.length≤4194304) (hI:I.length≤1048576) (hO:O.length≤1048576):spec_l39Copy.f L i p c d r h s n I O w st P=some (L,i,p,c,d,r,h,s,n,I,O,w,st,P):=by
  unfold spec_l39Copy.f
  simp only[sclone_eq L hL,scopyLine_eq s n I O w st hI hO,Option.bind_some]
theorem sbit_eq (b:Bool):spec_l39Bool.f b=some (bitJ b):=by cases b<;>rfl
theorem sfin_good (s n:Int) (I O:List Int) (w:Int) (st:Bool) (hl:lineOk s n I O w=true):Ev (fun k=>spec_FinishLine.f k s n I O w st) (s,s,[],Loops.iota 0 s.toNat,w,false)∧lineOk s s [] (Loops.iota 0 s.toNat) w=true:=by
  have hp:=lineOk_parts hl
  have hg:=good_len hl
  obtain⟨O3,ev,h3⟩:=sfin_l1 s w 1000 true n I O hl (by simp) (by simp only[if_true];omega)
  rw[full_one h3]at ev h3
  refine⟨?_,h3⟩
  unfold spec_FinishLine.f
  have eg:=sstep_eq s n I O w st 5 hg.1 hg.2
  rw[go_ok hl]at eg
  refine Ev.bind eg (Loops.Ev.succ ?_)
  simp only[spec_FinishLine.l0,if_true]
  exact ev
theorem sdone_eq (s n:Int) (I O:List Int) (w:Int) (st:Bool) (hI:I.length≤1048576) (hO:O.length≤1048576):Ev (fun k=>spec_IsDone.f k s n I O w st) (lineOk s n I O w && ((O.length:Int)==s)):=by
  unfold spec_IsDone.f
  refine Ev.bind (sline_eq s n I O w st hI hO) ?_
  by_cases hl:lineOk s n I O w=true
  · simp only[if_pos hl,hl,Bool.true_and];exact Ev.now _
  · simp only[if_neg hl,Bool.eq_false_iff.mpr hl,Bool.false_and];exact Ev.now _
theorem stakeM_eq (L:List S26) (i p c:Int) (d:Bool) (r:Int) (h:Bool) (s n:Int) (I O:List Int) (w:Int) (st:Bool) (P:Int) (hL:L.length≤4194304) (hI:I.length≤1048576) (hO:O.length≤1048576) (hP:0≤P∧P≤100000):
    Ev (fun k=>spec_l39Take.f k L i p c d r h s n I O w st P) (if canTake L s n I O w=true then(restJ L,(jobJ L).f0,(jobJ L).f1,(jobJ L).f2,(jobJ L).f3,(jobJ L).f4,(jobJ L).f5,jsh (jobJ L).f0 (jobJ L).f1 (jobJ L).f2 (jobJ L).f3 (jobJ L).f4,0,[],[],0,false,mn 100000 (P+O.length),(jobJ L).f0) else(L,i,p,c,d,r,h,s,n,I,O,w,st,P,0)):=by
  unfold spec_l39Take.f canTake
  refine Ev.bind (stake_eq L hL) ?_
  by_cases h0:0≤nextJ L
  · simp only[decide_eq_true h0,if_true,Bool.true_and]
    refine Ev.bind (sdone_eq s n I O w st hI hO) ?_
    by_cases h1:(lineOk s n I O w && ((O.length:Int)==s))=true
    · simp only[if_pos h1,h1,Bool.true_and]
      refine Ev.bind (sjsh_eq (jobJ L).f0 (jobJ L).f1 (jobJ L).f2 (jobJ L).f3 (jobJ L).f4 (jobJ L).f5) ?_
      have hs:=jsh_in (jobJ L).f0 (jobJ L).f1 (jobJ L).f2 (jobJ L).f3 (jobJ L).f4
      refine Loops.Ev.succ ?_
      by_cases h2:jsh (jobJ L).f0 (jobJ L).f1 (jobJ L).f2 (jobJ L).f3 (jobJ L).f4≤40
      · simp only[spec_l39Take.j0,decide_eq_false (show ¬jsh (jobJ L).f0 (jobJ L).f1 (jobJ L).f2 (jobJ L).f3 (jobJ L).f4 >40 by omega),decide_eq_true h2,Bool.false_eq_true,if_false,if_true]
        refine Ev.bind (sjsh_eq (jobJ L).f0 (jobJ L).f1 (jobJ L).f2 (jobJ L).f3 (jobJ L).f4 (jobJ L).f5) ?_
        have e:newLine (jsh (jobJ L).f0 (jobJ L).f1 (jobJ L).f2 (jobJ L).f3 (jobJ L).f4)=(jsh (jobJ L).f0 (jobJ L).f1 (jobJ L).f2 (jobJ L).f3 (jobJ L).f4,0,[],[],0,false,true):=by unfold newLine;rw[if_pos ⟨hs.1,h2⟩]
        simp only[snew_eq,e,Option.bind_some]
        rw[Loops.wrap_in (show -9223372036854775808≤P+(O.length:Int) by omega) (by omega)]
        exact Ev.now _
      · simp only[spec_l39Take.j0,decide_eq_true (show jsh (jobJ L).f0 (jobJ L).f1 (jobJ L).f2 (jobJ L).f3 (jobJ L).f4 >40 by omega),decide_eq_false h2,Bool.false_eq_true,if_false,if_true]
        exact Ev.now _
    · simp only[if_neg h1,Bool.eq_false_iff.mpr h1,Bool.false_and,Bool.false_eq_true,if_false]
      exact Loops.Ev.one (fun k=>by simp only[spec_l39Take.j0,if_true])
  · simp only[decide_eq_false h0,Bool.false_and,Bool.false_eq_true,if_false]
    exact Loops.Ev.one (fun k=>by simp only[spec_l39Take.j0,if_true])
theorem aok_five {K a b e:Int} (h:aok K a b e=true) (h1:¬K=1) (h2:¬K=2) (h3:¬K=3) (h4:¬K=4):K=5:=by
  unfold aok at h
  rw[if_neg h1,if_neg (by omega),if_neg h3]at h
  by_cases h5:K=5
  · exact h5
  · rw[if_neg h5]at h;exact absurd h (by simp)
theorem sdoact_eq (L:List S26) (i p c:Int) (d:Bool) (r:Int) (h:Bool) (s n:Int) (I O:List Int) (w:Int) (st:Bool) (P K a b e:Int) (hL:L.length≤4194303) (hI:I.length≤1048576) (hO:O.length≤1048576):
    Ev (fun k=>spec_DoAct.f k L i p c d r h s n I O w st P K a b e) (doAct L i p c d r h s n I O w st P K a b e):=by
  unfold spec_DoAct.f doAct
  simp only[scopyM_eq L i p c d r h s n I O w st P (by omega) hI hO,Option.bind_some]
  refine Ev.bind (smok_eq L i p c d r h s n I O w st P (by omega) hI hO) ?_
  by_cases hm:mok L i p c d r h s n I O w P=true
  · simp only[if_pos hm]
    obtain⟨m1,m2,m3,m4⟩:=mok_parts hm
    refine Ev.bind (saok_eq K a b e) ?_
    by_cases ha:aok K a b e=true
    · simp only[ha,Bool.not_true,if_true]
      refine Loops.Ev.succ ?_
      simp only[spec_DoAct.j0,Bool.false_eq_true,if_false]
      unfold act1
      by_cases h1:K=1
      · simp only[if_pos h1,spec_l39Job.f,Option.bind_some]
        refine Ev.bind (sadd_eq L a b 1 false e (e==9) hL) ?_
        simp only[sbit_eq,Option.bind_some]
        exact Ev.now _
      simp only[if_neg h1]
      by_cases h2:K=2
      · simp only[if_pos h2]
        refine Ev.bind (stakeM_eq L i p c d r h s n I O w st P (by omega) hI hO m3) ?_
        split<;>exact Ev.now _
      simp only[if_neg h2]
      by_cases h3:K=3
      · simp only[if_pos h3]
        refine Ev.bind (sstep_eq s n I O w st a hI hO) ?_
        simp only[sbit_eq,Option.bind_some]
        exact Ev.now _
      simp only[if_neg h3]
      by_cases h4:K=4
      · simp only[if_pos h4]
        refine Ev.bind (sfin_good s n I O w st m2).1 ?_
        have hp:=lineOk_parts m2
        simp only[Loops.iota_len,show((s.toNat:Nat):Int)=s by omega]
        exact Ev.now _
      simp only[if_neg h4,if_pos (aok_five ha h1 h2 h3 h4)]
      refine Ev.bind (srel_eq L a (by omega)) ?_
      simp only[sbit_eq,Option.bind_some]
      exact Ev.now _
    · simp only[Bool.eq_false_iff.mpr ha,Bool.not_false,Bool.false_eq_true,if_false]
      exact Loops.Ev.one (fun k=>by simp only[spec_DoAct.j0,if_true])
  · simp only[if_neg hm]
    exact Loops.Ev.one (fun k=>by simp only[spec_DoAct.j0,if_true])
def toM:MachN→Mach×Int
  |(L,i,p,c,d,r,h,s,n,I,O,w,st,P,v)=>((L,i,p,c,d,r,h,s,n,I,O,w,st,P),v)
def runM:Mach→List S55→Mach×List Int
  |M,[]=>(M,[])
  |(L,i,p,c,d,r,h,s,n,I,O,w,st,P),x::xs=>
    ((runM (toM (doAct L i p c d r h s n I O w st P x.f0 x.f1 x.f2 x.f3)).1 xs).1,(toM (doAct L i p c d r h s n I O w st P x.f0 x.f1 x.f2 x.f3)).2::(runM (toM (doAct L i p c d r h s n I O w st P x.f0 x.f1 x.f2 x.f3)).1 xs).2)
theorem runM_cons {L:List S26} {i p c:Int} {d:Bool} {r:Int} {h:Bool} {s n:Int} {I O:List Int} {w:Int} {st:Bool} {P:Int} {x:S55} {xs:List S55} {M:Mach} {v:Int} (e:doAct L i p c d r h s n I O w st P x.f0 x.f1 x.f2 x.f3=glueM M v):runM (L,i,p,c,d,r,h,s,n,I,O,w,st,P) (x::xs)=((runM M xs).1,v::(runM M xs).2):=by
  obtain⟨L2,i2,p2,c2,d2,r2,h2,s2,n2,I2,O2,w2,st2,P2⟩:=M
  simp only[runM,e,glueM,toM]
theorem runM_mok:∀(xs:List S55) (M:Mach),mokM M=true→mokM (runM M xs).1=true∧(runM M xs).2.length=xs.length:=by
  intro xs
  induction xs with
  |nil=>intro M hM;exact⟨hM,rfl⟩
  |cons x xs ih=>
    intro M hM
    obtain⟨L,i,p,c,d,r,h,s,n,I,O,w,st,P⟩:=M
    obtain⟨M2,v,e,h2⟩:=doAct_mok (st:=st) x.f0 x.f1 x.f2 x.f3 (show mok L i p c d r h s n I O w P=true from hM)
    rw[runM_cons e]
    obtain⟨a,b⟩:=ih M2 h2
    exact⟨a,by simp[b]⟩
theorem rdA (l:List S55) (i:Nat):rd_T55 l (i:Int)=l.getD i z55:=by simp[rd_T55]
theorem srun_loop (A:List S55) (hA:A.length≤40):∀(d i:Nat) (N:List Int) (M:Mach),i+d=A.length→N.length≤i→mokM M=true→
    Ev (fun k=>spec_RunActs.l0 k A N (i:Int) M.1 M.2.1 M.2.2.1 M.2.2.2.1 M.2.2.2.2.1 M.2.2.2.2.2.1 M.2.2.2.2.2.2.1 M.2.2.2.2.2.2.2.1 M.2.2.2.2.2.2.2.2.1 M.2.2.2.2.2.2.2.2.2.1 M.2.2.2.2.2.2.2.2.2.2.1 M.2.2.2.2.2.2.2.2.2.2.2.1 M.2.2.2.2.2.2.2.2.2.2.2.2.1 M.2.2.2.2.2.2.2.2.2.2.2.2.2) (glueM (runM M (A.drop i)).1 (N++(runM M (A.drop i)).2)):=by
  intro d
  induction d with
  |zero=>
    intro i N M hi hN hM
    obtain rfl:i=A.length:=by omega
    obtain⟨L,i,p,c,d,r,h,s,n,I,O,w,st,P⟩:=M
    rw[List.drop_length]
    refine Loops.Ev.one (fun k=> ?_)
    simp only[spec_RunActs.l0,runM,glueM,List.append_nil,if_neg (show ¬(A.length:Int)<(A.length:Int) by omega)]
  |succ d ih=>
    intro i N M hi hN hM
    obtain⟨L,j,p,c,D,r,h,s,n,I,O,w,st,P⟩:=M
    have hl:=mok_len (show mok L j p c D r h s n I O w P=true from hM)
    obtain⟨M2,v,e,h2⟩:=doAct_mok (st:=st) (A.getD i z55).f0 (A.getD i z55).f1 (A.getD i z55).f2 (A.getD i z55).f3 (show mok L j p c D r h s n I O w P=true from hM)
    rw[Loops.drop_cons_getD A z55 i (by omega),runM_cons e]
    have nx:=ih (i+1) (N++ [v]) M2 (by omega) (by simp;omega) h2
    refine Loops.Ev.succ ?_
    simp only[spec_RunActs.l0,if_pos (show(i:Int)<(A.length:Int) by omega),if_pos (show 0≤(i:Int) by omega),rdA]
    refine Ev.bind (sdoact_eq L j p c D r h s n I O w st P _ _ _ _ (by omega) hl.2.1 hl.2.2) ?_
    rw[e]
    obtain⟨L2,i2,p2,c2,d2,r2,h2,s2,n2,I2,O2,w2,st2,P2⟩:=M2
    simp only[glueM,if_pos (show N.length<17592186044416 by omega),Loops.wrap_succ (n:=A.length) (i:=i) (by omega) (by omega)]
    simpa[glueM]using nx
theorem srun_eq (M:Mach) (A:List S55) (hA:A.length≤40) (hM:mokM M=true):Ev (fun k=>spec_RunActs.f k M.1 M.2.1 M.2.2.1 M.2.2.2.1 M.2.2.2.2.1 M.2.2.2.2.2.1 M.2.2.2.2.2.2.1 M.2.2.2.2.2.2.2.1 M.2.2.2.2.2.2.2.2.1 M.2.2.2.2.2.2.2.2.2.1 M.2.2.2.2.2.2.2.2.2.2.1 M.2.2.2.2.2.2.2.2.2.2.2.1 M.2.2.2.2.2.2.2.2.2.2.2.2.1 M.2.2.2.2.2.2.2.2.2.2.2.2.2 A) (glueM (runM M A).1 (runM M A).2):=by
  have key:=srun_loop A hA A.length 0 [] M (by omega) (by simp) hM
  obtain⟨L,j,p,c,D,r,h,s,n,I,O,w,st,P⟩:=M
  have hm:mok L j p c D r h s n I O w P=true:=hM
  have hl:=mok_len hm
  unfold spec_RunActs.f
  simp only[scopyM_eq L j p c D r h s n I O w st P (by omega) hl.2.1 hl.2.2,Option.bind_some]
  refine Ev.bind (smok_eq L j p c D r h s n I O w st P (by omega) hl.2.1 hl.2.2) ?_
  simp only[if_pos hm,decide_eq_false (show ¬(A.length:Int) >40 by omega)]
  refine Loops.Ev.succ ?_
  simp only[spec_RunActs.j0,Bool.false_eq_true,if_false]
  simpa using key
theorem ijobs_eq (l:List S26):Ev (fun k=>impl_JobsOk.f k l) (jobsOk l):=by
  unfold impl_JobsOk.f jobsOk
  by_cases h:(l.length:Int) >12
  · simp only[if_pos h,decide_eq_false (show ¬l.length≤12 by omega),Bool.false_and]
    exact Ev.now _
  simp only[if_neg h,decide_eq_true (show l.length≤12 by omega),Bool.true_and]
  have key:=all_range (G:=fun k i=>impl_JobsOk.l0 k l l (l.length:Int) i) (r:=true) l.length (fun i=>jokAt l i && newAt l i) (fun i R hi hR=>by
    refine Loops.Ev.succ ?_
    simp only[impl_JobsOk.l0,if_pos (show(i:Int)<(l.length:Int) by omega),if_pos (show 0≤(i:Int) by omega),rdJ,ijok_eq,Option.bind_some,impl_jobAt.f,if_pos (show l.length<4611686018427387904 by omega)]
    rw[Loops.wrap_succ hi (by omega)]
    show Ev (fun k=>if jokAt l i=true then _ else _) _
    by_cases h1:jokAt l i=true
    · simp only[if_pos h1]
      by_cases h2:newAt l i=true
      · simp only[if_pos ((newAt_iff l i hi).2 h2),h1,h2,Bool.true_and]
        exact hR
      · simp only[if_neg (fun e=>h2 ((newAt_iff l i hi).1 e)),Bool.eq_false_iff.mpr h2,Bool.and_false,Bool.false_and]
        exact Ev.now _
    · simp only[if_neg h1,Bool.eq_false_iff.mpr h1,Bool.false_and]
      exact Ev.now _) (Loops.Ev.one (fun k=>by
      simp only[impl_JobsOk.l0]
      rw[if_neg (by omega)]))
  simpa using key
set_option maxRecDepth 100000 in
theorem isheets_all:((List.range 64).all fun i=>(impl_SheetsFor.f 200 (1+(i:Int)) 1 true==some (sheets (1+(i:Int)) true)) && (impl_SheetsFor.f 200 (1+(i:Int)) 1 false==some (sheets (1+(i:Int)) false)))=true:=by decide+kernel
theorem isheets_eq (p:Int) (d:Bool) (h:1≤p∧p≤64):Ev (fun k=>impl_SheetsFor.f k p 1 d) (sheets p d):=by
  have h1:=List.all_eq_true.1 isheets_all (p - 1).toNat (List.mem_range.2 (by omega))
  rw[show 1+((p - 1).toNat:Int)=p by omega,Bool.and_eq_true]at h1
  refine Ev.of (k:=200) (fun k=>impl_SheetsFor.mono p 1 d k) ?_
  cases d with
  |true=>exact beq_iff_eq.1 h1.1
  |false=>exact beq_iff_eq.1 h1.2
theorem ijsh_eq (i p c:Int) (d:Bool) (r:Int) (h:Bool):Ev (fun k=>impl_JobSheets.f k i p c d r h) (jsh i p c d r):=by
  have hb:=jsh_in i p c d r
  unfold impl_JobSheets.f jsh
  unfold jsh at hb
  simp only[ijok_eq,Option.bind_some]
  by_cases hj:jok i p c r=true
  · simp only[if_pos hj]at hb ⊢
    have hk:=jok_true hj
    refine Ev.bind (isheets_eq p d hk.2.1) ?_
    rw[Loops.wrap_in (by omega) (by omega)]
    exact Ev.now _
  · simp only[if_neg hj]
    exact Ev.now _
theorem imok_eq (L:List S26) (i p c:Int) (d:Bool) (r:Int) (h:Bool) (s n:Int) (I O:List Int) (w:Int) (st:Bool) (P:Int) (hI:I.length≤1048576) (hO:O.length≤1048576):
    Ev (fun k=>impl_MachineOk.f k L i p c d r h s n I O w st P) (mok L i p c d r h s n I O w P):=by
  have jt:Ev (fun k=>impl_MachineOk.j0 k true L i p c d r h s n I O w st P) false:=Loops.Ev.one (fun k=>by simp only[impl_MachineOk.j0,if_true])
  have jf:Ev (fun k=>impl_MachineOk.j0 k false L i p c d r h s n I O w st P) (nowOk i p c d r h s):=by
    refine Loops.Ev.succ ?_
    simp only[impl_MachineOk.j0,Bool.false_eq_true,if_false]
    unfold nowOk
    by_cases h0:(i==0 && (p==0 && (c==0 && (!d && (r==0 && (!h))))))=true
    · simp only[if_pos h0]
      exact Ev.now _
    simp only[if_neg h0,ijok_eq,Option.bind_some]
    by_cases hj:jok i p c r=true
    · simp only[if_pos hj,hj,Bool.true_and]
      refine Ev.bind (ijsh_eq i p c d r h) ?_
      by_cases h4:jsh i p c d r≤40
      · simp only[if_pos h4,decide_eq_true h4,Bool.true_and]
        exact Ev.bind (ijsh_eq i p c d r h) (Ev.now _)
      · simp only[if_neg h4,decide_eq_false h4,Bool.false_and]
        exact Ev.now _
    · simp only[if_neg hj,Bool.eq_false_iff.mpr hj,Bool.false_and]
      exact Ev.now _
  unfold impl_MachineOk.f mok
  refine Ev.bind (ijobs_eq L) ?_
  by_cases h1:jobsOk L=true
  · simp only[if_pos h1,h1,Bool.true_and]
    refine Ev.bind (iline_eq s n I O w st hI hO) ?_
    by_cases h2:lineOk s n I O w=true
    · simp only[if_pos h2,h2,Bool.true_and,within_eq,Option.bind_some]
      by_cases h3:0≤P∧P≤100000
      · simp only[decide_eq_true h3,Bool.not_true,Bool.true_and]
        exact jf
      · simp only[decide_eq_false h3,Bool.not_false,Bool.false_and]
        exact jt
    · simp only[if_neg h2,Bool.eq_false_iff.mpr h2,Bool.false_and]
      exact jt
  · simp only[if_neg h1,Bool.eq_false_iff.mpr h1,Bool.false_and]
    exact jt
theorem iaok_eq (K a b c:Int):Ev (fun k=>impl_ActOk.f k K a b c) (aok K a b c):=by
  unfold impl_ActOk.f aok
  by_cases h1:K=1
  · simp only[if_pos h1,impl_jobOf.f,ijok_eq,Option.bind_some]
    exact Ev.now _
  simp only[if_neg h1]
  by_cases h2:K=2
  · simp only[if_pos h2,h2,true_or,if_true]
    exact Loops.Ev.one (fun k=>by simp only[impl_ActOk.j0,beq_self_eq_true,if_true,zero3])
  simp only[if_neg h2]
  by_cases h4:K=4
  · simp only[h4,or_true,if_true]
    exact Loops.Ev.one (fun k=>by simp only[impl_ActOk.j0,beq_self_eq_true,if_true,zero3])
  rw[if_neg (show ¬(K=2∨K=4) by omega)]
  refine Loops.Ev.one (fun k=> ?_)
  simp only[impl_ActOk.j0]
  rw[if_neg (by simp[h4])]
  by_cases h3:K=3
  · simp only[if_pos h3,within_eq,Option.bind_some,zero2]
  simp only[if_neg h3]
  by_cases h5:K=5
  · simp only[if_pos h5,within_eq,Option.bind_some,zero2]
  · simp only[if_neg h5]
theorem iclone_eq (L:List S26) (h:L.length≤4194304):impl_Job_43.f L=some L:=by
  unfold impl_Job_43.f
  simp only[Option.bind_some,List.length_nil,List.nil_append]
  rw[if_pos (by omega)]
theorem iadd_eq (L:List S26) (i p c:Int) (d:Bool) (r:Int) (h:Bool) (hL:L.length≤4194304):Ev (fun k=>impl_AddJob.f k L i p c d r h) (addJ L ⟨i,p,c,d,r,h⟩):=by
  unfold impl_AddJob.f addJ
  simp only[iclone_eq L hL,Option.bind_some,if_pos (show L.length+([(⟨i,p,c,d,r,h⟩:S26)]:List S26).length<2932031007402 by simp;omega)]
  refine Ev.bind (ijobs_eq L) ?_
  by_cases h1:jobsOk L=true
  · simp only[if_pos h1]
    refine Ev.bind (ijobs_eq _) ?_
    by_cases h2:jobsOk (L++ [(⟨i,p,c,d,r,h⟩:S26)])=true
    · simp only[if_pos h2];exact Ev.now _
    · simp only[if_neg h2];exact Ev.now _
  · simp only[if_neg h1];exact Ev.now _
theorem inext_eq (L:List S26):Ev (fun k=>impl_NextJob.f k L) (nextJ L):=by
  unfold impl_NextJob.f nextJ
  refine Ev.bind (ijobs_eq L) ?_
  by_cases h1:jobsOk L=true
  · simp only[if_pos h1]
    have hl:=((jobsOk_iff L).1 h1).1
    have key:∀(d i:Nat),i+d=L.length→Ev (fun k=>impl_NextJob.l0 k L (bestJ L i) L (L.length:Int) (i:Int)) (bestJ L L.length):=by
      intro d
      induction d with
      |zero=>
        intro i hi
        obtain rfl:i=L.length:=by omega
        refine Loops.Ev.one (fun k=> ?_)
        simp only[impl_NextJob.l0]
        rw[if_neg (by omega)]
      |succ d ih=>
        intro i hi
        have hb:=bestJ_in L i
        refine Ev.step (fun k=> ?_) (ih (i+1) (by omega))
        simp only[impl_NextJob.l0]
        rw[if_pos (show(i:Int)<(L.length:Int) by omega),if_pos (show 0≤(i:Int) by omega),if_pos (show(i:Int)<(L.length:Int) by omega),rdJ,bestJ_succ,Loops.wrap_succ (n:=L.length) (by omega) (by omega)]
        unfold pickJ
        by_cases h5:(L.getD i z26).f5=true
        · rw[if_pos h5,if_pos h5]
        · rw[if_neg h5,if_neg h5]
          by_cases h6:bestJ L i<0
          · rw[if_pos h6,if_pos h6]
          · rw[if_neg h6,if_neg h6,if_pos (by omega),if_pos (by omega)]
            have e:rd_T26 L (bestJ L i)=L.getD (bestJ L i).toNat z26:=rfl
            rw[e]
            by_cases h7:(L.getD i z26).f4 >(L.getD (bestJ L i).toNat z26).f4
            · rw[if_pos h7,if_pos h7]
            · rw[if_neg h7,if_neg h7]
    have:=key L.length 0 (by omega)
    simpa[bestJ]using this
  · simp only[if_neg h1];exact Ev.now _
theorem itake_eq (L:List S26) (hL:L.length≤4194304):Ev (fun k=>impl_TakeJob.f k L) (restJ L,(jobJ L).f0,(jobJ L).f1,(jobJ L).f2,(jobJ L).f3,(jobJ L).f4,(jobJ L).f5,decide (0≤nextJ L)):=by
  unfold impl_TakeJob.f
  refine Ev.bind (inext_eq L) ?_
  have hi:=nextJ_in L
  unfold restJ jobJ
  by_cases h:nextJ L<0
  · simp only[if_pos h,iclone_eq L hL,Option.bind_some,decide_eq_false (show ¬0≤nextJ L by omega)]
    exact Ev.now _
  · simp only[if_neg h,iclone_eq L hL,Option.bind_some,decide_eq_true (show 0≤nextJ L by omega),if_pos (show 0≤nextJ L by omega),if_pos (show nextJ L<(L.length:Int) by omega),impl_Job_78.f]
    rw[Loops.wrap_in (show -9223372036854775808≤nextJ L+1 by omega) (by omega)]
    simp only[if_true,if_pos (show nextJ L+1≤(L.length:Int) by omega),Option.bind_some]
    exact Ev.now _
theorem irel_eq (L:List S26) (a:Int) (hL:L.length≤4194304):Ev (fun k=>impl_ReleaseJob.f k L a) (relJ L a):=by
  unfold impl_ReleaseJob.f relJ
  have hi:=findJ_in L a
  simp only[iclone_eq L hL,Option.bind_some,impl_jobAt.f,if_pos (show L.length<4611686018427387904 by omega)]
  refine Ev.bind (ijobs_eq L) ?_
  by_cases h1:jobsOk L=true
  · have e:jobIdx L a 0=findJ L a:=by unfold findJ;rw[if_pos h1]
    simp only[if_pos h1,e]
    by_cases h2:findJ L a<0
    · simp only[if_pos h2];exact Ev.now _
    · have e2:rd_T26 L (findJ L a)=L.getD (findJ L a).toNat z26:=rfl
      simp only[if_neg h2,if_pos (show 0≤findJ L a by omega),if_pos (show findJ L a<(L.length:Int) by omega),e2]
      by_cases h3:(L.getD (findJ L a).toNat z26).f5=true
      · simp only[if_pos h3];exact Ev.now _
      · simp only[if_neg h3];exact Ev.now _
  · have e:findJ L a= -1:=by unfold findJ;rw[if_neg h1]
    simp only[if_neg h1,e]
    exact Ev.now _
theorem icopyM_eq (L:List S26) (i p c:Int) (d:Bool) (r:Int) (h:Bool) (s n:Int) (I O:List Int) (w:Int) (st:Bool) (P:Int) (hL:L.length≤4194304) (hI:I.length≤1048576) (hO:O.length≤1048576):impl_copyMachine.f L i p c d r h s n I O w st P=some (L,i,p,c,d,r,h,s,n,I,O,w,st,P):=by
  unfold impl_copyMachine.f
  simp only[iclone_eq L hL,copyLine_eq s n I O w st hI hO,Option.bind_some]
theorem ibit_eq (b:Bool):impl_bit.f b=some (bitJ b):=by cases b<;>rfl
theorem idone_eq (s n:Int) (I O:List Int) (w:Int) (st:Bool) (hI:I.length≤1048576) (hO:O.length≤1048576):Ev (fun k=>impl_IsDone.f k s n I O w st) (lineOk s n I O w && ((O.length:Int)==s)):=by
  unfold impl_IsDone.f
  refine Ev.bind (iline_eq s n I O w st hI hO) ?_
  by_cases hl:lineOk s n I O w=true
  · simp only[if_pos hl,hl,Bool.true_and];exact Ev.now _
  · simp only[if_neg hl,Bool.eq_false_iff.mpr hl,Bool.false_and];exact Ev.now _
theorem ifin_goodI (s n:Int) (I O:List Int) (w:Int) (st:Bool) (hl:lineOk s n I O w=true):Ev (fun k=>impl_FinishLine.f k s n I O w st) (s,s,[],Loops.iota 0 s.toNat,w,false)∧lineOk s s [] (Loops.iota 0 s.toNat) w=true:=by
  obtain⟨O2,ev,h2⟩:=ifin_good s n I O w st hl
  rw[full_one h2]at ev h2
  exact⟨ev,h2⟩
theorem idoact_eq (L:List S26) (i p c:Int) (d:Bool) (r:Int) (h:Bool) (s n:Int) (I O:List Int) (w:Int) (st:Bool) (P K a b e:Int) (hL:L.length≤4194303) (hI:I.length≤1048576) (hO:O.length≤1048576):
    Ev (fun k=>impl_DoAct.f k L i p c d r h s n I O w st P K a b e) (doAct L i p c d r h s n I O w st P K a b e):=by
  unfold impl_DoAct.f doAct
  simp only[icopyM_eq L i p c d r h s n I O w st P (by omega) hI hO,Option.bind_some]
  refine Ev.bind (imok_eq L i p c d r h s n I O w st P hI hO) ?_
  by_cases hm:mok L i p c d r h s n I O w P=true
  · simp only[if_pos hm]
    obtain⟨m1,m2,m3,m4⟩:=mok_parts hm
    refine Ev.bind (iaok_eq K a b e) ?_
    by_cases ha:aok K a b e=true
    · simp only[ha,Bool.not_true,if_true]
      refine Loops.Ev.succ ?_
      simp only[impl_DoAct.j0,Bool.false_eq_true,if_false]
      unfold act1
      by_cases h1:K=1
      · simp only[if_pos h1,impl_jobOf.f,Option.bind_some]
        refine Ev.bind (iadd_eq L a b 1 false e (e==9) (by omega)) ?_
        simp only[ibit_eq,Option.bind_some]
        exact Ev.now _
      simp only[if_neg h1]
      by_cases h2:K=2
      · simp only[if_pos h2]
        refine Ev.bind (itake_eq L (by omega)) ?_
        refine Ev.bind (idone_eq s n I O w st hI hO) ?_
        unfold canTake
        by_cases h5:(lineOk s n I O w && ((O.length:Int)==s))=true
        · simp only[if_pos h5,h5,Bool.true_and]
          by_cases h0:0≤nextJ L
          · simp only[decide_eq_true h0,if_true,Bool.true_and]
            refine Ev.bind (ijsh_eq (jobJ L).f0 (jobJ L).f1 (jobJ L).f2 (jobJ L).f3 (jobJ L).f4 (jobJ L).f5) ?_
            have hs:=jsh_in (jobJ L).f0 (jobJ L).f1 (jobJ L).f2 (jobJ L).f3 (jobJ L).f4
            refine Loops.Ev.succ ?_
            by_cases h6:jsh (jobJ L).f0 (jobJ L).f1 (jobJ L).f2 (jobJ L).f3 (jobJ L).f4≤40
            · simp only[impl_DoAct.j1,decide_eq_false (show ¬jsh (jobJ L).f0 (jobJ L).f1 (jobJ L).f2 (jobJ L).f3 (jobJ L).f4 >40 by omega),decide_eq_true h6,Bool.false_eq_true,if_false,if_true]
              refine Ev.bind (ijsh_eq (jobJ L).f0 (jobJ L).f1 (jobJ L).f2 (jobJ L).f3 (jobJ L).f4 (jobJ L).f5) ?_
              have e7:newLine (jsh (jobJ L).f0 (jobJ L).f1 (jobJ L).f2 (jobJ L).f3 (jobJ L).f4)=(jsh (jobJ L).f0 (jobJ L).f1 (jobJ L).f2 (jobJ L).f3 (jobJ L).f4,0,[],[],0,false,true):=by unfold newLine;rw[if_pos ⟨hs.1,h6⟩]
              simp only[inew_eq,e7,Option.bind_some]
              rw[Loops.wrap_in (show -9223372036854775808≤P+(O.length:Int) by omega) (by omega)]
              exact Ev.now _
            · simp only[impl_DoAct.j1,decide_eq_true (show jsh (jobJ L).f0 (jobJ L).f1 (jobJ L).f2 (jobJ L).f3 (jobJ L).f4 >40 by omega),decide_eq_false h6,Bool.false_eq_true,if_false,if_true]
              exact Ev.now _
          · simp only[decide_eq_false h0,Bool.false_and,Bool.false_eq_true,if_false]
            exact Loops.Ev.one (fun k=>by simp only[impl_DoAct.j1,if_true])
        · simp only[if_neg h5,Bool.eq_false_iff.mpr h5,Bool.false_and,Bool.and_false,Bool.false_eq_true,if_false]
          exact Loops.Ev.one (fun k=>by simp only[impl_DoAct.j1,if_true])
      simp only[if_neg h2]
      by_cases h3:K=3
      · simp only[if_pos h3]
        refine Ev.bind (istep_eq s n I O w st a hI hO) ?_
        simp only[ibit_eq,Option.bind_some]
        exact Ev.now _
      simp only[if_neg h3]
      by_cases h4:K=4
      · simp only[if_pos h4]
        refine Ev.bind (ifin_goodI s n I O w st m2).1 ?_
        have hp:=lineOk_parts m2
        simp only[Loops.iota_len,show((s.toNat:Nat):Int)=s by omega]
        exact Ev.now _
      simp only[if_neg h4]
      refine Ev.bind (irel_eq L a (by omega)) ?_
      simp only[ibit_eq,Option.bind_some]
      exact Ev.now _
    · simp only[Bool.eq_false_iff.mpr ha,Bool.not_false,Bool.false_eq_true,if_false]
      exact Loops.Ev.one (fun k=>by simp only[impl_DoAct.j0,if_true])
  · simp only[if_neg hm]
    exact Loops.Ev.one (fun k=>by simp only[impl_DoAct.j0,if_true])
theorem irun_loop (A:List S55) (hA:A.length≤40):∀(d i:Nat) (N:List Int) (M:Mach),i+d=A.length→N.length≤i→mokM M=true→
    Ev (fun k=>impl_RunActs.l0 k N A (A.length:Int) (i:Int) M.1 M.2.1 M.2.2.1 M.2.2.2.1 M.2.2.2.2.1 M.2.2.2.2.2.1 M.2.2.2.2.2.2.1 M.2.2.2.2.2.2.2.1 M.2.2.2.2.2.2.2.2.1 M.2.2.2.2.2.2.2.2.2.1 M.2.2.2.2.2.2.2.2.2.2.1 M.2.2.2.2.2.2.2.2.2.2.2.1 M.2.2.2.2.2.2.2.2.2.2.2.2.1 M.2.2.2.2.2.2.2.2.2.2.2.2.2) (glueM (runM M (A.drop i)).1 (N++(runM M (A.drop i)).2)):=by
  intro d
  induction d with
  |zero=>
    intro i N M hi hN hM
    obtain rfl:i=A.length:=by omega
    obtain⟨L,i,p,c,d,r,h,s,n,I,O,w,st,P⟩:=M
    rw[List.drop_length]
    refine Loops.Ev.one (fun k=> ?_)
    simp only[impl_RunActs.l0,runM,glueM,List.append_nil,if_neg (show ¬(A.length:Int)<(A.length:Int) by omega)]
  |succ d ih=>
    intro i N M hi hN hM
    obtain⟨L,j,p,c,D,r,h,s,n,I,O,w,st,P⟩:=M
    have hl:=mok_len (show mok L j p c D r h s n I O w P=true from hM)
    obtain⟨M2,v,e,h2⟩:=doAct_mok (st:=st) (A.getD i z55).f0 (A.getD i z55).f1 (A.getD i z55).f2 (A.getD i z55).f3 (show mok L j p c D r h s n I O w P=true from hM)
    rw[Loops.drop_cons_getD A z55 i (by omega),runM_cons e]
    have nx:=ih (i+1) (N++ [v]) M2 (by omega) (by simp;omega) h2
    refine Loops.Ev.succ ?_
    simp only[impl_RunActs.l0,if_pos (show(i:Int)<(A.length:Int) by omega),if_pos (show 0≤(i:Int) by omega),rdA]
    refine Ev.bind (idoact_eq L j p c D r h s n I O w st P _ _ _ _ (by omega) hl.2.1 hl.2.2) ?_
    rw[e]
    obtain⟨L2,i2,p2,c2,d2,r2,h2,s2,n2,I2,O2,w2,st2,P2⟩:=M2
    simp only[glueM,if_pos (show N.length<17592186044416 by omega),Loops.wrap_succ (n:=A.length) (i:=i) (by omega) (by omega)]
    simpa[glueM]using nx
theorem irun_eq (M:Mach) (A:List S55) (hA:A.length≤40) (hM:mokM M=true):Ev (fun k=>impl_RunActs.f k M.1 M.2.1 M.2.2.1 M.2.2.2.1 M.2.2.2.2.1 M.2.2.2.2.2.1 M.2.2.2.2.2.2.1 M.2.2.2.2.2.2.2.1 M.2.2.2.2.2.2.2.2.1 M.2.2.2.2.2.2.2.2.2.1 M.2.2.2.2.2.2.2.2.2.2.1 M.2.2.2.2.2.2.2.2.2.2.2.1 M.2.2.2.2.2.2.2.2.2.2.2.2.1 M.2.2.2.2.2.2.2.2.2.2.2.2.2 A) (glueM (runM M A).1 (runM M A).2):=by
  have key:=irun_loop A hA A.length 0 [] M (by omega) (by simp) hM
  obtain⟨L,j,p,c,D,r,h,s,n,I,O,w,st,P⟩:=M
  have hm:mok L j p c D r h s n I O w P=true:=hM
  have hl:=mok_len hm
  unfold impl_RunActs.f
  simp only[icopyM_eq L j p c D r h s n I O w st P (by omega) hl.2.1 hl.2.2,Option.bind_some]
  refine Ev.bind (imok_eq L j p c D r h s n I O w st P hl.2.1 hl.2.2) ?_
  simp only[if_pos hm,decide_eq_false (show ¬(A.length:Int) >40 by omega)]
  refine Loops.Ev.succ ?_
  simp only[impl_RunActs.j0,Bool.false_eq_true,if_false]
  simpa using key
def I (n:Int):ByteArray:=⟨(Lib.itoa n).toArray⟩
theorem I_size (n:Int) (h0: -9223372036854775808≤n) (h1:n≤9223372036854775807):(I n).size≤21:=by
  have:=Lib.itoa_length_le n h0 h1
  show(Lib.itoa n).toArray.size≤21
  simpa using this
def dg0 (u:Nat):List UInt8:=if u=0 then [] else Lib.decDigits u
theorem dg0_step (u:Nat) (h:0<u):dg0 u=dg0 (u / 10)++ [UInt8.ofNat (48+u % 10)]:=by
  unfold dg0
  rw[if_neg (by omega),Lib.decDigits]
  by_cases h1:u<10
  · rw[dif_pos h1,if_pos (by omega),Nat.mod_eq_of_lt h1];rfl
  · rw[dif_neg h1,if_neg (by omega)]
theorem ba_nil (s:ByteArray):(⟨([]:List UInt8).toArray⟩:ByteArray)++s=s:=by
  apply ByteArray.ext;simp[ByteArray.data_append]
theorem ba_app (xs ys:List UInt8) (s:ByteArray):(⟨xs.toArray⟩:ByteArray)++((⟨ys.toArray⟩:ByteArray)++s)=(⟨(xs++ys).toArray⟩:ByteArray)++s:=by
  apply ByteArray.ext
  simp only[ByteArray.data_append]
  rw[←Array.append_assoc]
  simp
theorem sfig (d:Nat) (h:d<10):spec_l01Figure.f (d:Int)=some ((48+d:Nat):Int):=by
  unfold spec_l01Figure.f
  rw[if_pos (by omega),IntWalk.wrap64_in _ (by omega)]
  congr 1
  omega
theorem sfmt_loop:∀(u:Nat) (s:ByteArray),s.size+u≤9223372036854775807→Ev (fun k=>spec_FormatInt.l0 k (u:Int) false s) ((⟨(dg0 u).toArray⟩:ByteArray)++s):=by
  intro u
  induction u using Nat.strongRecOn with
  |_ u ih=>
    intro s hs
    by_cases h0:u=0
    · subst h0
      refine Loops.Ev.one (fun k=> ?_)
      simp only[spec_FormatInt.l0]
      rw[if_pos (by rfl),if_neg (by simp)]
      simp only[dg0,if_true,ba_nil]
    · have hm:Int.tmod (u:Int) 10=((u % 10:Nat):Int):=by rw[Int.tmod_eq_emod_of_nonneg (by omega)];omega
      have hd:Int.tdiv (u:Int) 10=((u / 10:Nat):Int):=by rw[Int.tdiv_eq_ediv_of_nonneg (by omega)];omega
      have hst:strOfNums [((48+u % 10:Nat):Int)]=(⟨[UInt8.ofNat (48+u % 10)].toArray⟩:ByteArray):=by unfold strOfNums;rw[List.map_cons,List.map_nil,Int.toNat_natCast]
      refine Ev.step (f:=fun k=>spec_FormatInt.l0 k ((u / 10:Nat):Int) false ((⟨[UInt8.ofNat (48+u % 10)].toArray⟩:ByteArray)++s)) (fun k=> ?_) ?_
      · simp only[spec_FormatInt.l0]
        rw[if_neg (by omega),hm,if_neg (by omega),sfig _ (Nat.mod_lt _ (by decide))]
        simp only[Option.bind_some,hst,hd]
        rw[if_pos (by show 1+s.size≤_;omega),IntWalk.wrap64_in _ (by omega)]
      · refine Loops.Ev.eq (ih (u / 10) (by omega) _ ?_) ?_
        · rw[ByteArray.size_append]
          show 1+s.size+u / 10≤_
          omega
        · rw[ba_app,←dg0_step u (by omega)]
theorem sfmt_eq (n:Int) (h0:0≤n) (h1:n≤9223372036854775807):Ev (fun k=>spec_FormatInt.f k n) (I n):=by
  unfold spec_FormatInt.f
  obtain⟨u,rfl⟩:∃u:Nat,n=u:=⟨n.toNat,by omega⟩
  by_cases hz:u=0
  · subst hz
    refine Loops.Ev.const ?_
    try rw[if_pos rfl]
    have e0:Lib.itoa 0= [48]:=by
      have h:=Lib.itoa_nonneg 0
      rw[Lib.decDigits,dif_pos (by decide)]at h
      exact h
    simp[I,e0]
  · have hf:decide ((u:Int)<0)=false:=decide_eq_false (by omega)
    simp only[if_neg (show ¬((u:Int)=0) by omega),hf]
    refine Loops.Ev.eq (sfmt_loop u ⟨#[]⟩ (by show 0+u≤_;omega)) ?_
    apply ByteArray.ext
    simp[I,Lib.itoa_nonneg,dg0,hz,ByteArray.data_append]
theorem ifmt_eq (n:Int) (h0: -9223372036854775808≤n) (h1:n≤9223372036854775807):impl_FormatInt.f n=some (I n):=by
  have e:∀x:Option ByteArray,(x.bind fun t=>some t)=x:=fun x=>by cases x<;>rfl
  unfold impl_FormatInt.f
  rw[e]
  first|(unfold strconv_Itoa.f;rw[if_pos h0,if_pos h1];rfl)|(unfold strconv_Itoa_43.f;rw[if_pos h0,if_pos h1];rfl)|(unfold strconv_Itoa_35.f;rw[if_pos h0,if_pos h1];rfl)|(unfold strconv_Itoa_29.f;rw[if_pos h0,if_pos h1];rfl)
def fa (K a b c:Int):ByteArray×Bool:=if aok K a b c=true then((if K=1 then(⟨#[97,100,100,32]⟩:ByteArray)++I a++(⟨#[32]⟩:ByteArray)++I b++(⟨#[32]⟩:ByteArray)++I c else if K=2 then(⟨#[116,97,107,101]⟩:ByteArray) else if K=3 then(⟨#[108,105,110,101,32]⟩:ByteArray)++I a else if K=4 then(⟨#[102,105,110,105,115,104]⟩:ByteArray) else(⟨#[114,101,108,101,97,115,101,32]⟩:ByteArray)++I a),true) else((⟨#[]⟩:ByteArray),false)
theorem aok_in {K a b c:Int} (h:aok K a b c=true):(K=1∨K=2∨K=3∨K=4∨K=5)∧(0≤a∧a≤9999)∧(0≤b∧b≤9999)∧(0≤c∧c≤9999):=by
  unfold aok at h
  by_cases h1:K=1
  · rw[if_pos h1]at h
    unfold jok at h
    simp only[decide_eq_true_eq,Bool.and_eq_true]at h
    omega
  rw[if_neg h1]at h
  by_cases h2:K=2∨K=4
  · rw[if_pos h2]at h
    simp only[decide_eq_true_eq]at h
    omega
  rw[if_neg h2]at h
  by_cases h3:K=3
  · rw[if_pos h3]at h
    simp only[decide_eq_true_eq]at h
    omega
  rw[if_neg h3]at h
  by_cases h5:K=5
  · rw[if_pos h5]at h
    simp only[decide_eq_true_eq]at h
    omega
  rw[if_neg h5]at h
  cases h
theorem ifa_eq (K a b c:Int):Ev (fun k=>impl_FormatAct.f k K a b c) (fa K a b c):=by
  unfold impl_FormatAct.f
  refine Ev.bind (iaok_eq K a b c) ?_
  unfold fa
  by_cases hk:aok K a b c=true
  · simp only[if_pos hk]
    obtain⟨hK,ha,hb,hc⟩:=aok_in hk
    have sa:=I_size a (by omega) (by omega)
    have sb:=I_size b (by omega) (by omega)
    have sc:=I_size c (by omega) (by omega)
    simp only[ifmt_eq a (by omega) (by omega),ifmt_eq b (by omega) (by omega),ifmt_eq c (by omega) (by omega),Option.bind_some]
    refine Loops.Ev.const ?_
    have z4:(⟨#[97,100,100,32]⟩:ByteArray).size=4:=rfl
    have z1:(⟨#[32]⟩:ByteArray).size=1:=rfl
    by_cases h1:K=1
    · simp only[if_pos h1,ByteArray.size_append,z4,z1]
      rw[if_pos (by omega),if_pos (by omega),if_pos (by omega),if_pos (by omega),if_pos (by omega)]
    simp only[if_neg h1]
    by_cases h2:K=2
    · simp only[if_pos h2]
    simp only[if_neg h2]
    by_cases h3:K=3
    · simp only[if_pos h3]
      rw[if_pos (by omega)]
    simp only[if_neg h3]
    by_cases h4:K=4
    · simp only[if_pos h4]
    simp only[if_neg h4]
    rw[if_pos (by omega)]
  · simp only[if_neg hk]
    exact Ev.now _
theorem sfa_eq (K a b c:Int):Ev (fun k=>spec_FormatAct.f k K a b c) (fa K a b c):=by
  unfold spec_FormatAct.f
  refine Ev.bind (saok_eq K a b c) ?_
  unfold fa
  by_cases hk:aok K a b c=true
  · simp only[if_pos hk,Option.bind_some]
    obtain⟨hK,ha,hb,hc⟩:=aok_in hk
    have sa:=I_size a (by omega) (by omega)
    have sb:=I_size b (by omega) (by omega)
    have sc:=I_size c (by omega) (by omega)
    have z1:(⟨#[32]⟩:ByteArray).size=1:=rfl
    have fA:=sfmt_eq a (by omega) (by omega)
    have fB:=sfmt_eq b (by omega) (by omega)
    have fC:=sfmt_eq c (by omega) (by omega)
    simp only[if_pos (show 0≤K by omega),if_pos (show K<(([(⟨#[]⟩:ByteArray),(⟨#[97,100,100]⟩:ByteArray),(⟨#[116,97,107,101]⟩:ByteArray),(⟨#[108,105,110,101]⟩:ByteArray),(⟨#[102,105,110,105,115,104]⟩:ByteArray),(⟨#[114,101,108,101,97,115,101]⟩:ByteArray)]:List ByteArray).length:Int) by simp only[List.length_cons,List.length_nil];omega)]
    rcases hK with rfl|rfl|rfl|rfl|rfl
    · have e1:rdOf ByteArray.empty [(⟨#[]⟩:ByteArray),(⟨#[97,100,100]⟩:ByteArray),(⟨#[116,97,107,101]⟩:ByteArray),(⟨#[108,105,110,101]⟩:ByteArray),(⟨#[102,105,110,105,115,104]⟩:ByteArray),(⟨#[114,101,108,101,97,115,101]⟩:ByteArray)] 1=(⟨#[97,100,100]⟩:ByteArray):=rfl
      have e2:(⟨#[97,100,100]⟩:ByteArray)++(⟨#[32]⟩:ByteArray)=(⟨#[97,100,100,32]⟩:ByteArray):=rfl
      have z3:(⟨#[97,100,100]⟩:ByteArray).size=3:=rfl
      simp only[if_true,e1,z3,ByteArray.size_append,z1]
      simp only[if_pos (show 3+1≤9223372036854775807 by omega)]
      refine Ev.bind fA ?_
      simp only[if_pos (show 3+1+(I a).size≤9223372036854775807 by omega),if_pos (show 3+1+(I a).size+1≤9223372036854775807 by omega)]
      refine Ev.bind fB ?_
      simp only[if_pos (show 3+1+(I a).size+1+(I b).size≤9223372036854775807 by omega),if_pos (show 3+1+(I a).size+1+(I b).size+1≤9223372036854775807 by omega)]
      refine Ev.bind fC ?_
      simp only[if_pos (show 3+1+(I a).size+1+(I b).size+1+(I c).size≤9223372036854775807 by omega),e2]
      exact Ev.now _
    · exact Ev.now _
    · have e1:rdOf ByteArray.empty [(⟨#[]⟩:ByteArray),(⟨#[97,100,100]⟩:ByteArray),(⟨#[116,97,107,101]⟩:ByteArray),(⟨#[108,105,110,101]⟩:ByteArray),(⟨#[102,105,110,105,115,104]⟩:ByteArray),(⟨#[114,101,108,101,97,115,101]⟩:ByteArray)] 3=(⟨#[108,105,110,101]⟩:ByteArray):=rfl
      have e2:(⟨#[108,105,110,101]⟩:ByteArray)++(⟨#[32]⟩:ByteArray)=(⟨#[108,105,110,101,32]⟩:ByteArray):=rfl
      have z3:(⟨#[108,105,110,101]⟩:ByteArray).size=4:=rfl
      simp only[if_neg (show ¬((3:Int)=1) by omega),if_neg (show ¬((3:Int)=2) by omega),if_true,e1,z3,ByteArray.size_append,z1]
      simp only[if_pos (show 4+1≤9223372036854775807 by omega)]
      refine Ev.bind fA ?_
      simp only[if_pos (show 4+1+(I a).size≤9223372036854775807 by omega),e2]
      exact Ev.now _
    · exact Ev.now _
    · have e1:rdOf ByteArray.empty [(⟨#[]⟩:ByteArray),(⟨#[97,100,100]⟩:ByteArray),(⟨#[116,97,107,101]⟩:ByteArray),(⟨#[108,105,110,101]⟩:ByteArray),(⟨#[102,105,110,105,115,104]⟩:ByteArray),(⟨#[114,101,108,101,97,115,101]⟩:ByteArray)] 5=(⟨#[114,101,108,101,97,115,101]⟩:ByteArray):=rfl
      have e2:(⟨#[114,101,108,101,97,115,101]⟩:ByteArray)++(⟨#[32]⟩:ByteArray)=(⟨#[114,101,108,101,97,115,101,32]⟩:ByteArray):=rfl
      have z3:(⟨#[114,101,108,101,97,115,101]⟩:ByteArray).size=7:=rfl
      simp only[if_neg (show ¬((5:Int)=1) by omega),if_neg (show ¬((5:Int)=2) by omega),if_neg (show ¬((5:Int)=3) by omega),if_neg (show ¬((5:Int)=4) by omega),if_true,e1,z3,ByteArray.size_append,z1]
      simp only[if_pos (show 7+1≤9223372036854775807 by omega)]
      refine Ev.bind fA ?_
      simp only[if_pos (show 7+1+(I a).size≤9223372036854775807 by omega),e2]
      exact Ev.now _
  · simp only[if_neg hk]
    exact Ev.now _
def pcs:List UInt8→List (List UInt8)
  | []=> [[]]
  |c::r=>if c=32 then []::pcs r else(match pcs r with| []=> [[c]]|p::ps=>(c::p)::ps)
def go:List UInt8→List UInt8→List (List UInt8)
  |cur,[]=>if cur= [] then [] else [cur]
  |cur,c::r=>if c=32 then(if cur= [] then go [] r else cur::go [] r) else go (cur++ [c]) r
def jn:List (List UInt8)→List UInt8
  | []=> []
  | [x]=>x
  |x::y::r=>x++32::jn (y::r)
def nes (l:List (List UInt8)):List (List UInt8):=l.filter fun x=>decide (x≠ [])
theorem pcs_cons (s:List UInt8):∃p ps,pcs s=p::ps:=by
  cases s with
  |nil=>exact⟨_,_,rfl⟩
  |cons c r=>
    unfold pcs
    split
    · exact⟨_,_,rfl⟩
    · cases pcs r with
      |nil=>exact⟨_,_,rfl⟩
      |cons p ps=>exact⟨_,_,rfl⟩
theorem go_pcs:∀(r cur:List UInt8) (p:List UInt8) (ps:List (List UInt8)),pcs r=p::ps→go cur r=nes ((cur++p)::ps)
  | [],cur,p,ps,h=>by
    simp only[pcs,List.cons.injEq]at h
    obtain⟨rfl,rfl⟩:=h
    by_cases hc:cur= []<;>simp[go,nes,hc]
  |c::r,cur,p,ps,h=>by
    obtain⟨q,qs,hq⟩:=pcs_cons r
    unfold pcs at h
    by_cases hc:c=32
    · rw[if_pos hc]at h
      simp only[List.cons.injEq]at h
      obtain⟨rfl,rfl⟩:=h
      have ih:=go_pcs r [] q qs hq
      unfold go
      rw[if_pos hc,ih,hq]
      by_cases hcur:cur= []<;>simp[nes,hcur]
    · rw[if_neg hc,hq]at h
      simp only[List.cons.injEq]at h
      obtain⟨rfl,rfl⟩:=h
      unfold go
      rw[if_neg hc,go_pcs r (cur++ [c]) q qs hq]
      simp[List.append_assoc]
theorem go_nil_pcs (s:List UInt8):go [] s=nes (pcs s):=by
  obtain⟨p,ps,h⟩:=pcs_cons s
  rw[go_pcs s [] p ps h,h];rfl
theorem pcs_none:∀s:List UInt8,(32:UInt8) ∉ s→pcs s= [s]
  | [],_=>rfl
  |c::r,h=>by
    simp only[List.mem_cons,not_or]at h
    unfold pcs
    rw[if_neg (fun e=>h.1 e.symm),pcs_none r h.2]
theorem pcs_hit:∀p r:List UInt8,(32:UInt8) ∉ p→pcs (p++32::r)=p::pcs r
  | [],r,_=>by simp[pcs]
  |c::p,r,h=>by
    simp only[List.mem_cons,not_or]at h
    rw[List.cons_append,pcs,if_neg (fun e=>h.1 e.symm),pcs_hit p r h.2]
theorem occ_none (s:List UInt8) (h:(32:UInt8) ∉ s) (j:Nat):Lib.occAt s [32] j=false:=by
  cases hb:Lib.occAt s [32] j with
  |false=>rfl
  |true=>
    have:=Lib.occAt_head (c:=32) (t:= []) rfl hb
    exact absurd (List.mem_of_getElem? this) h
theorem splitK_pcs:∀(n:Nat) (s:List UInt8),s.length≤n→Lib.splitK [32] 0 (Lib.count s [32]) s=pcs s:=by
  intro n
  induction n with
  |zero=>
    intro s hs
    have:s= []:=List.length_eq_zero_iff.1 (by omega)
    subst this
    rw[Lib.count_miss (Lib.index_none (fun j _=>occ_none [] (by simp) j))]
    rfl
  |succ n ih=>
    intro s hs
    by_cases hm:(32:UInt8) ∈ s
    · obtain⟨p,r,rfl,hp⟩:=List.eq_append_cons_of_mem hm
      have hidx:Lib.index (p++32::r) [32]=(p.length:Nat):=by
        refine Lib.index_first (by simp) ?_ ?_
        · simp[Lib.occAt]
        · intro j hj
          cases hb:Lib.occAt (p++32::r) [32] j with
          |false=>rfl
          |true=>
            have:=Lib.occAt_head (c:=32) (t:= []) rfl hb
            rw[List.getElem?_append_left hj]at this
            exact absurd (List.mem_of_getElem? this) hp
      have hd:(p++32::r).drop (p.length+1)=r:=by simp[List.drop_append]
      rw[Lib.count_hit (by simp) hidx,Nat.add_comm]
      unfold Lib.splitK
      rw[hidx,if_neg (by simp),pcs_hit p r hp]
      have e1:((p.length:Nat):Int).toNat=p.length:=by omega
      rw[e1]
      show(p++32::r).take (p.length+0)::Lib.splitK [32] 0 (Lib.count ((p++32::r).drop (p.length+1)) [32]) ((p++32::r).drop (p.length+1))=_
      rw[hd,ih r (by simp at hs;omega)]
      simp
    · rw[Lib.count_miss (Lib.index_none (fun j _=>occ_none s hm j)),pcs_none s hm]
      rfl
theorem split_pcs (s:ByteArray):(Lib.splitB ⟨#[32]⟩ 0 (Lib.countB s ⟨#[32]⟩) s).map (·.data.toList)=pcs s.data.toList:=by
  rw[Lib.splitB_data]
  exact splitK_pcs _ _ (Nat.le_refl _)
def Good (x:List UInt8):Prop:=x≠ []∧(32:UInt8) ∉ x
theorem go_free:∀(p cur t:List UInt8),(32:UInt8) ∉ p→go cur (p++t)=go (cur++p) t
  | [],cur,t,_=>by simp
  |c::p,cur,t,h=>by
    simp only[List.mem_cons,not_or]at h
    rw[List.cons_append,go,if_neg (fun e=>h.1 e.symm),go_free p _ t h.2]
    simp
theorem go_jn:∀(fs:List (List UInt8)) (t:List UInt8),t= []∨t= [32]→(∀x ∈ fs,Good x)→go [] (jn fs++t)=fs
  | [],t,ht,_=>by rcases ht with rfl|rfl<;>simp[jn,go]
  | [x],t,ht,h=>by
    have hx:=h x (by simp)
    rw[jn,go_free x [] t hx.2]
    rcases ht with rfl|rfl<;>simp[go,hx.1]
  |x::y::r,t,ht,h=>by
    have hx:=h x (by simp)
    rw[jn,List.append_assoc,go_free x [] _ hx.2,List.cons_append,go,if_pos rfl,if_neg (by simpa using hx.1),go_jn (y::r) t ht (fun z hz=>h z (by simp[hz]))]
    simp
theorem jn_inj {fs gs:List (List UInt8)} (hf:∀x ∈ fs,Good x) (hg:∀x ∈ gs,Good x) (h:jn fs=jn gs):fs=gs:=by
  have a:=go_jn fs [] (Or.inl rfl) hf
  have b:=go_jn gs [] (Or.inl rfl) hg
  rw[h]at a
  exact a.symm.trans b
theorem go_good:∀(r cur:List UInt8),(32:UInt8) ∉ cur→ ∀x ∈ go cur r,Good x
  | [],cur,h,x,hx=>by
    unfold go at hx
    split at hx
    · simp at hx
    · rename_i h1
      simp only[List.mem_singleton]at hx
      subst hx
      exact⟨h1,h⟩
  |c::r,cur,h,x,hx=>by
    unfold go at hx
    split at hx
    · split at hx
      · exact go_good r [] (by simp) x hx
      · rename_i h1
        rcases List.mem_cons.1 hx with rfl|hx
        · exact⟨h1,h⟩
        · exact go_good r [] (by simp) x hx
    · rename_i h0
      exact go_good r (cur++ [c]) (by simp[h];exact fun e=>h0 e.symm) x hx
theorem join_jn:∀fs:List (List UInt8),Lib.join fs [32]=jn fs
  | []=>rfl
  | [x]=>by rw[Lib.join_one,jn]
  |x::y::r=>by
    rw[Lib.join_cons,jn,←join_jn (y::r),Lib.join_cons]
    simp[Lib.joinTail]
theorem jn_snoc:∀(fs:List (List UInt8)) (x:List UInt8),fs≠ []→jn (fs++ [x])=jn fs++32::x
  | [],x,h=>absurd rfl h
  | [y],x,_=>rfl
  |y::z::r,x,_=>by
    have:=jn_snoc (z::r) x (by simp)
    rw[List.cons_append]at this
    rw[List.cons_append,List.cons_append,jn,this,jn]
    simp
theorem evs {α:Type} {g:Nat→Option α} {r:α} (h:Ev (fun k=>g (k+1)) r):Ev g r:=Ev.step (fun _=>rfl) h
theorem bt_drop {s:ByteArray} {i:Nat} {c:UInt8} {r:List UInt8} (h:s.data.toList.drop i=c::r):bt s (i:Int)=(c.toNat:Int)∧i<s.size∧s.data.toList.drop (i+1)=r:=by
  have hl:i<s.data.toList.length:=by
    rcases Nat.lt_or_ge i s.data.toList.length with h'|h'
    · exact h'
    · rw[List.drop_eq_nil_of_le h']at h;cases h
  rw[List.drop_eq_getElem_cons hl]at h
  simp only[List.cons.injEq]at h
  have hs:i<s.size:=by simpa using hl
  refine⟨?_,hs,h.2⟩
  have:=bt_at s (i:Int) (by simpa using hs)
  rw[←this,←h.1]
  simp
  rfl
def Dig (c:UInt8):Prop:=48≤c.toNat∧c.toNat≤57
instance (c:UInt8):Decidable (Dig c):=by unfold Dig;exact inferInstance
def pv:List UInt8→Nat→Nat
  | [],n=>n
  |c::r,n=>pv r (10 * n+(c.toNat - 48))
def pfin (s:ByteArray) (x:Nat):Int×Bool:=if(x:Int) >1000000000 then(0,false) else if(I x).toList=s.toList then((x:Int),true) else(0,false)
def pres (s:ByteArray) (r:List UInt8) (x:Nat):Int×Bool:=if ∀c ∈ r,Dig c then pfin s (pv r x) else(0,false)
def pu (s:ByteArray):Int×Bool:=if s.size >10 then(0,false) else pres s s.data.toList 0
theorem pl {G:Nat→Int→Int→Option (Int×Bool)} (s:ByteArray) (hs:s.size≤10)
    (h1:∀(k x i:Nat),x<10000000000→i<s.size→G (k+1) (x:Int) (i:Int)=if bt s (i:Int)<48 then some (0,false) else if bt s (i:Int) >57 then some (0,false) else G k (10 * (x:Int)+(bt s (i:Int) - 48)) ((i+1:Nat):Int))
    (h2:∀x:Nat,x≤10000000000→Ev (fun k=>G k (x:Int) (s.size:Int)) (pfin s x)):
    ∀(r:List UInt8) (i x:Nat),s.data.toList.drop i=r→i+r.length=s.size→x<10 ^ i→Ev (fun k=>G k (x:Int) (i:Int)) (pres s r x)
  | [],i,x,h,hi,hx=>by
    have hp:10 ^ i≤10 ^ 10:=Nat.pow_le_pow_right (by decide) (by simp at hi;omega)
    have e:i=s.size:=by simpa using hi
    subst e
    unfold pres
    rw[if_pos (by simp)]
    exact h2 x (by omega)
  |c::r,i,x,h,hi,hx=>by
    obtain⟨hb,hlt,hd⟩:=bt_drop h
    have hp:10 ^ i≤10 ^ 9:=Nat.pow_le_pow_right (by decide) (by omega)
    have hc:=c.toNat_lt
    by_cases h0:Dig c
    · have ih:=pl s hs h1 h2 r (i+1) (10 * x+(c.toNat - 48)) hd (by simp at hi;omega) (by rw[Nat.pow_succ];unfold Dig at h0;omega)
      refine Ev.step (f:=fun k=>G k ((10 * x+(c.toNat - 48):Nat):Int) ((i+1:Nat):Int)) (fun k=> ?_) ?_
      · unfold Dig at h0
        rw[h1 k x i (by omega) hlt,hb,if_neg (by omega),if_neg (by omega)]
        congr 1
        omega
      · refine Loops.Ev.eq ih ?_
        unfold pres
        simp only[List.forall_mem_cons,pv,h0,true_and]
    · refine Loops.Ev.one (fun k=> ?_)
      rw[h1 k x i (by omega) hlt,hb]
      have e:pres s (c::r) x=(0,false):=by
        unfold pres
        rw[if_neg (fun hh=>h0 (hh c (by simp)))]
      rw[e]
      unfold Dig at h0
      by_cases h2:(c.toNat:Int)<48
      · rw[if_pos h2]
      · rw[if_neg h2,if_pos (by omega)]
theorem spu_eq (s:ByteArray):Ev (fun k=>spec_ParseUint.f k s) (pu s):=by
  unfold spec_ParseUint.f pu
  by_cases h10:s.size >10
  · rw[if_pos h10];simp only[if_pos (show(s.size:Int) >10 by omega)];exact Ev.now _
  rw[if_neg h10]
  simp only[if_neg (show ¬(s.size:Int) >10 by omega)]
  refine pl (G:=fun k x i=>spec_ParseUint.l0 k s x i) s (by omega) ?_ ?_ s.data.toList 0 0 rfl (by simp) (by decide)
  · intro k x i hx hi
    have hb:=bt_range s (i:Int)
    simp only[spec_ParseUint.l0]
    rw[if_pos (by omega),if_pos (by omega)]
    rw[Loops.wrap_succ hi (by omega),IntWalk.wrap64_in (bt s (i:Int)) (by omega),IntWalk.wrap64_in (10 * (x:Int)) (by omega),IntWalk.wrap64_in (10 * (x:Int)+bt s (i:Int)) (by omega),IntWalk.wrap64_in _ (by omega)]
    rw[show 10 * (x:Int)+bt s (i:Int) - 48=10 * (x:Int)+(bt s (i:Int) - 48) by omega]
  · intro x hx
    refine evs ?_
    simp only[spec_ParseUint.l0]
    simp only[if_neg (show ¬(s.size:Int)<(s.size:Int) by omega)]
    unfold pfin
    by_cases h9:(x:Int) >1000000000
    · simp only[if_pos h9];exact Ev.now _
    · simp only[if_neg h9]
      refine Ev.bind (sfmt_eq (x:Int) (by omega) (by omega)) ?_
      by_cases he:(I (x:Int)).toList=s.toList
      · simp only[if_pos he];exact Ev.now _
      · simp only[if_neg he];exact Ev.now _
theorem I_ne (n:Int):(I n).toList≠ []:=by
  rw[ByteArray.toList_eq]
  show(Lib.itoa n).toArray.toList≠ []
  have h:=Lib.decDigits_length
  intro e
  have e':Lib.itoa n= []:=by simpa using e
  by_cases hneg:n<0
  · obtain⟨u,rfl⟩:∃u:Nat,n= -(u:Int):=⟨n.natAbs,by omega⟩
    rw[Lib.itoa_neg u (by omega)]at e'
    cases e'
  · obtain⟨u,rfl⟩:∃u:Nat,n=u:=⟨n.toNat,by omega⟩
    rw[Lib.itoa_nonneg,Lib.decDigits]at e'
    split at e'<;>simp at e'
theorem ipu_eq (s:ByteArray):Ev (fun k=>impl_ParseUint.f k s) (pu s):=by
  unfold impl_ParseUint.f
  by_cases hz:(s.size:Int)=0
  · simp only[if_pos hz]
    refine Loops.Ev.one (fun k=> ?_)
    simp only[impl_ParseUint.j0,if_true]
    have hn:s.data.toList= []:=by
      apply List.length_eq_zero_iff.1
      simp
      have:s.data.size=s.size:=rfl
      have h2:s.size=0:=by omega
      have h3:s.data.size=0:=by rw[this];exact h2
      simpa using h3
    unfold pu pres
    rw[if_neg (by omega),hn,if_pos (by simp)]
    unfold pv pfin
    rw[if_neg (by omega),if_neg]
    rw[ByteArray.toList_eq s,hn]
    exact I_ne _
  · simp only[if_neg hz]
    refine evs ?_
    simp only[impl_ParseUint.j0]
    unfold pu
    by_cases h10:s.size >10
    · rw[if_pos h10]
      simp only[decide_eq_true (show(s.size:Int) >10 by omega),if_true]
      exact Ev.now _
    rw[if_neg h10]
    simp only[decide_eq_false (show ¬(s.size:Int) >10 by omega),Bool.false_eq_true,if_false]
    refine pl (G:=fun k x i=>impl_ParseUint.l0 k s x i) s (by omega) ?_ ?_ s.data.toList 0 0 rfl (by simp) (by decide)
    · intro k x i hx hi
      have hb:=bt_range s (i:Int)
      simp only[impl_ParseUint.l0]
      rw[if_pos (by omega),if_pos (by omega)]
      by_cases h1:bt s (i:Int)<48
      · rw[if_pos h1,if_pos h1]
      rw[if_neg h1,if_neg h1]
      by_cases h2:bt s (i:Int) >57
      · rw[if_pos h2,if_pos h2]
      rw[if_neg h2,if_neg h2]
      rw[Loops.wrap_succ hi (by omega),IntWalk.wrap64_in ((x:Int) * 10) (by omega),show(bt s (i:Int) - 48) % 256=bt s (i:Int) - 48 by omega,IntWalk.wrap64_in _ (by omega),Int.mul_comm]
    · intro x hx
      refine evs ?_
      simp only[impl_ParseUint.l0]
      simp only[if_neg (show ¬(s.size:Int)<(s.size:Int) by omega)]
      refine Loops.Ev.const ?_
      unfold pfin
      by_cases h9:(x:Int) >1000000000
      · simp only[if_pos h9]
      · simp only[if_neg h9,ifmt_eq (x:Int) (by omega) (by omega),Option.bind_some]
        by_cases he:(I (x:Int)).toList=s.toList
        · simp only[if_pos he]
        · simp only[if_neg he]
theorem pv_append:∀(a b:List UInt8) (x:Nat),pv (a++b) x=pv b (pv a x)
  | [],_,_=>rfl
  |c::a,b,x=>by rw[List.cons_append,pv,pv,pv_append a b]
theorem dig_all (u:Nat):(∀c ∈ Lib.decDigits u,Dig c)∧pv (Lib.decDigits u) 0=u∧(32:UInt8) ∉ Lib.decDigits u∧Lib.decDigits u≠ []:=by
  induction u using Nat.strongRecOn with
  |_ u ih=>
    have hd:∀v:Nat,v<10→(UInt8.ofNat (48+v)).toNat=48+v:=fun v hv=>by
      rw[UInt8.toNat_ofNat'];omega
    have h32:∀v:Nat,v<10→ ¬(32:UInt8)=UInt8.ofNat (48+v):=fun v hv e=>by
      have:=congrArg UInt8.toNat e
      rw[hd v hv]at this
      simp at this
      omega
    by_cases h:u<10
    · rw[Lib.decDigits_one h]
      refine⟨fun c hc=> ?_,?_,?_,by simp⟩
      · simp only[List.mem_singleton]at hc
        subst hc
        unfold Dig
        rw[hd u h];omega
      · simp only[pv,hd u h];omega
      · simp only[List.mem_singleton];exact h32 u h
    · rw[Lib.decDigits,dif_neg h]
      obtain⟨i1,i2,i3,_⟩:=ih (u / 10) (by omega)
      refine⟨fun c hc=> ?_,?_,?_,by simp⟩
      · rcases List.mem_append.1 hc with hc|hc
        · exact i1 c hc
        · simp only[List.mem_singleton]at hc
          subst hc
          unfold Dig
          rw[hd _ (Nat.mod_lt _ (by decide))];omega
      · rw[pv_append,i2]
        simp only[pv,hd _ (Nat.mod_lt u (by decide:0<10))]
        omega
      · rw[List.mem_append,not_or]
        exact⟨i3,by simp only[List.mem_singleton];exact h32 _ (Nat.mod_lt _ (by decide))⟩
theorem I_data (u:Nat):(I (u:Int)).data.toList=Lib.decDigits u:=by
  show(Lib.itoa (u:Int)).toArray.toList=_
  rw[Lib.itoa_nonneg]
theorem decl_le:∀(m u:Nat),u<10 ^ (m+1)→(Lib.decDigits u).length≤m+1:=by
  intro m
  induction m with
  |zero=>intro u hu;rw[Lib.decDigits_one (by simpa using hu)];simp
  |succ m ih=>
    intro u hu
    by_cases h:u<10
    · rw[Lib.decDigits_one h];simp
    · rw[Lib.decDigits,dif_neg h,List.length_append]
      have:=ih (u / 10) (by rw[Nat.pow_succ]at hu;omega)
      simp
      omega
theorem pu_I (a:Int) (h0:0≤a) (h1:a≤9999):pu (I a)=(a,true):=by
  obtain⟨u,rfl⟩:∃u:Nat,a=u:=⟨a.toNat,by omega⟩
  obtain⟨d1,d2,_,_⟩:=dig_all u
  have hl:=decl_le 3 u (by omega)
  have hs:(I (u:Int)).size=(Lib.decDigits u).length:=by
    rw[←I_data u];simp
  unfold pu pres
  rw[if_neg (by rw[hs];omega),I_data,if_pos d1,d2]
  unfold pfin
  rw[if_neg (by omega),if_pos rfl]
theorem I_good (a:Int) (h0:0≤a):Good (I a).data.toList:=by
  obtain⟨u,rfl⟩:∃u:Nat,a=u:=⟨a.toNat,by omega⟩
  rw[I_data]
  exact⟨(dig_all u).2.2.2,(dig_all u).2.2.1⟩
def Val (c:UInt8):Prop:=32≤c.toNat∧c.toNat≤126
instance (c:UInt8):Decidable (Val c):=by unfold Val;exact inferInstance
def toB (x:List UInt8):ByteArray:=⟨x.toArray⟩
theorem toB_data (x:List UInt8):(toB x).data.toList=x:=by simp[toB]
theorem B_ext {a b:ByteArray} (h:a.data.toList=b.data.toList):a=b:=by
  apply ByteArray.ext
  exact Array.toList_inj.1 h
def sfin (fs:List (List UInt8)):List ByteArray×Bool:=if fs.length >24 then([],false) else(fs.map toB,true)
def sf (s:ByteArray):List ByteArray×Bool:=if s.size >600 then([],false) else if ∀c ∈ s.data.toList,Val c then sfin (go [] s.data.toList) else([],false)
def sres (r cur:List UInt8) (acc:List (List UInt8)):List ByteArray×Bool:=if ∀c ∈ r,Val c then sfin (acc++go cur r) else([],false)
theorem ssf_loop (s:ByteArray) (hs:s.size≤600):∀(r:List UInt8) (i b:Nat) (acc:List (List UInt8)),s.data.toList.drop i=r→i+r.length=s.size→b≤i→acc.length≤i→
    Ev (fun k=>spec_SplitFields.l0 k s (acc.map toB) (b:Int) (i:Int)) (sres r ((s.data.toList.take i).drop b) acc)
  | [],i,b,acc,h,hi,hb,ha=>by
    have e:i=s.size:=by simpa using hi
    have hcl:((s.data.toList.take i).drop b).length=i - b:=by simp;omega
    refine evs ?_
    simp only[spec_SplitFields.l0]
    simp only[if_pos (show(i:Int)≤(s.size:Int) by omega),if_neg (show ¬(i:Int)<(s.size:Int) by omega)]
    refine evs ?_
    simp only[spec_SplitFields.j1,Bool.false_eq_true,if_false]
    simp only[if_neg (show ¬(i:Int)<(s.size:Int) by omega)]
    refine evs ?_
    simp only[spec_SplitFields.j2,Bool.false_eq_true,if_false]
    rw[IntWalk.wrap64_in _ (by omega)]
    unfold sres
    rw[if_pos (by simp)]
    have fin:∀a2:List (List UInt8),Ev (fun k=>spec_SplitFields.l0 k s (a2.map toB) ((i:Int)+1) ((i:Int)+1)) (sfin a2):=fun a2=>by
      refine Loops.Ev.one (fun k=> ?_)
      simp only[spec_SplitFields.l0]
      rw[if_neg (by omega)]
      unfold sfin
      by_cases h24:a2.length >24
      · rw[if_pos h24,if_pos (by simp;omega)]
      · rw[if_neg h24,if_neg (by simp;omega)]
    by_cases hbi:b<i
    · simp only[if_pos (show(b:Int)<(i:Int) by omega),if_pos (show(0:Int)≤(b:Int) by omega),if_pos (show(b:Int)≤(i:Int) by omega),if_pos (show(i:Int)≤(s.size:Int) by omega)]
      simp only[if_pos (show(acc.map toB).length<8796093022208 by simp;omega)]
      have hx:s.extract (b:Int).toNat (i:Int).toNat=toB ((s.data.toList.take i).drop b):=by
        apply B_ext
        rw[toB_data,Lib.extract_data,List.drop_take]
        simp
      rw[hx,show acc.map toB++ [toB ((s.data.toList.take i).drop b)]=(acc++ [(s.data.toList.take i).drop b]).map toB by simp]
      refine Loops.Ev.eq (fin _) ?_
      rw[go,if_neg (fun e0=>by rw[e0]at hcl;simp at hcl;omega)]
    · simp only[if_neg (show ¬(b:Int)<(i:Int) by omega)]
      refine Loops.Ev.eq (fin _) ?_
      rw[go,if_pos (List.length_eq_zero_iff.1 (by omega)),List.append_nil]
  |c::r,i,b,acc,h,hi,hb,ha=>by
    obtain⟨hbt,hlt,hd⟩:=bt_drop h
    have hc:=c.toNat_lt
    have hcl:((s.data.toList.take i).drop b).length=i - b:=by
      have:s.data.toList.length=s.size:=by simp
      rw[List.length_drop,List.length_take,this];omega
    refine evs ?_
    simp only[spec_SplitFields.l0]
    simp only[if_pos (show(i:Int)≤(s.size:Int) by omega),if_pos (show(i:Int)<(s.size:Int) by omega),if_pos (show(0:Int)≤(i:Int) by omega),hbt]
    by_cases hv:Val c
    · have hv':=hv
      unfold Val at hv'
      simp only[if_neg (show ¬(c.toNat:Int)<32 by omega),decide_eq_false (show ¬(c.toNat:Int) >126 by omega)]
      refine evs ?_
      simp only[spec_SplitFields.j1,Bool.false_eq_true,if_false]
      simp only[if_pos (show(i:Int)<(s.size:Int) by omega),if_pos (show(0:Int)≤(i:Int) by omega),hbt]
      refine evs ?_
      have hsr:∀cur a2,sres (c::r) cur a2=if ∀x ∈ r,Val x then sfin (a2++go cur (c::r)) else([],false):=fun cur a2=>by
        unfold sres
        simp only[List.forall_mem_cons,hv,true_and]
      by_cases h32:c=32
      · subst h32
        simp only[spec_SplitFields.j2]
        simp only[show(((32:UInt8).toNat:Int) !=32)=false from by decide,Bool.false_eq_true,if_false]
        rw[IntWalk.wrap64_in _ (by omega),show(i:Int)+1=((i+1:Nat):Int) by omega]
        have hcur:(s.data.toList.take (i+1)).drop (i+1)= []:=by
          apply List.length_eq_zero_iff.1
          rw[List.length_drop,List.length_take];omega
        by_cases hbi:b<i
        · simp only[if_pos (show(b:Int)<(i:Int) by omega),if_pos (show(0:Int)≤(b:Int) by omega),if_pos (show(b:Int)≤(i:Int) by omega),if_pos (show(i:Int)≤(s.size:Int) by omega)]
          simp only[if_pos (show(acc.map toB).length<8796093022208 by simp;omega)]
          have hx:s.extract (b:Int).toNat (i:Int).toNat=toB ((s.data.toList.take i).drop b):=by
            apply B_ext
            rw[toB_data,Lib.extract_data,List.drop_take]
            simp
          rw[hx,show acc.map toB++ [toB ((s.data.toList.take i).drop b)]=(acc++ [(s.data.toList.take i).drop b]).map toB by simp]
          have ih:=ssf_loop s hs r (i+1) (i+1) (acc++ [(s.data.toList.take i).drop b]) hd (by simp at hi;omega) (Nat.le_refl _) (by simp;omega)
          refine Loops.Ev.eq ih ?_
          rw[hsr,go,if_pos rfl,if_neg (show ¬(s.data.toList.take i).drop b= [] from fun e0=>by rw[e0]at hcl;simp at hcl;omega),hcur]
          unfold sres
          rw[List.append_assoc];rfl
        · simp only[if_neg (show ¬(b:Int)<(i:Int) by omega)]
          have ih:=ssf_loop s hs r (i+1) (i+1) acc hd (by simp at hi;omega) (Nat.le_refl _) (by omega)
          refine Loops.Ev.eq ih ?_
          rw[hsr,go,if_pos rfl,if_pos (show(s.data.toList.take i).drop b= [] from List.length_eq_zero_iff.1 (by omega)),hcur]
          rfl
      · have hne:((c.toNat:Int) !=32)=true:=by
          simp only[bne_iff_ne,ne_eq]
          intro e0
          apply h32
          apply UInt8.toNat_inj.1
          show c.toNat=32
          omega
        simp only[spec_SplitFields.j2,hne,if_true]
        rw[IntWalk.wrap64_in _ (by omega),show(i:Int)+1=((i+1:Nat):Int) by omega]
        have ih:=ssf_loop s hs r (i+1) b acc hd (by simp at hi;omega) (by omega) (by omega)
        refine Loops.Ev.eq ih ?_
        have hcur:(s.data.toList.take (i+1)).drop b=(s.data.toList.take i).drop b++ [c]:=by
          have hl:i<s.data.toList.length:=by simpa using hlt
          have hg:s.data.toList[i]=c:=by
            rw[List.drop_eq_getElem_cons hl]at h
            simp only[List.cons.injEq]at h
            exact h.1
          rw[List.take_succ_eq_append_getElem hl,hg,List.drop_append_of_le_length (by rw[List.length_take];omega)]
        rw[hsr,go,if_neg h32,hcur]
        rfl
    · have hsr:sres (c::r) ((s.data.toList.take i).drop b) acc=([],false):=by
        unfold sres
        rw[if_neg (fun hh=>hv (hh c (by simp)))]
      rw[hsr]
      unfold Val at hv
      by_cases h32:(c.toNat:Int)<32
      · simp only[if_pos h32]
        refine Loops.Ev.one (fun k=> ?_)
        simp only[spec_SplitFields.j1,if_true]
      · simp only[if_neg h32,decide_eq_true (show(c.toNat:Int) >126 by omega)]
        refine Loops.Ev.one (fun k=> ?_)
        simp only[spec_SplitFields.j1,if_true]
theorem ssf_eq (s:ByteArray):Ev (fun k=>spec_SplitFields.f k s) (sf s):=by
  unfold spec_SplitFields.f sf
  simp only[Option.bind_some]
  by_cases h:s.size >600
  · rw[if_pos h];simp only[if_pos (show(s.size:Int) >600 by omega)];exact Ev.now _
  · rw[if_neg h]
    simp only[if_neg (show ¬(s.size:Int) >600 by omega)]
    refine Loops.Ev.eq (ssf_loop s (by omega) s.data.toList 0 0 [] rfl (by simp) (Nat.le_refl _) (Nat.le_refl _)) ?_
    unfold sres
    simp
theorem isf_l1 (P:List ByteArray) (hP:P.length≤601):∀(r:List ByteArray) (i:Nat) (acc:List ByteArray),P.drop i=r→i+r.length=P.length→acc.length≤i→
    Ev (fun k=>impl_SplitFields.l1 k acc P (P.length:Int) (i:Int)) (if(acc++r.filter fun x=>decide (x.data.toList≠ [])).length >24 then([],false) else(acc++r.filter fun x=>decide (x.data.toList≠ []),true))
  | [],i,acc,h,hi,ha=>by
    have e:i=P.length:=by simpa using hi
    refine Loops.Ev.one (fun k=> ?_)
    simp only[impl_SplitFields.l1]
    rw[if_neg (by omega)]
    simp only[List.filter_nil,List.append_nil]
    by_cases h24:acc.length >24
    · rw[if_pos h24,if_pos (by omega)]
    · rw[if_neg h24,if_neg (by omega)]
  |x::r,i,acc,h,hi,ha=>by
    have hl:i<P.length:=by simp at hi;omega
    have hx:rdOf ByteArray.empty P (i:Int)=x:=by
      rw[List.drop_eq_getElem_cons hl]at h
      simp only[List.cons.injEq]at h
      rw[Loops.rdOf_nat,List.getD_eq_getElem?_getD,List.getElem?_eq_getElem hl]
      exact h.1
    have hd:P.drop (i+1)=r:=by
      rw[List.drop_eq_getElem_cons hl]at h
      simp only[List.cons.injEq]at h
      exact h.2
    refine evs ?_
    simp only[impl_SplitFields.l1]
    simp only[if_pos (show(i:Int)<(P.length:Int) by omega),if_pos (show(0:Int)≤(i:Int) by omega),hx,ByteArray.toList_eq]
    rw[Loops.wrap_succ hl (by omega)]
    by_cases he:x.data.toList= []
    · simp only[if_pos he]
      refine Loops.Ev.eq (isf_l1 P hP r (i+1) acc hd (by simp at hi;omega) (by omega)) ?_
      rw[List.filter_cons_of_neg (by rw[decide_eq_true_eq];exact fun h=>h he)]
    · simp only[if_neg he,if_pos (show acc.length<8796093022208 by omega)]
      refine Loops.Ev.eq (isf_l1 P hP r (i+1) (acc++ [x]) hd (by simp at hi;omega) (by simp;omega)) ?_
      rw[List.filter_cons_of_pos (by rw[decide_eq_true_eq];exact he),List.append_assoc]
      rfl
theorem isf_l0 (s:ByteArray) (hs:s.size≤600) {R:List ByteArray×Bool} (hR:Ev (fun k=>impl_SplitFields.l0 k s (s.size:Int)) R):∀(r:List UInt8) (i:Nat),s.data.toList.drop i=r→i+r.length=s.size→
    Ev (fun k=>impl_SplitFields.l0 k s (i:Int)) (if ∀c ∈ r,Val c then R else([],false))
  | [],i,h,hi=>by
    have e:i=s.size:=by simpa using hi
    subst e
    rw[if_pos (by simp)]
    exact hR
  |c::r,i,h,hi=>by
    obtain⟨hbt,hlt,hd⟩:=bt_drop h
    refine evs ?_
    simp only[impl_SplitFields.l0]
    simp only[if_pos (show(i:Int)<(s.size:Int) by omega),if_pos (show(0:Int)≤(i:Int) by omega),hbt]
    by_cases hv:Val c
    · have hv':=hv
      unfold Val at hv'
      simp only[if_neg (show ¬(c.toNat:Int)<32 by omega),if_neg (show ¬(c.toNat:Int) >126 by omega)]
      rw[Loops.wrap_succ hlt (by omega)]
      refine Loops.Ev.eq (isf_l0 s hs hR r (i+1) hd (by simp at hi;omega)) ?_
      simp only[List.forall_mem_cons,hv,true_and]
    · rw[if_neg (fun hh=>hv (hh c (by simp)))]
      unfold Val at hv
      by_cases h32:(c.toNat:Int)<32
      · simp only[if_pos h32];exact Ev.now _
      · simp only[if_neg h32,if_pos (show(c.toNat:Int) >126 by omega)];exact Ev.now _
theorem isf_eq (s:ByteArray):Ev (fun k=>impl_SplitFields.f k s) (sf s):=by
  unfold impl_SplitFields.f sf
  by_cases h:s.size >600
  · rw[if_pos h];simp only[if_pos (show(s.size:Int) >600 by omega)];exact Ev.now _
  rw[if_neg h]
  simp only[if_neg (show ¬(s.size:Int) >600 by omega)]
  refine isf_l0 s (by omega) ?_ s.data.toList 0 rfl (by simp)
  refine evs ?_
  simp only[impl_SplitFields.l0]
  simp only[if_neg (show ¬(s.size:Int)<(s.size:Int) by omega)]
  have h1:(1:Nat)≤(⟨#[32]⟩:ByteArray).size:=by decide
  have hf:strings_Split.f s ⟨#[32]⟩=some (Lib.splitB ⟨#[32]⟩ 0 (Lib.countB s ⟨#[32]⟩) s):=by
    unfold strings_Split.f
    rw[if_pos (by omega),if_pos h1]
  simp only[hf,Option.bind_some]
  have hm:=split_pcs s
  have hlen:=Lib.splitB_all ⟨#[32]⟩ h1 0 _ s rfl
  have hle:=Lib.countB_le ⟨#[32]⟩ h1 s.size s (Nat.le_refl _)
  generalize Lib.splitB ⟨#[32]⟩ 0 (Lib.countB s ⟨#[32]⟩) s=P at hm hlen
  refine Loops.Ev.eq (isf_l1 P (by omega) P 0 [] rfl (by simp) (Nat.le_refl _)) ?_
  have hfl:(P.filter fun x=>decide (x.data.toList≠ []))=(go [] s.data.toList).map toB:=by
    rw[go_nil_pcs,←hm]
    clear hm hlen
    induction P with
    |nil=>rfl
    |cons x r ih=>
      have hx:toB x.data.toList=x:=B_ext (toB_data _)
      unfold nes at ih ⊢
      rw[List.map_cons,List.filter_cons,List.filter_cons]
      by_cases he:x.data.toList= []
      · rw[if_neg (by simp[he]),if_neg (by simp[he])];exact ih
      · rw[if_pos (by simp[he]),if_pos (by simp[he]),List.map_cons,hx,ih]
  rw[List.nil_append,hfl]
  unfold sfin
  simp only[List.length_map]
theorem sf_good {s:ByteArray} {fs:List ByteArray} (h:sf s=(fs,true)):∀x ∈ fs,Good x.data.toList:=by
  unfold sf sfin at h
  split at h
  · cases h
  · split at h
    · split at h
      · cases h
      · simp only[Prod.mk.injEq,and_true]at h
        intro x hx
        rw[←h]at hx
        obtain⟨y,hy,rfl⟩:=List.mem_map.1 hx
        rw[toB_data]
        exact go_good _ [] (by simp) y hy
    · cases h
def wd (K:Int):List UInt8:=if K=1 then [97,100,100] else if K=2 then [116,97,107,101] else if K=3 then [108,105,110,101] else if K=4 then [102,105,110,105,115,104] else [114,101,108,101,97,115,101]
def ag (K a b c:Int):List Int:=if K=1 then [a,b,c] else if K=3∨K=5 then [a] else []
def tx (K a b c:Int):List (List UInt8):=wd K::(ag K a b c).map fun n=>(I n).data.toList
theorem fa_tx {K a b c:Int} (h:aok K a b c=true):(fa K a b c).1.data.toList=jn (tx K a b c)∧(fa K a b c).2=true:=by
  obtain⟨hK,_⟩:=aok_in h
  unfold fa
  rw[if_pos h]
  rcases hK with rfl|rfl|rfl|rfl|rfl<;>simp[tx,wd,ag,jn,ByteArray.data_append]
theorem fa_not {K a b c:Int} (h:¬aok K a b c=true):fa K a b c=((⟨#[]⟩:ByteArray),false):=by
  unfold fa;rw[if_neg h]
theorem wd_good (K:Int):Good (wd K):=by
  unfold wd Good
  split
  · decide
  split
  · decide
  split
  · decide
  split
  · decide
  · decide
theorem tx_good {K a b c:Int} (h:aok K a b c=true):∀x ∈ tx K a b c,Good x:=by
  obtain⟨_,ha,hb,hc⟩:=aok_in h
  intro x hx
  unfold tx ag at hx
  rcases List.mem_cons.1 hx with rfl|hx
  · exact wd_good K
  · obtain⟨n,hn,rfl⟩:=List.mem_map.1 hx
    refine I_good n ?_
    split at hn
    · simp only[List.mem_cons,List.not_mem_nil,or_false]at hn;omega
    · split at hn
      · simp only[List.mem_singleton]at hn;omega
      · cases hn
abbrev KS:List Km.E:= [([114,101,108,101,97,115,101],5),([102,105,110,105,115,104],4),([108,105,110,101],3),([116,97,107,101],2),([97,100,100],1)]
theorem look_wd {K:Int} (h:K=1∨K=2∨K=3∨K=4∨K=5):Km.look KS (wd K)=K:=by
  rcases h with rfl|rfl|rfl|rfl|rfl<;>rfl
def vl (rs:List ByteArray) (i:Nat):Int:=if i<rs.length then(pu (rs.getD i ByteArray.empty)).1 else 0
def allok (rs:List ByteArray):Bool:=rs.all fun x=>(pu x).2
theorem core {K a b c:Int} {fs:List ByteArray} (h:aok K a b c=true) (hf:∀x ∈ fs,Good x.data.toList) (he:(fa K a b c).1.data.toList=jn (fs.map (·.data.toList))):fs.map (·.data.toList)=tx K a b c:=by
  rw[(fa_tx h).1]at he
  refine(jn_inj (tx_good h) ?_ he).symm
  intro x hx
  obtain⟨y,hy,rfl⟩:=List.mem_map.1 hx
  exact hf y hy
theorem core_ok {K a b c:Int} {f0:ByteArray} {rs:List ByteArray} (h:aok K a b c=true) (hf:∀x ∈ f0::rs,Good x.data.toList) (he:(fa K a b c).1.data.toList=jn ((f0::rs).map (·.data.toList))):Km.look KS f0.data.toList=K∧allok rs=true:=by
  have hc:=core h hf he
  obtain⟨hK,ha,hb,hc'⟩:=aok_in h
  unfold tx at hc
  simp only[List.map_cons,List.cons.injEq]at hc
  refine⟨by rw[hc.1];exact look_wd hK,?_⟩
  have hrs:rs=(ag K a b c).map I:=by
    have h2:=hc.2
    clear hc he hf
    generalize ag K a b c=ns at h2
    induction ns generalizing rs with
    |nil=>simpa using h2
    |cons n ns ih=>
      cases rs with
      |nil=>cases h2
      |cons x r=>
        simp only[List.map_cons,List.cons.injEq]at h2 ⊢
        exact⟨B_ext h2.1,ih h2.2⟩
  unfold allok
  rw[hrs,List.all_eq_true]
  intro x hx
  obtain⟨n,hn,rfl⟩:=List.mem_map.1 hx
  have hn':0≤n∧n≤9999:=by
    unfold ag at hn
    split at hn
    · simp only[List.mem_cons,List.not_mem_nil,or_false]at hn;omega
    · split at hn
      · simp only[List.mem_singleton]at hn;omega
      · cases hn
  rw[pu_I n hn'.1 hn'.2]
def pa (fs:List ByteArray):Int×Int×Int×Int×Bool:=match fs with
  | []=>(0,0,0,0,false)
  |f0::rs=>if rs.length≤3∧allok rs=true∧aok (Km.look KS f0.data.toList) (vl rs 0) (vl rs 1) (vl rs 2)=true∧(fa (Km.look KS f0.data.toList) (vl rs 0) (vl rs 1) (vl rs 2)).1.data.toList=jn ((f0::rs).map (·.data.toList)) then(Km.look KS f0.data.toList,vl rs 0,vl rs 1,vl rs 2,true) else(0,0,0,0,false)
def paa (s:ByteArray):Int×Int×Int×Int×Bool:=if(sf s).2=true then pa (sf s).1 else(0,0,0,0,false)
theorem ip_l0:∀(fs:List ByteArray) (i:Nat) (a b c:Int),Ev (fun k=>impl_ParseAct.l0 k fs i a b c) (if allok fs=true then some (if i≤0∧0<i+fs.length then(pu (fs.getD (0 - i) ByteArray.empty)).1 else a,if i≤1∧1<i+fs.length then(pu (fs.getD (1 - i) ByteArray.empty)).1 else b,if i≤2∧2<i+fs.length then(pu (fs.getD (2 - i) ByteArray.empty)).1 else c) else none)
  | [],i,a,b,c=>by
    refine Loops.Ev.const ?_
    unfold allok
    rw[if_pos (by simp),if_neg (by simp),if_neg (by simp),if_neg (by simp)]
  |f::fs,i,a,b,c=>by
    simp only[impl_ParseAct.l0]
    refine Ev.bind (ipu_eq f) ?_
    by_cases h:(pu f).2=true
    · simp only[if_pos h]
      refine Loops.Ev.eq (ip_l0 fs (i+1) _ _ _) ?_
      have ha:allok (f::fs)=allok fs:=by unfold allok;rw[List.all_cons,h,Bool.true_and]
      rw[ha]
      by_cases h2:allok fs=true
      · rw[if_pos h2,if_pos h2]
        have key:∀(m:Nat) (z:Int),(if i+1≤m∧m<i+1+fs.length then(pu (fs.getD (m - (i+1)) ByteArray.empty)).1 else if i=m then(pu f).1 else z)=if i≤m∧m<i+(f::fs).length then(pu ((f::fs).getD (m - i) ByteArray.empty)).1 else z:=by
          intro m z
          rw[List.length_cons]
          by_cases e:i=m
          · subst e
            rw[if_neg (by omega),if_pos rfl,if_pos (by omega),Nat.sub_self];rfl
          · by_cases hm:i+1≤m∧m<i+1+fs.length
            · rw[if_pos hm,if_pos (by omega),show m - i=(m - (i+1))+1 by omega];rfl
            · rw[if_neg hm,if_neg e,if_neg (by omega)]
        rw[key 0 a,key 1 b,key 2 c]
      · rw[if_neg h2,if_neg h2]
    · simp only[if_neg h]
      have ha:¬allok (f::fs)=true:=by unfold allok;rw[List.all_cons];simp[h]
      rw[if_neg ha]
      exact Ev.now _
theorem lens_small:∀(fs:List (List UInt8)) (n:Nat),(∀x ∈ fs,x.length≤n)→Lib.lens fs≤fs.length * n
  | [],n,_=>by simp[Lib.lens]
  |x::r,n,h=>by
    have:=lens_small r n (fun y hy=>h y (by simp[hy]))
    have hx:=h x (by simp)
    unfold Lib.lens at this ⊢
    simp only[List.map_cons,List.sum_cons,List.length_cons,Nat.succ_mul]
    omega
theorem go_short:∀(r cur:List UInt8),∀x ∈ go cur r,x.length≤cur.length+r.length
  | [],cur,x,hx=>by
    unfold go at hx
    split at hx
    · simp at hx
    · simp only[List.mem_singleton]at hx;subst hx;simp
  |c::r,cur,x,hx=>by
    unfold go at hx
    split at hx
    · split at hx
      · have:=go_short r [] x hx;simp at this ⊢;omega
      · rcases List.mem_cons.1 hx with rfl|hx
        · simp
        · have:=go_short r [] x hx;simp at this ⊢;omega
    · have:=go_short r (cur++ [c]) x hx;simp at this ⊢;omega
theorem sf_short {s:ByteArray} {fs:List ByteArray} (h:sf s=(fs,true)):∀x ∈ fs,x.data.toList.length≤600:=by
  unfold sf sfin at h
  split at h
  · cases h
  · rename_i h6
    split at h
    · split at h
      · cases h
      · simp only[Prod.mk.injEq,and_true]at h
        intro x hx
        rw[←h]at hx
        obtain⟨y,hy,rfl⟩:=List.mem_map.1 hx
        rw[toB_data]
        have:=go_short s.data.toList [] y hy
        simp at this
        have e:s.data.size=s.size:=rfl
        omega
    · cases h
theorem ipa_eq (s:ByteArray):Ev (fun k=>impl_ParseAct.f k s) (paa s):=by
  unfold impl_ParseAct.f paa
  refine Ev.bind (isf_eq s) ?_
  rcases hs:sf s with⟨fs,ok⟩
  cases ok with
  |false=>simp only[Bool.false_eq_true,if_false];exact Ev.now _
  |true=>
    simp only[if_true]
    have hg:=sf_good hs
    have hsh:=sf_short hs
    cases fs with
    |nil=>exact Ev.now _
    |cons f0 rs=>
      have h0:=hsh f0 (by simp)
      have h0':f0.size≤600:=by simpa using h0
      dsimp only
      by_cases h3:rs.length≤3
      · simp only[if_pos h3,if_pos (show f0.size≤9223372036854775807 by omega)]
        refine Ev.bind (ip_l0 rs 0 0 0 0) ?_
        unfold pa
        by_cases hok:allok rs=true
        · simp only[if_pos hok]
          have hv:∀m:Nat,(if 0≤m∧m<0+rs.length then(pu (rs.getD (m - 0) ByteArray.empty)).1 else(0:Int))=vl rs m:=fun m=>by
            unfold vl
            by_cases hm:m<rs.length
            · rw[if_pos (by omega),if_pos hm];rfl
            · rw[if_neg (by omega),if_neg hm]
          simp only[hv 0,hv 1,hv 2]
          refine Ev.bind (ifa_eq (Km.look KS f0.data.toList) (vl rs 0) (vl rs 1) (vl rs 2)) ?_
          by_cases hk:aok (Km.look KS f0.data.toList) (vl rs 0) (vl rs 1) (vl rs 2)=true
          · obtain⟨e1,e2⟩:=fa_tx hk
            simp only[e2,if_true]
            have hl:=lens_small ((f0::rs).map (·.data.toList)) 600 (fun x hx=>by obtain⟨y,hy,rfl⟩:=List.mem_map.1 hx;exact hsh y hy)
            rw[List.length_map,List.length_cons]at hl
            have hj:strings_Join.f (f0::rs) ⟨#[32]⟩=some (toB (jn ((f0::rs).map (·.data.toList)))):=by
              unfold strings_Join.f
              rw[if_pos rfl,if_pos (by rw[List.length_cons];omega),if_pos (by omega),join_jn]
              rfl
            simp only[hj,Option.bind_some,ByteArray.toList_eq,toB_data]
            refine Loops.Ev.const ?_
            by_cases he:(fa (Km.look KS f0.data.toList) (vl rs 0) (vl rs 1) (vl rs 2)).1.data.toList=jn ((f0::rs).map (·.data.toList))
            · rw[if_pos he,if_pos ⟨h3,hok,hk,he⟩]
            · rw[if_neg he,if_neg (fun hh=>he hh.2.2.2)]
          · simp only[fa_not hk,Bool.false_eq_true,if_false]
            rw[if_neg (fun hh=>hk hh.2.2.1)]
            exact Ev.now _
        · simp only[if_neg hok]
          rw[if_neg (fun hh=>hok hh.2.1)]
          exact Ev.now _
      · simp only[if_neg h3]
        unfold pa
        simp only[if_neg (show ¬(rs.length≤3∧_) from fun hh=>h3 hh.1)]
        exact Ev.now _
theorem sp_l1 (s:ByteArray) (ns:List Int) (h3:3≤ns.length) (res:Int×Int×Int×Int×Bool):
    ∀(m:Nat) (K:Int),K+m=6→1≤K→
    (∀J:Int,1≤J→J<K→ ¬(aok J (rd ns 0) (rd ns 1) (rd ns 2)=true∧(fa J (rd ns 0) (rd ns 1) (rd ns 2)).1.data.toList=s.data.toList))→
    (res=(0,0,0,0,false)∧(∀J:Int,¬(aok J (rd ns 0) (rd ns 1) (rd ns 2)=true∧(fa J (rd ns 0) (rd ns 1) (rd ns 2)).1.data.toList=s.data.toList))∨
     ∃J:Int,res=(J,rd ns 0,rd ns 1,rd ns 2,true)∧aok J (rd ns 0) (rd ns 1) (rd ns 2)=true∧(fa J (rd ns 0) (rd ns 1) (rd ns 2)).1.data.toList=s.data.toList∧
       ∀J':Int,(aok J' (rd ns 0) (rd ns 1) (rd ns 2)=true∧(fa J' (rd ns 0) (rd ns 1) (rd ns 2)).1.data.toList=s.data.toList)→J'=J)→
    Ev (fun k=>spec_ParseAct.l1 k s ns K) res
  |0,K,hK,h1,hJ,hr=>by
    refine evs ?_
    simp only[spec_ParseAct.l1]
    simp only[if_neg (show ¬K≤5 by omega)]
    rcases hr with⟨rfl,_⟩|⟨J,_,hk,he,_⟩
    · exact Ev.now _
    · obtain⟨hj,_⟩:=aok_in hk
      exact absurd ⟨hk,he⟩ (hJ J (by omega) (by omega))
  |m+1,K,hK,h1,hJ,hr=>by
    refine evs ?_
    simp only[spec_ParseAct.l1]
    simp only[if_pos (show K≤5 by omega),if_pos (show(0:Int)<(ns.length:Int) by omega),if_pos (show(1:Int)<(ns.length:Int) by omega),if_pos (show(2:Int)<(ns.length:Int) by omega)]
    refine Ev.bind (sfa_eq K (rd ns 0) (rd ns 1) (rd ns 2)) ?_
    simp only[ByteArray.toList_eq]
    have go_on:¬(aok K (rd ns 0) (rd ns 1) (rd ns 2)=true∧(fa K (rd ns 0) (rd ns 1) (rd ns 2)).1.data.toList=s.data.toList)→Ev (fun k=>spec_ParseAct.l1 k s ns (wrap64 (K+1))) res:=fun hn=>by
      rw[IntWalk.wrap64_in _ (by omega)]
      refine sp_l1 s ns h3 res m (K+1) (by omega) (by omega) (fun J a b=> ?_) hr
      by_cases e:J=K
      · subst e;exact hn
      · exact hJ J a (by omega)
    by_cases hk:aok K (rd ns 0) (rd ns 1) (rd ns 2)=true
    · simp only[(fa_tx hk).2,if_true]
      by_cases he:(fa K (rd ns 0) (rd ns 1) (rd ns 2)).1.data.toList=s.data.toList
      · simp only[if_pos he]
        rcases hr with⟨_,hn⟩|⟨J,rfl,_,_,hu⟩
        · exact absurd ⟨hk,he⟩ (hn K)
        · rw[hu K ⟨hk,he⟩];exact Ev.now _
      · simp only[if_neg he]
        exact go_on (fun hh=>he hh.2)
    · simp only[fa_not hk,Bool.false_eq_true,if_false]
      exact go_on (fun hh=>hk hh.1)
theorem vl_rd (rs:List ByteArray) (i:Nat) (hi:i<3):rd (rs.map (fun x=>(pu x).1)++ [0,0,0]) (i:Int)=vl rs i:=by
  rw[Loops.rd_nat,List.getD_eq_getElem?_getD]
  unfold vl
  by_cases h:i<rs.length
  · rw[if_pos h,List.getElem?_append_left (by simpa using h),List.getElem?_map,List.getElem?_eq_getElem h,List.getD_eq_getElem?_getD,List.getElem?_eq_getElem h];rfl
  · rw[if_neg h,List.getElem?_append_right (by simp;omega),List.length_map]
    obtain⟨j,hj⟩:∃j,i - rs.length=j:=⟨_,rfl⟩
    have:j<3:=by omega
    rw[hj]
    have h4:j=0∨j=1∨j=2:=by omega
    rcases h4 with rfl|rfl|rfl<;>rfl
theorem sp_l0 (f0:ByteArray) (all:List ByteArray) (hall:all.length≤3) (hg:∀x ∈ f0::all,Good x.data.toList) (hsh:∀x ∈ f0::all,x.data.toList.length≤600):
    ∀(rs done:List ByteArray),all=done++rs→ ∀(s:ByteArray),s.data.toList=jn ((f0::done).map (·.data.toList))→s.size≤601 * (done.length+1)→
    Ev (fun k=>spec_ParseAct.l0 k (f0::all) s (done.map fun x=>(pu x).1) ((done.length+1:Nat):Int)) (pa (f0::all))
  | [],done,h,s,hs,hz=>by
    rw[List.append_nil]at h
    subst h
    refine evs ?_
    simp only[spec_ParseAct.l0]
    simp only[if_neg (show ¬((all.length+1:Nat):Int)<(((f0::all).length:Nat):Int) by simp),Option.bind_some]
    simp only[if_pos (show(all.map fun x=>(pu x).1).length+([0,0,0]:List Int).length<17592186044416 by simp;omega)]
    refine sp_l1 s _ (by simp) (pa (f0::all)) 5 1 (by omega) (by omega) (fun J a b=>by omega) ?_
    have v0:rd (all.map (fun x=>(pu x).1)++ [0,0,0]) 0=vl all 0:=vl_rd all 0 (by omega)
    have v1:rd (all.map (fun x=>(pu x).1)++ [0,0,0]) 1=vl all 1:=vl_rd all 1 (by omega)
    have v2:rd (all.map (fun x=>(pu x).1)++ [0,0,0]) 2=vl all 2:=vl_rd all 2 (by omega)
    rw[v0,v1,v2,hs]
    unfold pa
    dsimp only
    by_cases hc:all.length≤3∧allok all=true∧aok (Km.look KS f0.data.toList) (vl all 0) (vl all 1) (vl all 2)=true∧(fa (Km.look KS f0.data.toList) (vl all 0) (vl all 1) (vl all 2)).1.data.toList=jn ((f0::all).map (·.data.toList))
    · rw[if_pos hc]
      right
      refine⟨_,rfl,hc.2.2.1,hc.2.2.2,fun J' hJ'=> ?_⟩
      exact(core_ok hJ'.1 hg hJ'.2).1.symm
    · rw[if_neg hc]
      left
      refine⟨rfl,fun J hJ=>hc ?_⟩
      obtain⟨e1,e2⟩:=core_ok hJ.1 hg hJ.2
      rw[e1]
      exact⟨hall,e2,hJ.1,hJ.2⟩
  |x::rs,done,h,s,hs,hz=>by
    have hlen:all.length=done.length+(rs.length+1):=by rw[h];simp
    have hx:rdOf ByteArray.empty (f0::all) ((done.length+1:Nat):Int)=x:=by
      rw[Loops.rdOf_nat,List.getD_eq_getElem?_getD,List.getElem?_cons_succ,h,List.getElem?_append_right (Nat.le_refl _),Nat.sub_self];rfl
    have hxs:=hsh x (by rw[h];simp)
    have hxs':x.size≤600:=by simpa using hxs
    have z1:(⟨#[32]⟩:ByteArray).size=1:=rfl
    refine evs ?_
    simp only[spec_ParseAct.l0]
    simp only[if_pos (show((done.length+1:Nat):Int)<(((f0::all).length:Nat):Int) by rw[List.length_cons];omega),hx,ByteArray.size_append,z1]
    simp only[if_pos (show s.size+1≤9223372036854775807 by omega),if_pos (show(0:Int)≤((done.length+1:Nat):Int) by omega),if_pos (show s.size+1+x.size≤9223372036854775807 by omega)]
    refine Ev.bind (spu_eq x) ?_
    simp only[if_pos (show(done.map fun x=>(pu x).1).length<17592186044416 by rw[List.length_map];omega)]
    rw[IntWalk.wrap64_in _ (by omega),show((done.length+1:Nat):Int)+1=(((done++ [x]).length+1:Nat):Int) by simp,show(done.map fun x=>(pu x).1)++ [(pu x).1]=(done++ [x]).map fun x=>(pu x).1 by simp]
    refine sp_l0 f0 all hall hg hsh rs (done++ [x]) (by rw[h];simp) _ ?_ ?_
    · have e:=jn_snoc ((f0::done).map (·.data.toList)) x.data.toList (by simp)
      rw[show(f0::(done++ [x])).map (·.data.toList)=(f0::done).map (·.data.toList)++ [x.data.toList] by simp,e,←hs]
      simp[ByteArray.data_append]
    · rw[ByteArray.size_append,ByteArray.size_append,z1,List.length_append]
      simp
      omega
theorem spa_eq (s:ByteArray):Ev (fun k=>spec_ParseAct.f k s) (paa s):=by
  unfold spec_ParseAct.f paa
  refine Ev.bind (ssf_eq s) ?_
  rcases hs:sf s with⟨fs,ok⟩
  have hj:∀fs:List ByteArray,Ev (fun k=>spec_ParseAct.j0 k fs true) (0,0,0,0,false):=fun fs=>Loops.Ev.one (fun k=>by simp only[spec_ParseAct.j0,if_true])
  cases ok with
  |false=>simp only[Bool.false_eq_true,if_false];exact hj fs
  |true=>
    simp only[if_true]
    have hg:=sf_good hs
    have hsh:=sf_short hs
    by_cases h4:1≤fs.length∧fs.length≤4
    · have hi:spec_l01In.f (fs.length:Int) 1 4=some true:=by unfold spec_l01In.f;rw[if_pos (by omega),decide_eq_true (by omega)]
      simp only[hi,Option.bind_some,Bool.not_true]
      refine evs ?_
      simp only[spec_ParseAct.j0,Bool.false_eq_true,if_false]
      simp only[if_pos (show(0:Int)<(fs.length:Int) by omega)]
      cases fs with
      |nil=>simp at h4
      |cons f0 rs=>
        have e0:rdOf ByteArray.empty (f0::rs) 0=f0:=rfl
        rw[e0]
        have h0:=hsh f0 (by simp)
        refine sp_l0 f0 rs (by simp at h4;omega) hg hsh rs [] rfl f0 rfl ?_
        have:f0.size≤600:=by simpa using h0
        simp
        omega
    · have hi:spec_l01In.f (fs.length:Int) 1 4=some false:=by
        unfold spec_l01In.f
        by_cases h1:(fs.length:Int) ≥ 1
        · rw[if_pos h1,decide_eq_false (by omega)]
        · rw[if_neg h1]
      simp only[hi,Option.bind_some,Bool.not_false]
      refine Loops.Ev.eq (hj fs) ?_
      cases fs with
      |nil=>rfl
      |cons f0 rs=>
        unfold pa
        simp at h4
        dsimp only
        rw[if_neg (fun hh=>by omega)]
def fmM (L:Nat) (i:Int) (O:Nat) (w P:Int):List ByteArray:= [(⟨#[106,111,98,115,32]⟩:ByteArray)++I (L:Int),(⟨#[110,111,119,32]⟩:ByteArray)++I i,(⟨#[111,117,116,32]⟩:ByteArray)++I (O:Int),(⟨#[119,97,115,116,101,100,32]⟩:ByteArray)++I w,(⟨#[112,114,105,110,116,101,100,32]⟩:ByteArray)++I (P+(O:Int))]
theorem mok_nums {L:List S26} {i p c:Int} {d:Bool} {r:Int} {h:Bool} {s n:Int} {A B:List Int} {w P:Int} (H:mok L i p c d r h s n A B w P=true):L.length≤12∧(0≤i∧i≤9999)∧B.length≤1048576∧(0≤w∧w≤100000)∧(0≤P∧P≤100000):=by
  unfold mok jobsOk lineOk at H
  simp only[Bool.and_eq_true,decide_eq_true_eq]at H
  obtain⟨⟨h1,_⟩,⟨h2,_⟩,h3,h4⟩:=H
  refine⟨h1,?_,by omega,by omega,h3⟩
  unfold nowOk at h4
  by_cases h0:(i==0 && (p==0 && (c==0 && (!d && (r==0 && (!h))))))=true
  · simp only[Bool.and_eq_true,beq_iff_eq]at h0
    omega
  · rw[if_neg h0]at h4
    simp only[Bool.and_eq_true]at h4
    have:=jok_true h4.1
    omega
theorem ifm_eq (L:List S26) (i p c:Int) (d:Bool) (r:Int) (h:Bool) (s n:Int) (A B:List Int) (w:Int) (st:Bool) (P:Int) (hA:A.length≤1048576) (hB:B.length≤1048576):
    Ev (fun k=>impl_FormatMachine.f k L i p c d r h s n A B w st P) (if mok L i p c d r h s n A B w P=true then fmM L.length i B.length w P else []):=by
  unfold impl_FormatMachine.f
  refine Ev.bind (imok_eq L i p c d r h s n A B w st P hA hB) ?_
  by_cases hk:mok L i p c d r h s n A B w P=true
  · simp only[if_pos hk]
    obtain⟨hL,hi,hB,hw,hP⟩:=mok_nums hk
    have sa:=I_size (L.length:Int) (by omega) (by omega)
    have sb:=I_size i (by omega) (by omega)
    have sc:=I_size (B.length:Int) (by omega) (by omega)
    have sd:=I_size w (by omega) (by omega)
    have se:=I_size (P+(B.length:Int)) (by omega) (by omega)
    rw[IntWalk.wrap64_in (P+(B.length:Int)) (by omega)]
    simp only[ifmt_eq (L.length:Int) (by omega) (by omega),ifmt_eq i (by omega) (by omega),ifmt_eq (B.length:Int) (by omega) (by omega),ifmt_eq w (by omega) (by omega),ifmt_eq (P+(B.length:Int)) (by omega) (by omega),Option.bind_some]
    refine Loops.Ev.const ?_
    rw[if_pos (by omega),if_pos (by omega),if_pos (by omega),if_pos (by omega),if_pos (by omega)]
    rfl
  · simp only[if_neg hk]
    exact Ev.now _
theorem sfm_eq (L:List S26) (i p c:Int) (d:Bool) (r:Int) (h:Bool) (s n:Int) (A B:List Int) (w:Int) (st:Bool) (P:Int) (hL:L.length≤4194304) (hA:A.length≤1048576) (hB:B.length≤1048576):
    Ev (fun k=>spec_FormatMachine.f k L i p c d r h s n A B w st P) (if mok L i p c d r h s n A B w P=true then fmM L.length i B.length w P else []):=by
  unfold spec_FormatMachine.f
  refine Ev.bind (smok_eq L i p c d r h s n A B w st P hL hA hB) ?_
  by_cases hk:mok L i p c d r h s n A B w P=true
  · simp only[if_pos hk]
    obtain⟨hL,hi,hB,hw,hP⟩:=mok_nums hk
    have sa:=I_size (L.length:Int) (by omega) (by omega)
    have sb:=I_size i (by omega) (by omega)
    have sc:=I_size (B.length:Int) (by omega) (by omega)
    have sd:=I_size w (by omega) (by omega)
    have se:=I_size (P+(B.length:Int)) (by omega) (by omega)
    rw[IntWalk.wrap64_in (P+(B.length:Int)) (by omega)]
    refine Ev.bind (sfmt_eq _ (by omega) (by omega)) ?_
    simp only[if_pos (show 5+(I (L.length:Int)).size≤9223372036854775807 by omega)]
    refine Ev.bind (sfmt_eq _ (by omega) (by omega)) ?_
    simp only[if_pos (show 4+(I i).size≤9223372036854775807 by omega)]
    refine Ev.bind (sfmt_eq _ (by omega) (by omega)) ?_
    simp only[if_pos (show 4+(I (B.length:Int)).size≤9223372036854775807 by omega)]
    refine Ev.bind (sfmt_eq _ (by omega) (by omega)) ?_
    simp only[if_pos (show 7+(I w).size≤9223372036854775807 by omega)]
    refine Ev.bind (sfmt_eq _ (by omega) (by omega)) ?_
    simp only[if_pos (show 8+(I (P+(B.length:Int))).size≤9223372036854775807 by omega)]
    exact Ev.now _
  · simp only[if_neg hk]
    exact Ev.now _
def zeroM:Mach:=([],0,0,0,false,0,false,0,0,[],[],0,false,0)
theorem zeroM_ok:mokM zeroM=true:=by decide+kernel
def lg:List UInt8→List UInt8→List (List UInt8)
  |cur,[]=> [cur]
  |cur,c::r=>if c=10 then cur::lg [] r else lg (cur++ [c]) r
theorem lg_none:∀s cur:List UInt8,(10:UInt8) ∉ s→lg cur s= [cur++s]
  | [],cur,_=>by simp[lg]
  |c::r,cur,h=>by
    simp only[List.mem_cons,not_or]at h
    rw[lg,if_neg (fun e=>h.1 e.symm),lg_none r _ h.2]
    simp
theorem lg_hit:∀p cur r:List UInt8,(10:UInt8) ∉ p→lg cur (p++10::r)=(cur++p)::lg [] r
  | [],cur,r,_=>by simp[lg]
  |c::p,cur,r,h=>by
    simp only[List.mem_cons,not_or]at h
    rw[List.cons_append,lg,if_neg (fun e=>h.1 e.symm),lg_hit p _ r h.2]
    simp
theorem lg_len:∀(r cur:List UInt8),(lg cur r).length≤r.length+1
  | [],cur=>by simp[lg]
  |c::r,cur=>by
    unfold lg
    split
    · have:=lg_len r [];simp;omega
    · have:=lg_len r (cur++ [c]);simp;omega
theorem occ_none10 (s:List UInt8) (h:(10:UInt8) ∉ s) (j:Nat):Lib.occAt s [10] j=false:=by
  cases hb:Lib.occAt s [10] j with
  |false=>rfl
  |true=>
    have:=Lib.occAt_head (c:=10) (t:= []) rfl hb
    exact absurd (List.mem_of_getElem? this) h
theorem splitK_lg:∀(n:Nat) (s:List UInt8),s.length≤n→Lib.splitK [10] 0 (Lib.count s [10]) s=lg [] s:=by
  intro n
  induction n with
  |zero=>
    intro s hs
    have:s= []:=List.length_eq_zero_iff.1 (by omega)
    subst this
    rw[Lib.count_miss (Lib.index_none (fun j _=>occ_none10 [] (by simp) j))]
    rfl
  |succ n ih=>
    intro s hs
    by_cases hm:(10:UInt8) ∈ s
    · obtain⟨p,r,rfl,hp⟩:=List.eq_append_cons_of_mem hm
      have hidx:Lib.index (p++10::r) [10]=(p.length:Nat):=by
        refine Lib.index_first (by simp) ?_ ?_
        · simp[Lib.occAt]
        · intro j hj
          cases hb:Lib.occAt (p++10::r) [10] j with
          |false=>rfl
          |true=>
            have:=Lib.occAt_head (c:=10) (t:= []) rfl hb
            rw[List.getElem?_append_left hj]at this
            exact absurd (List.mem_of_getElem? this) hp
      have hd:(p++10::r).drop (p.length+1)=r:=by simp[List.drop_append]
      rw[Lib.count_hit (by simp) hidx,Nat.add_comm]
      unfold Lib.splitK
      rw[hidx,if_neg (by simp),lg_hit p [] r hp]
      have e1:((p.length:Nat):Int).toNat=p.length:=by omega
      rw[e1]
      show(p++10::r).take (p.length+0)::Lib.splitK [10] 0 (Lib.count ((p++10::r).drop (p.length+1)) [10]) ((p++10::r).drop (p.length+1))=_
      rw[hd,ih r (by simp at hs;omega)]
      simp
    · rw[Lib.count_miss (Lib.index_none (fun j _=>occ_none10 s hm j)),lg_none s [] hm]
      rfl
theorem split_lg (s:ByteArray):Lib.splitB ⟨#[10]⟩ 0 (Lib.countB s ⟨#[10]⟩) s=(lg [] s.data.toList).map toB:=by
  have h:(Lib.splitB ⟨#[10]⟩ 0 (Lib.countB s ⟨#[10]⟩) s).map (·.data.toList)=lg [] s.data.toList:=by
    rw[Lib.splitB_data]
    exact splitK_lg _ _ (Nat.le_refl _)
  rw[←h,List.map_map]
  refine((List.map_congr_left (fun x _=> ?_)).trans (List.map_id _)).symm
  exact B_ext (toB_data _)
def accA (A:List S55):List ByteArray→Option (List S55)
  | []=>some A
  |l::r=>if(sf l).2=true∧(sf l).1.length=0 then accA A r else if(paa l).2.2.2.2=true then accA (A++ [⟨(paa l).1,(paa l).2.1,(paa l).2.2.1,(paa l).2.2.2.1⟩]) r else none
theorem paa_ok {l:ByteArray} (h:(paa l).2.2.2.2=true):aok (paa l).1 (paa l).2.1 (paa l).2.2.1 (paa l).2.2.2.1=true:=by
  unfold paa at h ⊢
  split at h
  · rename_i h1
    rw[if_pos h1]
    unfold pa at h ⊢
    split at h
    · cases h
    · split at h
      · rename_i h2
        rw[if_pos h2]
        exact h2.2.2.1
      · cases h
  · cases h
theorem act1_num {L:List S26} {i p c:Int} {d:Bool} {r:Int} {h:Bool} {s n:Int} {I O:List Int} {w:Int} {st:Bool} {P:Int} (K a b e:Int) (H:mok L i p c d r h s n I O w P=true):
    0≤(toM (act1 L i p c d r h s n I O w st P K a b e)).2∧(toM (act1 L i p c d r h s n I O w st P K a b e)).2≤9999:=by
  obtain⟨h1,h2,h3,h4⟩:=mok_parts H
  have hb:∀x:Bool,0≤bitJ x∧bitJ x≤9999:=fun x=>by cases x<;>decide
  have hl:=lineOk_parts h2
  unfold act1
  split
  · exact hb _
  split
  · split
    · rename_i hc
      unfold canTake at hc
      simp only[Bool.and_eq_true,decide_eq_true_eq]at hc
      have hj2:=jok_true (jobJ_ok h1 (show ¬nextJ L<0 by omega))
      show 0≤(jobJ L).f0∧(jobJ L).f0≤9999
      omega
    · show(0:Int)≤0∧(0:Int)≤9999
      omega
  split
  · exact hb _
  split
  · show 0≤s∧s≤9999
    omega
  · exact hb _
theorem runM_num:∀(xs:List S55) (M:Mach),mokM M=true→(∀x ∈ xs,aok x.f0 x.f1 x.f2 x.f3=true)→ ∀v ∈ (runM M xs).2,0≤v∧v≤9999:=by
  intro xs
  induction xs with
  |nil=>intro M _ _ v hv;simp[runM]at hv
  |cons x xs ih=>
    intro M hM hx v hv
    obtain⟨L,i,p,c,d,r,h,s,n,I,O,w,st,P⟩:=M
    obtain⟨M2,u,e,h2⟩:=doAct_mok (st:=st) x.f0 x.f1 x.f2 x.f3 (show mok L i p c d r h s n I O w P=true from hM)
    rw[runM_cons e]at hv
    rcases List.mem_cons.1 hv with rfl|hv
    · have:=act1_num (st:=st) x.f0 x.f1 x.f2 x.f3 (show mok L i p c d r h s n I O w P=true from hM)
      unfold doAct at e
      rw[if_pos (show mok L i p c d r h s n I O w P=true from hM),if_pos (hx x (by simp))]at e
      rw[e]at this
      obtain⟨L2,i2,p2,c2,d2,r2,h2,s2,n2,I2,O2,w2,st2,P2⟩:=M2
      exact this
    · exact ih M2 h2 (fun y hy=>hx y (by simp[hy])) v hv
def repM (M:Mach) (N:List Int):List ByteArray:=N.map I++fmM M.1.length M.2.1 M.2.2.2.2.2.2.2.2.2.2.1.length M.2.2.2.2.2.2.2.2.2.2.2.1 M.2.2.2.2.2.2.2.2.2.2.2.2.2
def finR:Option (List S55)→List ByteArray×Bool
  |none=>([],false)
  |some A=>if A.length >40 then([],false) else(repM (runM zeroM A).1 (runM zeroM A).2,true)
def runS (s:ByteArray):List ByteArray×Bool:=if s.size >20000 then([],false) else finR (accA [] ((lg [] s.data.toList).map toB))
theorem finR_len (x:Option (List S55)):(finR x).1.length≤45:=by
  cases x with
  |none=>simp[finR]
  |some A=>
    unfold finR
    dsimp only
    split
    · simp
    · have:=(runM_mok A zeroM zeroM_ok).2
      simp[repM,fmM]
      omega
theorem runS_len (s:ByteArray):(runS s).1.length≤45:=by
  unfold runS
  split
  · simp
  · exact finR_len _
theorem ir_l1 (M:Mach) (hM:mokM M=true) (N:List Int) (hN:N.length≤40) (hv:∀v ∈ N,0≤v∧v≤9999):∀(d i:Nat) (acc:List ByteArray),i+d=N.length→acc.length≤i→
    Ev (fun k=>impl_RunScript.l1 k acc N (N.length:Int) (i:Int) M.1 M.2.1 M.2.2.1 M.2.2.2.1 M.2.2.2.2.1 M.2.2.2.2.2.1 M.2.2.2.2.2.2.1 M.2.2.2.2.2.2.2.1 M.2.2.2.2.2.2.2.2.1 M.2.2.2.2.2.2.2.2.2.1 M.2.2.2.2.2.2.2.2.2.2.1 M.2.2.2.2.2.2.2.2.2.2.2.1 M.2.2.2.2.2.2.2.2.2.2.2.2.1 M.2.2.2.2.2.2.2.2.2.2.2.2.2) (acc++repM M (N.drop i),true):=by
  intro d
  induction d with
  |zero=>
    intro i acc hi ha
    obtain rfl:i=N.length:=by omega
    obtain⟨L,j,p,c,D,r,h,s,n,A,B,w,st,P⟩:=M
    have hm:mok L j p c D r h s n A B w P=true:=hM
    have hl:=mok_len hm
    refine evs ?_
    simp only[impl_RunScript.l1,if_neg (show ¬(N.length:Int)<(N.length:Int) by omega)]
    refine Ev.bind (ifm_eq L j p c D r h s n A B w st P hl.2.1 hl.2.2) ?_
    rw[if_pos hm]
    have e5:(fmM L.length j B.length w P).length=5:=rfl
    simp only[e5,if_pos (show acc.length+5<8796093022208 by omega),List.drop_length,repM,List.map_nil,List.nil_append]
    exact Ev.now _
  |succ d ih=>
    intro i acc hi ha
    have hg:N.getD i 0 ∈ N:=by rw[List.getD_eq_getElem?_getD,List.getElem?_eq_getElem (by omega)];exact List.getElem_mem _
    have hn:=hv _ hg
    have nx:=ih (i+1) (acc++ [I (N.getD i 0)]) (by omega) (by simp;omega)
    refine evs ?_
    simp only[impl_RunScript.l1,if_pos (show(i:Int)<(N.length:Int) by omega),if_pos (show(0:Int)≤(i:Int) by omega),Loops.rd_nat,ifmt_eq (N.getD i 0) (by omega) (by omega),Option.bind_some,if_pos (show acc.length<8796093022208 by omega)]
    rw[Loops.wrap_succ (n:=N.length) (i:=i) (by omega) (by omega)]
    refine Loops.Ev.eq nx ?_
    rw[Loops.drop_cons_getD N 0 i (by omega),List.append_assoc]
    rfl
theorem ir_fin (A:List S55) (hA:∀x ∈ A,aok x.f0 x.f1 x.f2 x.f3=true) (ls:List ByteArray):Ev (fun k=>impl_RunScript.l0 k A ls (ls.length:Int) (ls.length:Int)) (finR (some A)):=by
  refine evs ?_
  simp only[impl_RunScript.l0,if_neg (show ¬(ls.length:Int)<(ls.length:Int) by omega)]
  unfold finR
  dsimp only
  by_cases h4:A.length >40
  · simp only[if_pos h4,if_pos (show(A.length:Int) >40 by omega)];exact Ev.now _
  simp only[if_neg h4,if_neg (show ¬(A.length:Int) >40 by omega)]
  have er:=irun_eq zeroM A (by omega) zeroM_ok
  have hm:=runM_mok A zeroM zeroM_ok
  have hv:=runM_num A zeroM zeroM_ok hA
  obtain⟨M,N,e⟩:∃M N,runM zeroM A=(M,N):=⟨_,_,rfl⟩
  rw[e]at er hm hv ⊢
  refine Ev.bind er ?_
  have key:=ir_l1 M hm.1 N (by rw[hm.2];omega) hv N.length 0 [] (by omega) (by simp)
  obtain⟨L,j,p,c,D,r,h,s,n,A1,B,w,st,P⟩:=M
  simpa[glueM]using key
theorem ir_l0 (ls:List ByteArray) (hls:ls.length≤1048576):∀(r:List ByteArray) (i:Nat) (A:List S55),ls.drop i=r→i+r.length=ls.length→A.length≤i→(∀x ∈ A,aok x.f0 x.f1 x.f2 x.f3=true)→
    Ev (fun k=>impl_RunScript.l0 k A ls (ls.length:Int) (i:Int)) (finR (accA A r))
  | [],i,A,h,hi,ha,hA=>by
    obtain rfl:i=ls.length:=by simpa using hi
    exact ir_fin A hA ls
  |x::r,i,A,h,hi,ha,hA=>by
    have hl:i<ls.length:=by simp at hi;omega
    have hx:rdOf ByteArray.empty ls (i:Int)=x:=by
      rw[List.drop_eq_getElem_cons hl]at h
      simp only[List.cons.injEq]at h
      rw[Loops.rdOf_nat,List.getD_eq_getElem?_getD,List.getElem?_eq_getElem hl]
      exact h.1
    have hd:ls.drop (i+1)=r:=by
      rw[List.drop_eq_getElem_cons hl]at h
      simp only[List.cons.injEq]at h
      exact h.2
    have hr:i+1+r.length=ls.length:=by simp at hi;omega
    refine evs ?_
    simp only[impl_RunScript.l0,if_pos (show(i:Int)<(ls.length:Int) by omega),if_pos (show(0:Int)≤(i:Int) by omega),hx]
    refine Ev.bind (isf_eq x) ?_
    have go:∀f:Bool,(f=true ↔ (sf x).2=true∧(sf x).1.length=0)→Ev (fun k=>impl_RunScript.j1 k A x ls (ls.length:Int) (i:Int) f) (finR (accA A (x::r))):=fun f hf=>by
      refine evs ?_
      simp only[impl_RunScript.j1]
      rw[Loops.wrap_succ hl (by omega)]
      cases f with
      |true=>
        simp only[if_true]
        refine Loops.Ev.eq (ir_l0 ls hls r (i+1) A hd hr (by omega) hA) ?_
        rw[accA,if_pos (hf.1 rfl)]
      |false=>
        simp only[Bool.false_eq_true,if_false]
        refine Ev.bind (ipa_eq x) ?_
        have hn:¬((sf x).2=true∧(sf x).1.length=0):=fun hh=>by have:=hf.2 hh;cases this
        by_cases hp:(paa x).2.2.2.2=true
        · simp only[if_pos hp,if_pos (show A.length<4398046511104 by omega)]
          refine Loops.Ev.eq (ir_l0 ls hls r (i+1) _ hd hr (by simp;omega) (fun y hy=> ?_)) ?_
          · rcases List.mem_append.1 hy with hy|hy
            · exact hA y hy
            · rw[List.mem_singleton.1 hy];exact paa_ok hp
          · rw[accA,if_neg hn,if_pos hp]
        · simp only[if_neg hp]
          rw[accA,if_neg hn,if_neg hp]
          exact Ev.now _
    by_cases hs:(sf x).2=true
    · simp only[if_pos hs]
      exact go _ (by simp[hs])
    · simp only[if_neg hs]
      exact go false (by simp[hs])
theorem irs_eq (s:ByteArray):Ev (fun k=>impl_RunScript.f k s) (runS s):=by
  unfold impl_RunScript.f runS
  by_cases h:s.size >20000
  · simp only[if_pos h,if_pos (show(s.size:Int) >20000 by omega)];exact Ev.now _
  simp only[if_neg h,if_neg (show ¬(s.size:Int) >20000 by omega)]
  have h1:(1:Nat)≤(⟨#[10]⟩:ByteArray).size:=by decide
  have hf:strings_Split.f s ⟨#[10]⟩=some (Lib.splitB ⟨#[10]⟩ 0 (Lib.countB s ⟨#[10]⟩) s):=by
    unfold strings_Split.f
    rw[if_pos (by omega),if_pos h1]
  simp only[hf,Option.bind_some,split_lg]
  have hl:=lg_len s.data.toList []
  have e:s.data.toList.length=s.size:=by simp
  exact ir_l0 _ (by rw[List.length_map];omega) _ 0 [] rfl (by simp) (by simp) (by simp)
theorem sr_l1 (M:Mach) (hM:mokM M=true) (N:List Int) (hN:N.length≤40) (hv:∀v ∈ N,0≤v∧v≤9999):∀(d i:Nat) (acc:List ByteArray),i+d=N.length→acc.length≤i→
    Ev (fun k=>spec_RunScript.l1 k N acc (i:Int) M.1 M.2.1 M.2.2.1 M.2.2.2.1 M.2.2.2.2.1 M.2.2.2.2.2.1 M.2.2.2.2.2.2.1 M.2.2.2.2.2.2.2.1 M.2.2.2.2.2.2.2.2.1 M.2.2.2.2.2.2.2.2.2.1 M.2.2.2.2.2.2.2.2.2.2.1 M.2.2.2.2.2.2.2.2.2.2.2.1 M.2.2.2.2.2.2.2.2.2.2.2.2.1 M.2.2.2.2.2.2.2.2.2.2.2.2.2) (acc++repM M (N.drop i),true):=by
  intro d
  induction d with
  |zero=>
    intro i acc hi ha
    obtain rfl:i=N.length:=by omega
    obtain⟨L,j,p,c,D,r,h,s,n,A,B,w,st,P⟩:=M
    have hm:mok L j p c D r h s n A B w P=true:=hM
    have hl:=mok_len hm
    refine evs ?_
    simp only[spec_RunScript.l1,if_neg (show ¬(N.length:Int)<(N.length:Int) by omega)]
    refine Ev.bind (sfm_eq L j p c D r h s n A B w st P (by omega) hl.2.1 hl.2.2) ?_
    rw[if_pos hm]
    have e5:(fmM L.length j B.length w P).length=5:=rfl
    simp only[e5,if_pos (show acc.length+5<8796093022208 by omega),List.drop_length,repM,List.map_nil,List.nil_append]
    exact Ev.now _
  |succ d ih=>
    intro i acc hi ha
    have hg:N.getD i 0 ∈ N:=by rw[List.getD_eq_getElem?_getD,List.getElem?_eq_getElem (by omega)];exact List.getElem_mem _
    have hn:=hv _ hg
    have nx:=ih (i+1) (acc++ [I (N.getD i 0)]) (by omega) (by simp;omega)
    refine evs ?_
    simp only[spec_RunScript.l1,if_pos (show(i:Int)<(N.length:Int) by omega),if_pos (show(0:Int)≤(i:Int) by omega),Loops.rd_nat]
    refine Ev.bind (sfmt_eq (N.getD i 0) (by omega) (by omega)) ?_
    simp only[if_pos (show acc.length<8796093022208 by omega)]
    rw[Loops.wrap_succ (n:=N.length) (i:=i) (by omega) (by omega)]
    refine Loops.Ev.eq nx ?_
    rw[Loops.drop_cons_getD N 0 i (by omega),List.append_assoc]
    rfl
theorem sr_fin (s:ByteArray) (b i:Int) (hi:i >s.size) (A:List S55) (hA:∀x ∈ A,aok x.f0 x.f1 x.f2 x.f3=true):Ev (fun k=>spec_RunScript.l0 k s [] A b i) (finR (some A)):=by
  refine evs ?_
  simp only[spec_RunScript.l0,if_neg (show ¬i≤(s.size:Int) by omega)]
  unfold finR
  dsimp only
  by_cases h4:A.length >40
  · simp only[if_pos h4,if_pos (show(A.length:Int) >40 by omega)];exact Ev.now _
  simp only[if_neg h4,if_neg (show ¬(A.length:Int) >40 by omega)]
  have er:=srun_eq zeroM A (by omega) zeroM_ok
  have hm:=runM_mok A zeroM zeroM_ok
  have hv:=runM_num A zeroM zeroM_ok hA
  obtain⟨M,N,e⟩:∃M N,runM zeroM A=(M,N):=⟨_,_,rfl⟩
  rw[e]at er hm hv ⊢
  refine Ev.bind er ?_
  have key:=sr_l1 M hm.1 N (by rw[hm.2];omega) hv N.length 0 [] (by omega) (by simp)
  obtain⟨L,j,p,c,D,r,h,s,n,A1,B,w,st,P⟩:=M
  simpa[glueM]using key
theorem sr_line (s:ByteArray) (hs:s.size≤20000) (i b:Nat) (hb:b≤i) (hi:i≤s.size) (A:List S55) (ha:A.length≤i) (hA:∀x ∈ A,aok x.f0 x.f1 x.f2 x.f3=true) (R:List ByteArray)
    (nx:∀A2:List S55,A2.length≤i+1→(∀x ∈ A2,aok x.f0 x.f1 x.f2 x.f3=true)→Ev (fun k=>spec_RunScript.l0 k s [] A2 ((i+1:Nat):Int) ((i+1:Nat):Int)) (finR (accA A2 R))):
    Ev (fun k=>spec_RunScript.j1 k s [] A (b:Int) (i:Int) false) (finR (accA A (toB ((s.data.toList.take i).drop b)::R))):=by
  have hx:s.extract (b:Int).toNat (i:Int).toNat=toB ((s.data.toList.take i).drop b):=by
    apply B_ext
    rw[toB_data,Lib.extract_data,List.drop_take]
    simp
  generalize toB ((s.data.toList.take i).drop b)=x at hx
  refine evs ?_
  simp only[spec_RunScript.j1,Bool.false_eq_true,if_false]
  simp only[if_pos (show(0:Int)≤(b:Int) by omega),if_pos (show(b:Int)≤(i:Int) by omega),if_pos (show(i:Int)≤(s.size:Int) by omega),hx]
  rw[IntWalk.wrap64_in _ (by omega),show(i:Int)+1=((i+1:Nat):Int) by omega]
  refine Ev.bind (ssf_eq x) ?_
  have go:∀f:Bool,(f=true ↔ (sf x).2=true∧(sf x).1.length=0)→Ev (fun k=>spec_RunScript.j2 k s [] A ((i+1:Nat):Int) (i:Int) x f) (finR (accA A (x::R))):=fun f hf=>by
    refine evs ?_
    simp only[spec_RunScript.j2]
    rw[IntWalk.wrap64_in _ (by omega),show(i:Int)+1=((i+1:Nat):Int) by omega]
    cases f with
    |true=>
      simp only[if_true]
      refine Loops.Ev.eq (nx A (by omega) hA) ?_
      rw[accA,if_pos (hf.1 rfl)]
    |false=>
      simp only[Bool.false_eq_true,if_false]
      refine Ev.bind (spa_eq x) ?_
      have hn:¬((sf x).2=true∧(sf x).1.length=0):=fun hh=>by have:=hf.2 hh;cases this
      by_cases hp:(paa x).2.2.2.2=true
      · simp only[if_pos hp,if_pos (show A.length<4398046511104 by omega)]
        refine Loops.Ev.eq (nx _ (by simp;omega) (fun y hy=> ?_)) ?_
        · rcases List.mem_append.1 hy with hy|hy
          · exact hA y hy
          · rw[List.mem_singleton.1 hy];exact paa_ok hp
        · rw[accA,if_neg hn,if_pos hp]
      · simp only[if_neg hp]
        rw[accA,if_neg hn,if_neg hp]
        exact Ev.now _
  by_cases h2:(sf x).2=true
  · simp only[if_pos h2]
    exact go _ (by simp[h2])
  · simp only[if_neg h2]
    exact go false (by simp[h2])
theorem sr_l0 (s:ByteArray) (hs:s.size≤20000):∀(r:List UInt8) (i b:Nat) (A:List S55),s.data.toList.drop i=r→i+r.length=s.size→b≤i→A.length≤i→(∀x ∈ A,aok x.f0 x.f1 x.f2 x.f3=true)→
    Ev (fun k=>spec_RunScript.l0 k s [] A (b:Int) (i:Int)) (finR (accA A ((lg ((s.data.toList.take i).drop b) r).map toB)))
  | [],i,b,A,h,hi,hb,ha,hA=>by
    have e:i=s.size:=by simpa using hi
    refine evs ?_
    simp only[spec_RunScript.l0]
    simp only[if_pos (show(i:Int)≤(s.size:Int) by omega),if_neg (show ¬(i:Int)<(s.size:Int) by omega)]
    rw[lg,List.map_cons,List.map_nil]
    refine sr_line s hs i b hb (by omega) A ha hA [] (fun A2 h2 hA2=> ?_)
    rw[accA]
    exact sr_fin s _ _ (by omega) A2 hA2
  |c::r,i,b,A,h,hi,hb,ha,hA=>by
    obtain⟨hbt,hlt,hd⟩:=bt_drop h
    have hc:=c.toNat_lt
    refine evs ?_
    simp only[spec_RunScript.l0]
    simp only[if_pos (show(i:Int)≤(s.size:Int) by omega),if_pos (show(i:Int)<(s.size:Int) by omega),if_pos (show(0:Int)≤(i:Int) by omega),hbt]
    by_cases h10:c=10
    · subst h10
      have hcur:(s.data.toList.take (i+1)).drop (i+1)= []:=by
        apply List.length_eq_zero_iff.1
        rw[List.length_drop,List.length_take];omega
      rw[show(((10:UInt8).toNat:Int) !=10)=false from by decide,lg,if_pos rfl,List.map_cons]
      refine sr_line s hs i b hb (by omega) A ha hA _ (fun A2 h2 hA2=> ?_)
      have ih:=sr_l0 s hs r (i+1) (i+1) A2 hd (by simp at hi;omega) (Nat.le_refl _) h2 hA2
      rw[hcur]at ih
      exact ih
    · have hne:((c.toNat:Int) !=10)=true:=by
        simp only[bne_iff_ne,ne_eq]
        intro e0
        apply h10
        apply UInt8.toNat_inj.1
        show c.toNat=10
        omega
      rw[hne]
      refine evs ?_
      simp only[spec_RunScript.j1,if_true]
      rw[IntWalk.wrap64_in _ (by omega),show(i:Int)+1=((i+1:Nat):Int) by omega]
      have ih:=sr_l0 s hs r (i+1) b A hd (by simp at hi;omega) (by omega) (by omega) hA
      refine Loops.Ev.eq ih ?_
      have hcur:(s.data.toList.take (i+1)).drop b=(s.data.toList.take i).drop b++ [c]:=by
        have hl:i<s.data.toList.length:=by simpa using hlt
        have hg:s.data.toList[i]=c:=by
          rw[List.drop_eq_getElem_cons hl]at h
          simp only[List.cons.injEq]at h
          exact h.1
        rw[List.take_succ_eq_append_getElem hl,hg,List.drop_append_of_le_length (by rw[List.length_take];omega)]
      rw[lg,if_neg h10,hcur]
theorem srs_eq (s:ByteArray):Ev (fun k=>spec_RunScript.f k s) (runS s):=by
  unfold spec_RunScript.f runS
  simp only[Option.bind_some]
  by_cases h:s.size >20000
  · simp only[if_pos h,if_pos (show(s.size:Int) >20000 by omega)];exact Ev.now _
  simp only[if_neg h,if_neg (show ¬(s.size:Int) >20000 by omega)]
  refine Loops.Ev.eq (sr_l0 s (by omega) s.data.toList 0 0 [] rfl (by simp) (Nat.le_refl _) (by simp) (by simp)) ?_
  simp
def MT (n:Int):ByteArray:=(⟨#[109]⟩:ByteArray)++I n
theorem mt_loop:∀(u:Nat) (s:ByteArray),s.size+u+1≤9223372036854775807→Ev (fun k=>laws_markText.l0 k (u:Int) s) ((⟨#[109]⟩:ByteArray)++((⟨(dg0 u).toArray⟩:ByteArray)++s)):=by
  intro u
  induction u using Nat.strongRecOn with
  |_ u ih=>
    intro s hs
    by_cases h0:u=0
    · subst h0
      refine Loops.Ev.one (fun k=> ?_)
      simp only[laws_markText.l0]
      rw[if_neg (by omega),if_pos (by omega)]
      simp only[dg0,if_true,ba_nil]
    · have hm:Int.tmod (u:Int) 10=((u % 10:Nat):Int):=by rw[Int.tmod_eq_emod_of_nonneg (by omega)];omega
      have hd:Int.tdiv (u:Int) 10=((u / 10:Nat):Int):=by rw[Int.tdiv_eq_ediv_of_nonneg (by omega)];omega
      have hst:strOfNums [(wrap64 (48+((u % 10:Nat):Int))) % 256]=(⟨[UInt8.ofNat (48+u % 10)].toArray⟩:ByteArray):=by
        rw[show(wrap64 (48+((u % 10:Nat):Int))) % 256=((48+u % 10:Nat):Int) by unfold wrap64;omega]
        unfold strOfNums;rw[List.map_cons,List.map_nil,Int.toNat_natCast]
      refine Ev.step (f:=fun k=>laws_markText.l0 k ((u / 10:Nat):Int) ((⟨[UInt8.ofNat (48+u % 10)].toArray⟩:ByteArray)++s)) (fun k=> ?_) ?_
      · simp only[laws_markText.l0]
        rw[if_pos (by omega),hm]
        simp only[Option.bind_some,hst,hd]
        rw[if_pos (by show 1+s.size≤_;omega),IntWalk.wrap64_in _ (by omega)]
      · refine Loops.Ev.eq (ih (u / 10) (by omega) _ ?_) ?_
        · rw[ByteArray.size_append]
          show 1+s.size+u / 10+1≤_
          omega
        · rw[ba_app (dg0 (u / 10)) [UInt8.ofNat (48+u % 10)] s,←dg0_step u (by omega)]
theorem mt_eq (n:Int) (h0:0≤n) (h1:n≤4611686018427387904):Ev (fun k=>laws_markText.f k n) (MT n):=by
  unfold laws_markText.f MT
  obtain⟨u,rfl⟩:∃u:Nat,n=u:=⟨n.toNat,by omega⟩
  by_cases hz:u=0
  · subst hz
    refine Loops.Ev.const ?_
    try rw[if_pos (by omega)]
    have e0:Lib.itoa 0= [48]:=by
      have h:=Lib.itoa_nonneg 0
      rw[Lib.decDigits,dif_pos (by decide)]at h
      exact h
    simp only[I,Int.natCast_zero,e0]
    rfl
  · simp only[if_neg (show ¬((u:Int)≤0) by omega)]
    refine Loops.Ev.eq (mt_loop u ⟨#[]⟩ (by show 0+u+1≤_;omega)) ?_
    apply ByteArray.ext
    simp[I,Lib.itoa_nonneg,dg0,hz,ByteArray.data_append]
def mts (m:Int):Nat→List ByteArray
  |0=> []
  |d+1=>MT m::mts (m+1) d
theorem mts_len:∀(d:Nat) (m:Int),(mts m d).length=d:=by
  intro d
  induction d with
  |zero=>intro m;rfl
  |succ d ih=>intro m;simp[mts,ih]
theorem markS_loop:∀(d i:Nat) (x:List ByteArray) (m:Int),i+d=x.length→x.length≤1048576→0≤m→m+d≤2000000→Ev (fun k=>laws_markStringS.l0 k x m (i:Int)) (m+(d:Int),x.take i++mts m d):=by
  intro d
  induction d with
  |zero=>
    intro i x m hi hx h0 h1
    refine Loops.Ev.one (fun k=> ?_)
    simp only[laws_markStringS.l0]
    rw[if_neg (by omega),List.take_of_length_le (by omega)]
    simp[mts]
  |succ d ih=>
    intro i x m hi hx h0 h1
    have nx:=ih (i+1) (x.set i (MT m)) (m+1) (by simp;omega) (by simpa using hx) (by omega) (by omega)
    refine Loops.Ev.succ ?_
    simp only[laws_markStringS.l0,if_pos (show(i:Int)<(x.length:Int) by omega)]
    refine Ev.bind (mt_eq m h0 (by omega)) ?_
    simp only[if_pos (show(0:Int)≤(i:Int) by omega),Int.toNat_natCast]
    rw[Loops.wrap_in (x:=m+1) (by omega) (by omega),Loops.wrap_succ (n:=x.length) (i:=i) (by omega) (by omega)]
    refine Loops.Ev.eq nx ?_
    rw[Loops.take_set_one x i (MT m) (by omega),List.append_assoc]
    simp only[mts,List.singleton_append]
    rw[show m+1+(d:Int)=m+((d+1:Nat):Int) by omega]
theorem markS_eq (x:List ByteArray) (hx:x.length≤1000000):Ev (fun k=>laws_markStringS.f k x 1) (1+(x.length:Int),mts 1 x.length):=by
  unfold laws_markStringS.f
  simpa using markS_loop x.length 0 x 1 (by omega) (by omega) (by omega) (by omega)
theorem heldS_loop:∀(d i:Nat) (x:List ByteArray) (m:Int),i+d=x.length→x.length≤1048576→x.drop i=mts m d→0≤m→m+d≤2000000→Ev (fun k=>laws_heldStringS.l0 k x m (i:Int)) (m+(d:Int)):=by
  intro d
  induction d with
  |zero=>
    intro i x m hi hx hd h0 h1
    refine Loops.Ev.one (fun k=> ?_)
    simp only[laws_heldStringS.l0]
    rw[if_neg (by omega)]
    simp
  |succ d ih=>
    intro i x m hi hx hd h0 h1
    rw[Loops.drop_cons_getD x ByteArray.empty i (by omega)]at hd
    have hc:=List.cons.inj hd
    have nx:=ih (i+1) x (m+1) (by omega) hx hc.2 (by omega) (by omega)
    refine Loops.Ev.succ ?_
    simp only[laws_heldStringS.l0,if_pos (show(i:Int)<(x.length:Int) by omega),if_pos (show(0:Int)≤(i:Int) by omega)]
    refine Ev.bind (mt_eq m h0 (by omega)) ?_
    have e:rdOf ByteArray.empty x (i:Int)=MT m:=by rw[Loops.rdOf_nat];exact hc.1
    simp only[e,if_true]
    rw[Loops.wrap_in (x:=m+1) (by omega) (by omega),Loops.wrap_succ (n:=x.length) (i:=i) (by omega) (by omega)]
    refine Loops.Ev.eq nx ?_
    omega
theorem heldS_eq (n:Nat) (hn:n≤1000000):Ev (fun k=>laws_heldStringS.f k (mts 1 n) 1) (1+(n:Int)):=by
  unfold laws_heldStringS.f
  have hl:=mts_len n 1
  simpa using heldS_loop n 0 (mts 1 n) 1 (by omega) (by omega) (by simp) (by omega) (by omega)
theorem eqStringS_eq (l:List ByteArray) (hl:l.length≤4194304):Ev (fun k=>laws_eqStringS.f k l l) true:=by
  unfold laws_eqStringS.f
  simp only[if_true]
  exact Loops.plain_loop (G:=fun k i=>laws_eqStringS.l0 k l l i) l.length (by omega) (fun k i hi=>by
    simp only[laws_eqStringS.l0]
    rw[if_pos (by omega),if_pos (by omega),if_pos (by omega),if_pos trivial]) (fun k=>by
    simp only[laws_eqStringS.l0]
    rw[if_neg (by omega)])
theorem FnExactRunScript:∀(a0:ByteArray),(a0.size≤maxLen)→ ∃k,laws_FnExactRunScript.f k a0=some true:=by
  intro s _
  refine Ev.rounds ?_
  unfold laws_FnExactRunScript.f
  by_cases h:(s.size:Int) >1048576
  · simp only[if_pos h];exact Ev.now _
  simp only[if_neg h]
  have es:=srs_eq s
  have ei:=irs_eq s
  have hl:=runS_len s
  obtain⟨G,b,hG⟩:∃G b,runS s=(G,b):=⟨_,_,rfl⟩
  rw[hG]at es ei hl
  dsimp only at hl
  have eq:=eqStringS_eq G (by omega)
  refine Ev.bind es (Ev.bind ei (Ev.bind eq ?_))
  simp only[if_true,bne_self_eq_false]
  refine evs ?_
  simp only[laws_FnExactRunScript.j0,Bool.false_eq_true,if_false]
  refine Ev.bind (markS_eq G (by omega)) (Ev.bind (heldS_eq G.length (by omega)) ?_)
  simp only[if_neg (show ¬(1:Int)+(G.length:Int)<0 by omega),if_true]
  refine Ev.bind ei (Ev.bind eq ?_)
  simp only[if_true,bne_self_eq_false]
  refine evs ?_
  simp only[laws_FnExactRunScript.j1,Bool.false_eq_true,if_false]
  refine Ev.bind (heldS_eq G.length (by omega)) ?_
  simp only[if_neg (show ¬(1:Int)+(G.length:Int)<0 by omega),if_true]
  exact Ev.now _
end Go.Proofs.YtgdnlmfoghpeoaaGreatDoor.Pure
