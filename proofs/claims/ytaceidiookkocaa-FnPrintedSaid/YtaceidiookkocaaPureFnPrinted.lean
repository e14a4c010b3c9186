/- The pure part of FnPrinted: over numbers and lists alone. No condition beyond the numbers' own kinds. -/
import Derived.Test.YtaceidiookkocaaQFnPrinted8
import Derived.Test.YtaceidiookkocaaLot
import Derived.Test.YtaceidiookkocaaDraw
namespace Go.Proofs.Ytaceidiookkocaa.Pure
open Go.RowKit Go.Proofs.Ytaceidiookkocaa.PFnPrinted Go.Proofs.YtaceidiookkocaaW.PrintWords Go.Proofs.YtaceidiookkocaaW.PrintLast Go.Proofs.YtaceidiookkocaaW.PrintMore
set_option linter.unusedVariables false
set_option linter.unusedSimpArgs false
theorem within_eq (a b c:Int):impl_within.f a b c=some (decide (b≤a∧a≤c)):=by
  unfold impl_within.f
  by_cases h:a ≥ b
  · rw[if_pos h];congr 1;simp;omega
  · rw[if_neg h];congr 1;simp;omega
theorem rdL1 (l:List (List Int)) (i:Nat):rd_L6 l (i:Int)=l.getD i []:=by simp[rd_L6]
def bytes (r:List Int):Bool:=r.all fun v=>decide (0≤v∧v≤255)
def rowOk (r:List Int):Bool:=bytes r && decide ((r.length:Int)=32)
def rowsOk (l:List (List Int)):Bool:=l.all rowOk && decide ((l.length:Int)≤32)
theorem irow_eq (r:List Int) (hr:r.length≤1048576):Ev (fun k=>impl_rowOk.f k r) (rowOk r):=by
  unfold impl_rowOk.f rowOk
  by_cases h:(r.length:Int)=32
  · simp only[if_pos h,decide_eq_true h]
    unfold bytes
    exact Loops.all_loop (G:=fun k i=>impl_rowOk.l0 k r (r.length:Int) i) r 0 _ (fun x k=>impl_within.f x 0 255) (by omega) (fun x _=>Loops.Ev.const (within_eq x 0 255)) (fun k i hi=>by
      simp only[impl_rowOk.l0]
      rw[if_pos (by omega),if_pos (by omega),if_pos (by omega),Loops.rd_nat]) (Loops.Ev.one (fun k=>by
      simp only[impl_rowOk.l0]
      rw[if_neg (by omega)]))
  · simp only[if_neg h,decide_eq_false h,Bool.and_false]
    exact Ev.now _
theorem irows_eq (l:List (List Int)) (hl:l.length≤1048576) (hr:∀x ∈ l,x.length≤1048576):Ev (fun k=>impl_RowsOk.f k l) (rowsOk l):=by
  unfold impl_RowsOk.f rowsOk
  by_cases h:(l.length:Int) >32
  · simp only[if_pos h,decide_eq_false (show ¬(l.length:Int)≤32 by omega),Bool.and_false]
    exact Ev.now _
  · simp only[if_neg h,decide_eq_true (show(l.length:Int)≤32 by omega)]
    exact Loops.all_loop (G:=fun k i=>impl_RowsOk.l0 k l (l.length:Int) i) l [] rowOk (fun x k=>impl_rowOk.f k x) (by omega) (fun x hx=>irow_eq x (hr x hx)) (fun k i hi=>by
      simp only[impl_RowsOk.l0]
      rw[if_pos (by omega),if_pos (by omega),if_pos (by omega),rdL1]) (Loops.Ev.one (fun k=>by
      simp only[impl_RowsOk.l0]
      rw[if_neg (by omega)]))
def sameRow (a b:List Int):Bool:=decide ((a.length:Int)=b.length) && (a.zip b).all fun q=>decide (q.1=q.2)
def sameRows (a b:List (List Int)):Bool:=decide ((a.length:Int)=b.length) && (a.zip b).all fun q=>sameRow q.1 q.2
theorem equal_eq (a b:List Int) (ha:a.length≤1048576):Ev (fun k=>slices_Equal_int_int.f k a b) (sameRow a b):=by
  unfold slices_Equal_int_int.f sameRow
  by_cases h:(a.length:Int)=b.length
  · simp only[if_pos h,decide_eq_true h,Bool.true_and]
    have key:=Loops.pairs_loop (G:=fun k i=>slices_Equal_int_int.l0 k a b (a.length:Int) i) (r:=true) a b 0 0 (fun x y=>decide (x=y)) (fun x y _=>some (decide (x=y))) (by omega) (by omega) (fun _ _ _ _=>Ev.now _) (fun k i hi=>by
      simp only[slices_Equal_int_int.l0]
      rw[if_pos (by omega),if_pos (by omega),if_pos (by omega),if_pos (by omega),Loops.rd_nat,Loops.rd_nat]
      simp only[Option.bind_some,decide_eq_true_eq]) (Loops.Ev.one (fun k=>by
      simp only[slices_Equal_int_int.l0]
      rw[if_neg (by omega)]))
    rw[Bool.and_true]at key
    exact key
  · simp only[if_neg h,decide_eq_false h,Bool.false_and]
    exact Ev.now _
theorem isame_eq (a b:List (List Int)) (ha:a.length≤1048576) (hr:∀x ∈ a,x.length≤1048576):Ev (fun k=>impl_SameRows.f k a b) (sameRows a b):=by
  have key:Ev (fun k=>slices_EqualFunc_int_int_int_int.f k a b) (sameRows a b):=by
    unfold slices_EqualFunc_int_int_int_int.f sameRows
    by_cases h:(a.length:Int)=b.length
    · simp only[if_pos h,decide_eq_true h,Bool.true_and]
      have key:=Loops.pairs_loop (G:=fun k i=>slices_EqualFunc_int_int_int_int.l0 k b a (a.length:Int) i) (r:=true) a b [] [] sameRow (fun x y k=>impl_SameRows_1.f k x y) (by omega) (by omega) (fun x hx y _=>by
        unfold impl_SameRows_1.f
        exact Ev.bind (equal_eq x y (hr x hx)) (Ev.now _)) (fun k i hi=>by
        simp only[slices_EqualFunc_int_int_int_int.l0]
        rw[if_pos (by omega),if_pos (by omega),if_pos (by omega),if_pos (by omega),rdL1,rdL1]) (Loops.Ev.one (fun k=>by
        simp only[slices_EqualFunc_int_int_int_int.l0]
        rw[if_neg (by omega)]))
      rw[Bool.and_true]at key
      exact key
    · simp only[if_neg h,decide_eq_false h,Bool.false_and]
      exact Ev.now _
  unfold impl_SameRows.f
  exact Ev.bind key (Ev.now _)
theorem byte_some (b:List Int) (hb:b.length≤1048576) (i h:Int) (hi:0≤i):∃x i2 h2,spec_l01Byte.f b i h=some (x,i2,h2)∧0≤x∧x≤255∧0≤i2:=by
  unfold spec_l01Byte.f
  by_cases hl:i<(b.length:Int)
  · rw[if_pos hl,if_pos hi,show wrap64 (i+1)=i+1 from Loops.wrap_in (by omega) (by omega)]
    exact⟨_,_,_,rfl,(Draw.and255 _).1,(Draw.and255 _).2,by omega⟩
  · rw[if_neg hl]
    exact⟨_,_,_,rfl,(Draw.and255 _).1,(Draw.and255 _).2,hi⟩
theorem below_some (b:List Int) (hb:b.length≤1048576) (i h n:Int) (hi:0≤i) (hn:0<n):∃x i2 h2,spec_l01Below.f b i h n=some (x,i2,h2)∧0≤x∧x<n∧0≤i2:=by
  unfold spec_l01Below.f
  rw[if_neg (by omega)]
  by_cases h8:n≤256
  · rw[if_pos h8]
    obtain⟨x,i2,h2,e,hx0,hx1,hi2⟩:=byte_some b hb i h hi
    rw[e]
    simp only[Option.bind_some]
    rw[if_neg (by omega)]
    refine⟨_,_,_,rfl,Int.tmod_nonneg _ hx0,Int.tmod_lt_of_pos _ hn,hi2⟩
  · rw[if_neg h8]
    obtain⟨x,i2,h2,e,hx0,hx1,hi2⟩:=byte_some b hb i h hi
    rw[e]
    simp only[Option.bind_some]
    obtain⟨y,i3,h3,e3,hy0,hy1,hi3⟩:=byte_some b hb i2 h2 hi2
    rw[e3]
    simp only[Option.bind_some]
    obtain⟨z,i4,h4,e4,hz0,hz1,hi4⟩:=byte_some b hb i3 h3 hi3
    rw[e4]
    simp only[Option.bind_some]
    obtain⟨w,i5,h5,e5,hw0,hw1,hi5⟩:=byte_some b hb i4 h4 hi4
    rw[e5]
    simp only[Option.bind_some]
    rw[if_neg (by omega)]
    refine⟨_,_,_,rfl,Int.tmod_nonneg _ ?_,Int.tmod_lt_of_pos _ hn,hi5⟩
    unfold wrap64
    omega
theorem new_some (b:List Int) (hb:b.length≤1048576):∃h,Ev (fun k=>spec_l01New.f k b) (b,0,h):=by
  have key:∀(d:Nat) (i h:Int),0≤i→4000 - i≤d→ ∃h2,Ev (fun k=>spec_l01New.l0 k b h i) (b,0,h2):=by
    intro d
    induction d with
    |zero=>
      intro i h h0 hd
      refine⟨h,Loops.Ev.one (fun k=> ?_)⟩
      simp only[spec_l01New.l0]
      by_cases hl:i<(b.length:Int)
      · rw[if_pos hl,if_neg (by omega)]
      · rw[if_neg hl]
    |succ d ih=>
      intro i h h0 hd
      by_cases hl:i<(b.length:Int)∧i<4000
      · obtain⟨h2,e⟩:=ih (i+1) (Go.bits .and .i64 (wrap64 ((wrap64 ((wrap64 (h * 131))+(wrap64 (rd b i))))+7)) 1073741823) (by omega) (by omega)
        refine⟨h2,Ev.step (fun k=> ?_) e⟩
        simp only[spec_l01New.l0]
        rw[if_pos hl.1,if_pos hl.2,if_pos h0,show wrap64 (i+1)=i+1 from Loops.wrap_in (by omega) (by omega)]
      · refine⟨h,Loops.Ev.one (fun k=> ?_)⟩
        simp only[spec_l01New.l0]
        by_cases hl1:i<(b.length:Int)
        · rw[if_pos hl1,if_neg (by omega)]
        · rw[if_neg hl1]
  obtain⟨h2,e⟩:=key 4000 0 (wrap64 (98729+(b.length:Int))) (by omega) (by omega)
  exact⟨h2,e⟩
theorem once_some (b:List Int) (hb:b.length≤1048576) (i h n:Int) (hi:0≤i) (hn:0<n):∃x i2 h2,spec_l01Once.f b i h n=some (x,i2,h2)∧0≤i2:=by
  unfold spec_l01Once.f
  obtain⟨x,i2,h2,e,_,_,hi2⟩:=below_some b hb i h n hi hn
  rw[e]
  exact⟨_,_,_,rfl,hi2⟩
theorem pick_some (b:List Int) (hb:b.length≤1048576) (i h:Int) (L:List Int) (hi:0≤i) (hL:0<L.length):∃x i2 h2,spec_l01PickInt.f b i h L=some (x,i2,h2)∧x ∈ L∧0≤i2:=by
  unfold spec_l01PickInt.f
  obtain⟨x,i2,h2,e,h0,h1,hi2⟩:=below_some b hb i h (L.length:Int) hi (by omega)
  rw[e]
  simp only[Option.bind_some]
  rw[if_pos h0,if_pos h1]
  refine⟨_,_,_,rfl,?_,hi2⟩
  obtain⟨n,rfl⟩:∃n:Nat,x=(n:Int):=⟨x.toNat,by omega⟩
  rw[Loops.rd_nat]
  exact Loops.getD_mem L 0 n (by omega)
def ptOk (p:S126):Bool:=decide ((-200≤p.f0∧p.f0≤200)∧(-200≤p.f1∧p.f1≤200))
def ptsOk (l:List S126):Bool:=l.all ptOk
def bxOk (b:S75):Bool:=decide (((-200≤b.f0∧b.f0≤200)∧(-200≤b.f1∧b.f1≤200)∧(-200≤b.f2∧b.f2≤200)∧(-200≤b.f3∧b.f3≤200))∧b.f0≤b.f2∧b.f1≤b.f3)
def objOk (o:S77):Bool:=decide (3≤(o.f0.length:Int)∧(o.f0.length:Int)≤8) && (ptsOk o.f0 && (decide (0≤o.f1∧o.f1≤255) && bxOk o.f2))
def zbox:S75:=⟨0,0,0,0⟩
def pbox:S75:=⟨0,0,32,32⟩
def meet (a b:S75):S75:=if bxOk a=true∧bxOk b=true∧mx a.f0 b.f0<mn a.f2 b.f2∧mx a.f1 b.f1<mn a.f3 b.f3 then⟨mx a.f0 b.f0,mx a.f1 b.f1,mn a.f2 b.f2,mn a.f3 b.f3⟩ else zbox
def addPt (b:S75) (p:S126):S75:=⟨mn b.f0 p.f0,mn b.f1 p.f1,mx b.f2 p.f0,mx b.f3 p.f1⟩
def boxOf (l:List S126):S75:=if l.length=0∨ptsOk l=false then zbox else l.foldl addPt ⟨(l.getD 0 z126).f0,(l.getD 0 z126).f1,(l.getD 0 z126).f0,(l.getD 0 z126).f1⟩
def obox (o:S77):S75:=if objOk o=true then meet (meet (boxOf o.f0) o.f2) pbox else zbox
def dots (b:S75):Int:=if bxOk b=true then(b.f2 - b.f0) * (b.f3 - b.f1) else 0
theorem mx_eq (a b:Int):mx a b=max a b:=by unfold mx;omega
theorem mn_eq (a b:Int):mn a b=min a b:=by unfold mn;omega
theorem obox_in (o:S77):obox o=zbox∨(0≤(obox o).f0∧(obox o).f0<(obox o).f2∧(obox o).f2≤32∧0≤(obox o).f1∧(obox o).f1<(obox o).f3∧(obox o).f3≤32):=by
  unfold obox
  split
  · generalize meet (boxOf o.f0) o.f2=a
    unfold meet
    split
    · rename_i h
      obtain⟨_,_,h1,h2⟩:=h
      right
      simp only[pbox,mx_eq,mn_eq]at h1 h2 ⊢
      omega
    · exact .inl rfl
  · exact .inl rfl
def okRow (r:List Int):Prop:=r.length=32∧ ∀x ∈ r,0≤x∧x≤255
theorem okRow_iff (r:List Int):rowOk r=true ↔ okRow r:=by
  unfold rowOk bytes okRow
  simp only[Bool.and_eq_true,List.all_eq_true,decide_eq_true_eq]
  constructor
  · rintro⟨a,b⟩;exact⟨by omega,a⟩
  · rintro⟨a,b⟩;exact⟨b,by omega⟩
theorem okRows_iff (l:List (List Int)):rowsOk l=true ↔ (∀r ∈ l,okRow r)∧l.length≤32:=by
  unfold rowsOk
  simp only[Bool.and_eq_true,List.all_eq_true,decide_eq_true_eq]
  constructor
  · rintro⟨a,b⟩;exact⟨fun r hr=>(okRow_iff r).1 (a r hr),by omega⟩
  · rintro⟨a,b⟩;exact⟨fun r hr=>(okRow_iff r).2 (a r hr),by omega⟩
theorem ok_set {r:List Int} (h:okRow r) (i:Nat) (v:Int) (hv:0≤v∧v≤255):okRow (r.set i v):=by
  refine⟨by rw[List.length_set];exact h.1,fun x hx=> ?_⟩
  rcases List.mem_or_eq_of_mem_set hx with hx|rfl
  · exact h.2 x hx
  · exact hv
def fillR (g:Int) (row:List Int) (s:S114):List Int:=(Loops.iota s.f0 (s.f1 - s.f0).toNat).foldl (fun r x=>r.set x.toNat g) row
def pntR (SP:S77→Int→List S114) (o:S77) (y:Int) (row:List Int):List Int:=(SP o y).foldl (fillR o.f1) row
def pnt (SP:S77→Int→List S114) (y0:Int) (rows:List (List Int)) (o:S77):List (List Int):=rows.mapIdx fun i r=>pntR SP o (y0+(i:Int)) r
def SpOk (SP:S77→Int→List S114):Prop:=∀o y,objOk o=true→ ∀s ∈ SP o y,0≤s.f0∧s.f1≤32
theorem fold_set_ok (g:Int) (hg:0≤g∧g≤255):∀(l:List Int) (r:List Int),okRow r→okRow (l.foldl (fun r x=>r.set x.toNat g) r)
  | [],r,h=>h
  |x::xs,r,h=>fold_set_ok g hg xs _ (ok_set h _ _ hg)
theorem fold_fill_ok (g:Int) (hg:0≤g∧g≤255):∀(l:List S114) (r:List Int),okRow r→okRow (l.foldl (fillR g) r)
  | [],r,h=>h
  |x::xs,r,h=>fold_fill_ok g hg xs _ (fold_set_ok g hg _ _ h)
theorem obj_gray {o:S77} (h:objOk o=true):0≤o.f1∧o.f1≤255:=by
  unfold objOk at h
  simp only[Bool.and_eq_true,decide_eq_true_eq]at h
  exact h.2.2.1
theorem obj_len {o:S77} (h:objOk o=true):3≤o.f0.length∧o.f0.length≤8:=by
  unfold objOk at h
  simp only[Bool.and_eq_true,decide_eq_true_eq]at h
  omega
theorem pntR_ok {SP:S77→Int→List S114} {o:S77} (ho:objOk o=true) (y:Int) {r:List Int} (h:okRow r):okRow (pntR SP o y r):=fold_fill_ok _ (obj_gray ho) _ _ h
theorem pnt_len (SP:S77→Int→List S114) (y0:Int) (rows:List (List Int)) (o:S77):(pnt SP y0 rows o).length=rows.length:=by simp[pnt]
theorem pnt_ok {SP:S77→Int→List S114} {o:S77} (ho:objOk o=true) (y0:Int) {rows:List (List Int)} (h:∀r ∈ rows,okRow r):∀r ∈ pnt SP y0 rows o,okRow r:=by
  intro r hr
  unfold pnt at hr
  obtain⟨i,hi,rfl⟩:=List.mem_mapIdx.1 hr
  exact pntR_ok ho _ (h _ (List.getElem_mem hi))
theorem pnts_len (SP:S77→Int→List S114) (y0:Int):∀(l:List S77) (rows:List (List Int)),(l.foldl (pnt SP y0) rows).length=rows.length
  | [],rows=>rfl
  |o::l,rows=>by rw[List.foldl_cons,pnts_len SP y0 l,pnt_len]
theorem pnts_ok {SP:S77→Int→List S114} (y0:Int):∀(l:List S77) (rows:List (List Int)),(∀o ∈ l,objOk o=true)→(∀r ∈ rows,okRow r)→ ∀r ∈ l.foldl (pnt SP y0) rows,okRow r
  | [],rows,_,h=>h
  |o::l,rows,hl,h=>pnts_ok y0 l _ (fun x hx=>hl x (by simp[hx])) (pnt_ok (hl o (by simp)) y0 h)
theorem pnts_get (SP:S77→Int→List S114) (y0:Int) (i:Nat):∀(l:List S77) (rows:List (List Int)),(l.foldl (pnt SP y0) rows)[i]? =(rows[i]?).map fun r=>l.foldl (fun r o=>pntR SP o (y0+(i:Int)) r) r
  | [],rows=>by simp
  |o::l,rows=>by
    rw[List.foldl_cons,pnts_get SP y0 i l]
    simp only[pnt,List.getElem?_mapIdx,Option.map_map,List.foldl_cons]
    rfl
def wht (n:Nat):List (List Int):=List.replicate n (List.replicate 32 255)
theorem wht_ok (n:Nat):∀r ∈ wht n,okRow r:=by
  intro r hr
  rw[(List.mem_replicate.1 hr).2]
  exact⟨by simp,fun x hx=>by rw[(List.mem_replicate.1 hx).2];omega⟩
theorem ipt_eq (a b:Int):impl_PointOk.f a b=some (ptOk ⟨a,b⟩):=by
  unfold impl_PointOk.f impl_coordOk.f ptOk
  simp only[within_eq,Option.bind_some]
  by_cases h: -200≤a∧a≤200
  · simp[h]
  · simp only[decide_eq_false h,Bool.false_eq_true,if_false]
    rw[decide_eq_false (fun hh=>h hh.1)]
theorem rdP (l:List S126) (i:Nat):rd_T126 l (i:Int)=l.getD i z126:=by simp[rd_T126]
theorem rdO (l:List S77) (i:Nat):rd_T77 l (i:Int)=l.getD i z77:=by simp[rd_T77]
theorem ipts_eq (l:List S126) (hl:l.length≤1048576):Ev (fun k=>impl_pointsOk.f k l) (ptsOk l):=by
  unfold impl_pointsOk.f ptsOk
  have key:=Loops.all_loop (G:=fun k i=>impl_pointsOk.l0 k l (l.length:Int) i) (r:=true) l z126 ptOk (fun x k=>impl_PointOk.f x.f0 x.f1) (by omega) (fun x _=>Loops.Ev.const (ipt_eq x.f0 x.f1)) (fun k i hi=>by
      simp only[impl_pointsOk.l0]
      rw[if_pos (by omega),if_pos (by omega),if_pos (by omega),rdP]) (Loops.Ev.one (fun k=>by
      simp only[impl_pointsOk.l0]
      rw[if_neg (by omega)]))
  rw[Bool.and_true]at key
  exact key
theorem ibx_eq (a b c d:Int):impl_BoxOk.f a b c d=some (bxOk ⟨a,b,c,d⟩):=by
  unfold impl_BoxOk.f impl_coordOk.f bxOk
  simp only[within_eq,Option.bind_some]
  by_cases h1: -200≤a∧a≤200
  · by_cases h2: -200≤b∧b≤200
    · by_cases h3: -200≤c∧c≤200
      · by_cases h4: -200≤d∧d≤200
        · by_cases h5:a≤c
          · simp[h1,h2,h3,h4,h5]
          · simp[h1,h2,h3,h4,h5]
        · simp[h1,h2,h3,h4]
      · simp[h1,h2,h3]
    · simp[h1,h2]
  · simp[h1]
theorem iobj_eq (o:S77) (hl:o.f0.length≤1048576):Ev (fun k=>impl_ObjectOk.f k o.f0 o.f1 o.f2.f0 o.f2.f1 o.f2.f2 o.f2.f3) (objOk o):=by
  unfold impl_ObjectOk.f objOk
  simp only[within_eq,Option.bind_some,ibx_eq]
  by_cases h1:3≤(o.f0.length:Int)∧(o.f0.length:Int)≤8
  · simp only[decide_eq_true h1,if_true,Bool.true_and]
    refine Ev.bind (ipts_eq o.f0 hl) ?_
    by_cases h2:ptsOk o.f0=true
    · simp only[h2,if_true,Bool.true_and]
      by_cases h3:0≤o.f1∧o.f1≤255
      · simp only[decide_eq_true h3,if_true,Bool.true_and]
        exact Ev.now _
      · simp only[decide_eq_false h3,Bool.false_eq_true,if_false,Bool.false_and]
        exact Ev.now _
    · simp only[Bool.not_eq_true]at h2
      simp only[h2,Bool.false_eq_true,if_false,Bool.false_and]
      exact Ev.now _
  · simp only[decide_eq_false h1,Bool.false_eq_true,if_false,Bool.false_and]
    exact Ev.now _
theorem iobjs_eq (l:List S77) (hl:l.length≤1048576) (hp:∀o ∈ l,o.f0.length≤1048576):Ev (fun k=>impl_objectsOk.f k l) (l.all objOk):=by
  unfold impl_objectsOk.f
  have key:=Loops.all_loop (G:=fun k i=>impl_objectsOk.l0 k l (l.length:Int) i) (r:=true) l z77 objOk (fun o k=>impl_ObjectOk.f k o.f0 o.f1 o.f2.f0 o.f2.f1 o.f2.f2 o.f2.f3) (by omega) (fun o ho=>iobj_eq o (hp o ho)) (fun k i hi=>by
      simp only[impl_objectsOk.l0]
      rw[if_pos (by omega),if_pos (by omega),if_pos (by omega),rdO]) (Loops.Ev.one (fun k=>by
      simp only[impl_objectsOk.l0]
      rw[if_neg (by omega)]))
  rw[Bool.and_true]at key
  exact key
theorem iboxof_eq (l:List S126) (hl:l.length≤1048576):Ev (fun k=>impl_BoxOf.f k l) ((boxOf l).f0,(boxOf l).f1,(boxOf l).f2,(boxOf l).f3):=by
  have j:Ev (fun k=>impl_BoxOf.j0 k l true) (0,0,0,0):=Loops.Ev.one (fun k=>by simp only[impl_BoxOf.j0,if_true])
  unfold impl_BoxOf.f boxOf
  by_cases h0:l.length=0
  · simp only[if_pos (show(l.length:Int)=0 by omega)]
    rw[if_pos (.inl h0)]
    exact j
  simp only[if_neg (show ¬(l.length:Int)=0 by omega)]
  refine Ev.bind (ipts_eq l hl) ?_
  by_cases h:ptsOk l=true
  · rw[if_neg (by simp[h0,h])]
    simp only[h,Bool.not_true]
    refine Loops.Ev.succ ?_
    simp only[impl_BoxOf.j0,Bool.false_eq_true,if_false,if_pos (show 0<(l.length:Int) by omega)]
    have e0:=rdP l 0
    simp only[Int.natCast_zero]at e0
    rw[e0]
    exact Loops.fold_loop (G:=fun k i (b:S75)=>impl_BoxOf.l0 k l (l.length:Int) i b.f0 b.f1 b.f2 b.f3) (r:=fun b=>(b.f0,b.f1,b.f2,b.f3)) l z126 addPt (fun _ _=>True) (fun k i b hi _=>by
      simp only[impl_BoxOf.l0]
      rw[if_pos (by omega),if_pos (by omega),if_pos (by omega),rdP,Loops.wrap_succ hi (by omega)]
      rfl) (fun _ _ _ _=>trivial) (fun b _=>Loops.Ev.one (fun k=>by
      simp only[impl_BoxOf.l0]
      rw[if_neg (by omega)])) ⟨(l.getD 0 z126).f0,(l.getD 0 z126).f1,(l.getD 0 z126).f0,(l.getD 0 z126).f1⟩ trivial
  · simp only[Bool.not_eq_true]at h
    rw[if_pos (.inr h)]
    simp only[h,Bool.not_false]
    exact j
theorem imeet_eq (a b:S75):Ev (fun k=>impl_MeetBox.f k a.f0 a.f1 a.f2 a.f3 b.f0 b.f1 b.f2 b.f3) ((meet a b).f0,(meet a b).f1,(meet a b).f2,(meet a b).f3):=by
  have j:Ev (fun k=>impl_MeetBox.j0 k true a.f0 a.f1 a.f2 a.f3 b.f0 b.f1 b.f2 b.f3) (0,0,0,0):=Loops.Ev.one (fun k=>by simp only[impl_MeetBox.j0,if_true])
  unfold impl_MeetBox.f meet
  simp only[ibx_eq,Option.bind_some]
  by_cases h1:bxOk a=true
  · simp only[h1,if_true,true_and]
    by_cases h2:bxOk b=true
    · simp only[h2,Bool.not_true,true_and]
      refine Loops.Ev.one (fun k=> ?_)
      simp only[impl_MeetBox.j0,Bool.false_eq_true,if_false]
      by_cases h3:mx a.f0 b.f0<mn a.f2 b.f2
      · rw[if_neg (by omega)]
        by_cases h4:mx a.f1 b.f1<mn a.f3 b.f3
        · rw[if_neg (by omega),if_pos ⟨h3,h4⟩]
        · rw[if_pos (by omega),if_neg (fun hh=>h4 hh.2)];rfl
      · rw[if_pos (by omega),if_neg (fun hh=>h3 hh.1)];rfl
    · rw[if_neg (fun hh=>h2 hh.1)]
      simp only[Bool.not_eq_true]at h2
      simp only[h2,Bool.not_false]
      exact j
  · rw[if_neg (fun hh=>h1 hh.1)]
    simp only[if_neg h1]
    exact j
theorem iobox_eq (o:S77) (hl:o.f0.length≤1048576):Ev (fun k=>impl_ObjectBox.f k o.f0 o.f1 o.f2.f0 o.f2.f1 o.f2.f2 o.f2.f3) ((obox o).f0,(obox o).f1,(obox o).f2,(obox o).f3):=by
  unfold impl_ObjectBox.f obox
  refine Ev.bind (iobj_eq o hl) ?_
  by_cases h:objOk o=true
  · simp only[h,if_true]
    refine Ev.bind (iboxof_eq o.f0 hl) (Ev.bind (imeet_eq (boxOf o.f0) o.f2) ?_)
    unfold impl_pageBox.f
    simp only[Option.bind_some]
    exact Ev.bind (imeet_eq (meet (boxOf o.f0) o.f2) pbox) (Ev.now _)
  · simp only[if_neg h]
    exact Ev.now _
theorem idots_eq (b:S75):impl_CountDots.f b.f0 b.f1 b.f2 b.f3=some (dots b):=by
  unfold impl_CountDots.f dots
  simp only[ibx_eq,Option.bind_some]
  by_cases h:bxOk b=true
  · simp only[if_pos h]
    unfold bxOk at h
    simp only[decide_eq_true_eq]at h
    rw[Loops.wrap_in (x:=b.f2 - b.f0) (by omega) (by omega),Loops.wrap_in (x:=b.f3 - b.f1) (by omega) (by omega)]
    have h1:(b.f2 - b.f0) * (b.f3 - b.f1)≤400 * 400:=Int.mul_le_mul (by omega) (by omega) (by omega) (by omega)
    have h2:0≤(b.f2 - b.f0) * (b.f3 - b.f1):=Int.mul_nonneg (by omega) (by omega)
    rw[Loops.wrap_in (by omega) (by omega)]
  · simp only[if_neg h]
theorem rdS (l:List S114) (i:Nat):rd_T114 l (i:Int)=l.getD i z114:=by simp[rd_T114]
theorem icross_some (a b c d x y:Int):∃t,impl_crosses.f a b c d x y=some t:=by
  unfold impl_crosses.f
  split
  · exact⟨_,rfl⟩
  · split<;>exact⟨_,rfl⟩
theorem ipath_eq (l:List S126) (hl:l.length≤1048576):Ev (fun k=>impl_pathOk.f k l) (decide ((l.length:Int)≤8) && ptsOk l):=by
  unfold impl_pathOk.f
  by_cases h:(l.length:Int)≤8
  · simp only[if_pos h,decide_eq_true h,Bool.true_and]
    exact Ev.bind (ipts_eq l hl) (Ev.now _)
  · simp only[if_neg h,decide_eq_false h,Bool.false_and]
    exact Ev.now _
theorem icoord_eq (a:Int):impl_coordOk.f a=some (decide (-200≤a∧a≤200)):=by
  unfold impl_coordOk.f
  simp only[within_eq,Option.bind_some]
theorem iin_some (l:List S126) (hl:l.length≤1048576) (x y:Int):∃t,Ev (fun k=>impl_InsidePath.f k l x y) t:=by
  have loop:∀(d i:Nat) (b:Bool),i+d=l.length→ ∃t,Ev (fun k=>impl_InsidePath.l0 k l x y b l (l.length:Int) (i:Int)) t:=by
    intro d
    induction d with
    |zero=>
      intro i b hi
      refine⟨b,Loops.Ev.one (fun k=> ?_)⟩
      simp only[impl_InsidePath.l0]
      rw[if_neg (by omega)]
    |succ d ih=>
      intro i b hi
      have hw:wrap64 ((i:Int)+1)=((i+1:Nat):Int):=Loops.wrap_succ (n:=l.length) (by omega) (by omega)
      have t0:0≤Int.tmod ((i+1:Nat):Int) (l.length:Int):=Int.tmod_nonneg _ (by omega)
      have t1:Int.tmod ((i+1:Nat):Int) (l.length:Int)<(l.length:Int):=Int.tmod_lt_of_pos _ (by omega)
      obtain⟨t,ht⟩:=icross_some (rd_T126 l (i:Int)).f0 (rd_T126 l (i:Int)).f1 (rd_T126 l (Int.tmod ((i+1:Nat):Int) (l.length:Int))).f0 (rd_T126 l (Int.tmod ((i+1:Nat):Int) (l.length:Int))).f1 x y
      obtain⟨r,hr⟩:=ih (i+1) (if t=true then !b else b) (by omega)
      refine⟨r,Loops.Ev.succ ?_⟩
      simp only[impl_InsidePath.l0,hw]
      simp only[if_pos (show(i:Int)<(l.length:Int) by omega),if_pos (show 0≤(i:Int) by omega),if_neg (show ¬(l.length:Int)=0 by omega),if_pos t0,if_pos t1,ht,Option.bind_some]
      cases t with
      |true=>simpa using hr
      |false=>simpa using hr
  have j:∀f,∃t,Ev (fun k=>impl_InsidePath.j0 k l x y f) t:=by
    intro f
    cases f with
    |true=>exact⟨false,Loops.Ev.one (fun k=>by simp only[impl_InsidePath.j0,if_true])⟩
    |false=>
      obtain⟨t,ht⟩:=loop l.length 0 false (by omega)
      refine⟨t,Loops.Ev.succ ?_⟩
      simp only[impl_InsidePath.j0,Bool.false_eq_true,if_false]
      exact ht
  unfold impl_InsidePath.f
  have hp:=ipath_eq l hl
  generalize (decide ((l.length:Int)≤8) && ptsOk l)=p at hp
  cases p with
  |false=>
    obtain⟨t,ht⟩:=j true
    refine⟨t,Ev.bind hp ?_⟩
    simp only[Bool.false_eq_true,if_false]
    exact ht
  |true=>
    by_cases hx: -200≤x∧x≤200
    · obtain⟨t,ht⟩:=j (!decide (-200≤y∧y≤200))
      refine⟨t,Ev.bind hp ?_⟩
      simp only[if_true,icoord_eq,Option.bind_some,decide_eq_true hx]
      exact ht
    · obtain⟨t,ht⟩:=j true
      refine⟨t,Ev.bind hp ?_⟩
      simp only[if_true,icoord_eq,Option.bind_some,decide_eq_false hx,Bool.false_eq_true,if_false]
      exact ht
theorem ispans_some (l:List S126) (hl:l.length≤1048576) (y:Int):∃R,Ev (fun k=>impl_SpansAt.f k l y) R∧R.length≤401:=by
  have loop:∀(d:Nat) (x:Int) (s:List S114),x+d=201→ -200≤x→(s.length:Int)≤x+200→ ∃R,Ev (fun k=>impl_SpansAt.l0 k l y s x) R∧R.length≤401:=by
    intro d
    induction d with
    |zero=>
      intro x s hx h0 hs
      refine⟨s,Loops.Ev.one (fun k=> ?_),by omega⟩
      simp only[impl_SpansAt.l0]
      rw[if_neg (by omega)]
    |succ d ih=>
      intro x s hx h0 hs
      obtain⟨t,ht⟩:=iin_some l hl x y
      have hw:wrap64 (x+1)=x+1:=Loops.wrap_in (by omega) (by omega)
      have hnew:∃R,Ev (fun k=>impl_SpansAt.l0 k l y (s++ [(⟨x,x+1⟩:S114)]) (x+1)) R∧R.length≤401:=ih (x+1) _ (by omega) (by omega) (by rw[List.length_append];simp;omega)
      cases t with
      |false=>
        obtain⟨R,hR,hRl⟩:=ih (x+1) s (by omega) (by omega) (by omega)
        refine⟨R,Loops.Ev.succ ?_,hRl⟩
        simp only[impl_SpansAt.l0,if_pos (show x≤200 by omega),hw]
        refine Ev.bind ht ?_
        simp only[Bool.false_eq_true,if_false]
        exact hR
      |true=>
        by_cases h1:(s.length:Int) >0
        · have hw2:wrap64 ((s.length:Int) - 1)=((s.length - 1:Nat):Int):=by rw[Loops.wrap_in (by omega) (by omega)];omega
          by_cases h2:(rd_T114 s ((s.length - 1:Nat):Int)).f1=x
          · obtain⟨R,hR,hRl⟩:=ih (x+1) (s.set (s.length - 1) (⟨(rd_T114 s ((s.length - 1:Nat):Int)).f0,x+1⟩:S114)) (by omega) (by omega) (by rw[List.length_set];omega)
            refine⟨R,Loops.Ev.succ ?_,hRl⟩
            simp only[impl_SpansAt.l0,if_pos (show x≤200 by omega),hw]
            refine Ev.bind ht ?_
            simp only[if_true,if_pos h1,hw2,if_pos (show 0≤((s.length - 1:Nat):Int) by omega),if_pos (show((s.length - 1:Nat):Int)<(s.length:Int) by omega),if_pos h2,Int.toNat_natCast]
            rw[h2,hw]
            exact hR
          · obtain⟨R,hR,hRl⟩:=hnew
            refine⟨R,Loops.Ev.succ ?_,hRl⟩
            simp only[impl_SpansAt.l0,if_pos (show x≤200 by omega),hw]
            refine Ev.bind ht ?_
            simp only[if_true,if_pos h1,hw2,if_pos (show 0≤((s.length - 1:Nat):Int) by omega),if_pos (show((s.length - 1:Nat):Int)<(s.length:Int) by omega),if_neg h2,if_pos (show s.length<8796093022208 by omega)]
            exact hR
        · obtain⟨R,hR,hRl⟩:=hnew
          refine⟨R,Loops.Ev.succ ?_,hRl⟩
          simp only[impl_SpansAt.l0,if_pos (show x≤200 by omega),hw]
          refine Ev.bind ht ?_
          simp only[if_true,if_neg h1,if_pos (show s.length<8796093022208 by omega)]
          exact hR
  have j:∀f,∃R,Ev (fun k=>impl_SpansAt.j0 k l y f) R∧R.length≤401:=by
    intro f
    cases f with
    |true=>exact⟨[],Loops.Ev.one (fun k=>by simp only[impl_SpansAt.j0,if_true]),by simp⟩
    |false=>
      obtain⟨R,hR,hRl⟩:=loop 401 (-200) [] (by omega) (by omega) (by simp)
      refine⟨R,Loops.Ev.succ ?_,hRl⟩
      simp only[impl_SpansAt.j0,Bool.false_eq_true,if_false]
      exact hR
  unfold impl_SpansAt.f
  have hp:=ipath_eq l hl
  generalize (decide ((l.length:Int)≤8) && ptsOk l)=p at hp
  cases p with
  |false=>
    obtain⟨R,hR,hRl⟩:=j true
    refine⟨R,Ev.bind hp ?_,hRl⟩
    simp only[Bool.false_eq_true,if_false]
    exact hR
  |true=>
    obtain⟨R,hR,hRl⟩:=j (!decide (-200≤y∧y≤200))
    refine⟨R,Ev.bind hp ?_,hRl⟩
    simp only[if_true,icoord_eq,Option.bind_some]
    exact hR
theorem ispok_some (l:List S114):∃t,Ev (fun k=>impl_SpansOk.f k l) t:=by
  have loop:∀(d i:Nat),l.length≤8→i+d=l.length→ ∃t,Ev (fun k=>impl_SpansOk.l0 k l l (l.length:Int) (i:Int)) t:=by
    intro d
    induction d with
    |zero=>
      intro i hl hi
      refine⟨true,Loops.Ev.one (fun k=> ?_)⟩
      simp only[impl_SpansOk.l0]
      rw[if_neg (by omega)]
    |succ d ih=>
      intro i hl hi
      obtain⟨t,ht⟩:=ih (i+1) hl (by omega)
      have hw:wrap64 ((i:Int)+1)=((i+1:Nat):Int):=Loops.wrap_succ (n:=l.length) (by omega) (by omega)
      by_cases h1:(rd_T114 l (i:Int)).f0 ≥ (rd_T114 l (i:Int)).f1
      · refine⟨false,Loops.Ev.one (fun k=> ?_)⟩
        simp only[impl_SpansOk.l0]
        rw[if_pos (by omega),if_pos (by omega),if_pos (by omega),if_pos h1]
      by_cases h2:(i:Int) >0
      · by_cases h3:(rd_T114 l (wrap64 ((i:Int) - 1))).f1 ≥ (rd_T114 l (i:Int)).f0
        · refine⟨false,Loops.Ev.one (fun k=> ?_)⟩
          simp only[impl_SpansOk.l0]
          rw[if_pos (by omega),if_pos (by omega),if_pos (by omega),if_neg h1,if_pos h2,if_pos (by rw[Loops.wrap_in (by omega) (by omega)];omega),if_pos (by rw[Loops.wrap_in (by omega) (by omega)];omega),if_pos h3]
        · refine⟨t,Ev.step (fun k=> ?_) ht⟩
          simp only[impl_SpansOk.l0]
          rw[if_pos (by omega),if_pos (by omega),if_pos (by omega),if_neg h1,if_pos h2,if_pos (by rw[Loops.wrap_in (by omega) (by omega)];omega),if_pos (by rw[Loops.wrap_in (by omega) (by omega)];omega),if_neg h3,hw]
      · refine⟨t,Ev.step (fun k=> ?_) ht⟩
        simp only[impl_SpansOk.l0]
        rw[if_pos (by omega),if_pos (by omega),if_pos (by omega),if_neg h1,if_neg h2,hw]
  unfold impl_SpansOk.f
  by_cases h:(l.length:Int) >8
  · simp only[if_pos h];exact⟨false,Ev.now _⟩
  · simp only[if_neg h]
    exact loop l.length 0 (by omega) (by omega)
theorem imeets_some (l:List S114) (hl:l.length≤1048576) (a b:Int):∃R,Ev (fun k=>impl_MeetSpans.f k l a b) R∧(∀s ∈ R,a≤s.f0∧s.f1≤b)∧R.length≤l.length:=by
  have loop:∀(d i:Nat) (s:List S114),i+d=l.length→s.length≤i→(∀x ∈ s,a≤x.f0∧x.f1≤b)→ ∃R,Ev (fun k=>impl_MeetSpans.l0 k a b s l (l.length:Int) (i:Int)) R∧(∀s ∈ R,a≤s.f0∧s.f1≤b)∧R.length≤l.length:=by
    intro d
    induction d with
    |zero=>
      intro i s hi hs hP
      refine⟨s,Loops.Ev.one (fun k=> ?_),hP,by omega⟩
      simp only[impl_MeetSpans.l0]
      rw[if_neg (by omega)]
    |succ d ih=>
      intro i s hi hs hP
      have hw:wrap64 ((i:Int)+1)=((i+1:Nat):Int):=Loops.wrap_succ (n:=l.length) (by omega) (by omega)
      by_cases h:mx (rd_T114 l (i:Int)).f0 a<mn (rd_T114 l (i:Int)).f1 b
      · obtain⟨R,hR,hP2⟩:=ih (i+1) (s++ [(⟨mx (rd_T114 l (i:Int)).f0 a,mn (rd_T114 l (i:Int)).f1 b⟩:S114)]) (by omega) (by simp;omega) (fun x hx=>by
          rcases List.mem_append.1 hx with hx|hx
          · exact hP x hx
          · rw[List.mem_singleton.1 hx]
            simp only[mx_eq,mn_eq]
            omega)
        refine⟨R,Ev.step (fun k=> ?_) hR,hP2⟩
        simp only[impl_MeetSpans.l0]
        rw[if_pos (by omega),if_pos (by omega),if_pos (by omega),if_pos h,if_pos (by omega),hw]
      · obtain⟨R,hR,hP2⟩:=ih (i+1) s (by omega) (by omega) hP
        refine⟨R,Ev.step (fun k=> ?_) hR,hP2⟩
        simp only[impl_MeetSpans.l0]
        rw[if_pos (by omega),if_pos (by omega),if_pos (by omega),if_neg h,hw]
  unfold impl_MeetSpans.f
  obtain⟨t,ht⟩:=ispok_some l
  cases t with
  |true=>
    obtain⟨R,hR,hP⟩:=loop l.length 0 [] (by omega) (by simp) (by simp)
    refine⟨R,Ev.bind ht ?_,hP⟩
    simp only[if_true]
    exact hR
  |false=>
    refine⟨[],Ev.bind ht ?_,by simp,by simp⟩
    simp only[Bool.false_eq_true,if_false]
    exact Ev.now _
theorem iorow_some (o:S77) (y:Int) (ho:objOk o=true):∃R,Ev (fun k=>impl_ObjectRow.f k o.f0 o.f1 o.f2.f0 o.f2.f1 o.f2.f2 o.f2.f3 y) R∧(∀s ∈ R,0≤s.f0∧s.f1≤32)∧((y<(obox o).f1∨(obox o).f3≤y)→R= [])∧R.length≤401:=by
  have hl:=obj_len ho
  have hb:=obox_in o
  unfold impl_ObjectRow.f
  by_cases h1:y<(obox o).f1
  · refine⟨[],Ev.bind (iobj_eq o (by omega)) ?_,by simp,fun _=>rfl,by simp⟩
    simp only[ho,if_true]
    refine Ev.bind (iobox_eq o (by omega)) ?_
    simp only[if_pos h1]
    exact Loops.Ev.one (fun k=>by simp only[impl_ObjectRow.j0,if_true])
  by_cases h2:y ≥ (obox o).f3
  · refine⟨[],Ev.bind (iobj_eq o (by omega)) ?_,by simp,fun _=>rfl,by simp⟩
    simp only[ho,if_true]
    refine Ev.bind (iobox_eq o (by omega)) ?_
    simp only[if_neg h1,decide_eq_true h2]
    exact Loops.Ev.one (fun k=>by simp only[impl_ObjectRow.j0,if_true])
  obtain⟨S,hS,hSl⟩:=ispans_some o.f0 (by omega) y
  obtain⟨R,hR,hP,hRl⟩:=imeets_some S (by omega) (obox o).f0 (obox o).f2
  refine⟨R,Ev.bind (iobj_eq o (by omega)) ?_,fun s hs=> ?_,fun h=>by omega,by omega⟩
  · simp only[ho,if_true]
    refine Ev.bind (iobox_eq o (by omega)) ?_
    simp only[if_neg h1,decide_eq_false h2]
    refine Loops.Ev.succ ?_
    simp only[impl_ObjectRow.j0,Bool.false_eq_true,if_false]
    exact Ev.bind hS (Ev.bind hR (Ev.now _))
  · have:=hP s hs
    rcases hb with hz|hb
    · rw[hz]at h1 h2
      simp only[zbox]at h1 h2
      omega
    · omega
def SpIs (SP:S77→Int→List S114):Prop:=∀o y,objOk o=true→Ev (fun k=>impl_ObjectRow.f k o.f0 o.f1 o.f2.f0 o.f2.f1 o.f2.f2 o.f2.f3 y) (SP o y)∧(∀s ∈ SP o y,0≤s.f0∧s.f1≤32)∧((y<(obox o).f1∨(obox o).f3≤y)→SP o y= [])∧(SP o y).length≤401
theorem sp_is:∃SP,SpIs SP:=by
  have H:∀o y,∃R,objOk o=true→Ev (fun k=>impl_ObjectRow.f k o.f0 o.f1 o.f2.f0 o.f2.f1 o.f2.f2 o.f2.f3 y) R∧(∀s ∈ R,0≤s.f0∧s.f1≤32)∧((y<(obox o).f1∨(obox o).f3≤y)→R= [])∧R.length≤401:=by
    intro o y
    by_cases ho:objOk o=true
    · obtain⟨R,h⟩:=iorow_some o y ho
      exact⟨R,fun _=>h⟩
    · exact⟨[],fun h=>absurd h ho⟩
  exact⟨fun o y=>Classical.choose (H o y),fun o y=>Classical.choose_spec (H o y)⟩
theorem iota_cons (a:Int) (n:Nat):Loops.iota a (n+1)=a::Loops.iota (a+1) n:=by
  unfold Loops.iota
  rw[List.range_succ_eq_map,List.map_cons,List.map_map]
  congr 1
  · omega
  · refine List.map_congr_left (fun j _=> ?_)
    show a+((j+1:Nat):Int)=a+1+(j:Int)
    omega
theorem set_get (rows:List (List Int)) (i:Nat) (r:List Int) (hi:i<rows.length):rd_L6 (rows.set i r) (i:Int)=r:=by
  rw[rdL1,List.getD_eq_getElem?_getD,List.getElem?_set_self hi];rfl
theorem ip_l2 (rows:List (List Int)) (o:S77) (y0 n:Int) (i:Nat) (hi:i<rows.length) (sp:List S114) (m j s0 e:Int) (he:e≤32) (R:List (List Int)):
    ∀(d:Nat) (x:Int) (row:List Int),row.length=32→0≤x→d=(e - x).toNat→
    Ev (fun k=>impl_paint.l1 k (rows.set i ((Loops.iota x d).foldl (fun r x=>r.set x.toNat o.f1) row)) y0 (i:Int) n (i:Int) sp m (wrap64 (j+1)) o.f0 o.f1 o.f2.f0 o.f2.f1 o.f2.f2 o.f2.f3) R→
    Ev (fun k=>impl_paint.l2 k (rows.set i row) y0 (i:Int) x n (i:Int) sp m j o.f0 o.f1 o.f2.f0 o.f2.f1 o.f2.f2 o.f2.f3 s0 e) R:=by
  intro d
  induction d with
  |zero=>
    intro x row hr hx hd nx
    refine Loops.Ev.succ ?_
    simp only[impl_paint.l2,if_neg (show ¬x<e by omega)]
    exact nx
  |succ d ih=>
    intro x row hr hx hd nx
    have hw:wrap64 (x+1)=x+1:=Loops.wrap_in (by omega) (by omega)
    have key:=ih (x+1) (row.set x.toNat o.f1) (by rw[List.length_set];exact hr) (by omega) (by omega) (by
      rw[iota_cons,List.foldl_cons]at nx
      exact nx)
    refine Loops.Ev.succ ?_
    simp only[impl_paint.l2,if_pos (show x<e by omega),if_pos (show 0≤(i:Int) by omega),if_pos (show(i:Int)<((rows.set i row).length:Int) by rw[List.length_set];omega),if_pos hx,set_get rows i row hi,hr,if_pos (show x<((32:Nat):Int) by omega),hw,Int.toNat_natCast,List.set_set]
    exact key
theorem ip_l1 (SP:S77→Int→List S114) (rows:List (List Int)) (o:S77) (y0 n:Int) (i:Nat) (hi:i<rows.length) (sp:List S114) (hl:sp.length≤1048576) (hg:0≤o.f1∧o.f1≤255) (hs:∀s ∈ sp,0≤s.f0∧s.f1≤32) (R:List (List Int)):
    ∀(d j:Nat) (row:List Int),okRow row→j+d=sp.length→
    Ev (fun k=>impl_paint.l0 k (rows.set i ((sp.drop j).foldl (fillR o.f1) row)) y0 n (wrap64 ((i:Int)+1)) o.f0 o.f1 o.f2.f0 o.f2.f1 o.f2.f2 o.f2.f3) R→
    Ev (fun k=>impl_paint.l1 k (rows.set i row) y0 (i:Int) n (i:Int) sp (sp.length:Int) (j:Int) o.f0 o.f1 o.f2.f0 o.f2.f1 o.f2.f2 o.f2.f3) R:=by
  intro d
  induction d with
  |zero=>
    intro j row hr hj nx
    obtain rfl:j=sp.length:=by omega
    rw[List.drop_length]at nx
    refine Loops.Ev.succ ?_
    simp only[impl_paint.l1,if_neg (show ¬(sp.length:Int)<(sp.length:Int) by omega)]
    exact nx
  |succ d ih=>
    intro j row hr hj nx
    have hm:=hs _ (Loops.getD_mem sp z114 j (by omega))
    rw[Loops.drop_cons_getD sp z114 j (by omega),List.foldl_cons]at nx
    have nx2:=ih (j+1) (fillR o.f1 row (sp.getD j z114)) (fold_set_ok _ hg _ _ hr) (by omega) nx
    have key:=ip_l2 rows o y0 n i hi sp (sp.length:Int) (j:Int) (sp.getD j z114).f0 (sp.getD j z114).f1 hm.2 R _ (sp.getD j z114).f0 row hr.1 hm.1 rfl (by
      rw[Loops.wrap_succ (n:=sp.length) (by omega) (by omega)]
      exact nx2)
    refine Loops.Ev.succ ?_
    simp only[impl_paint.l1,if_pos (show(j:Int)<(sp.length:Int) by omega),if_pos (show 0≤(j:Int) by omega),rdS]
    exact key
theorem ipaint_eq (SP:S77→Int→List S114) (hSP:SpIs SP) (o:S77) (ho:objOk o=true) (y0:Int) (h0:0≤y0∧y0≤1000) (rows:List (List Int)) (hr:∀r ∈ rows,okRow r) (hl:rows.length≤32):
    Ev (fun k=>impl_paint.f k rows y0 o.f0 o.f1 o.f2.f0 o.f2.f1 o.f2.f2 o.f2.f3) (pnt SP y0 rows o):=by
  have loop:∀(d i:Nat) (cur:List (List Int)),i+d=rows.length→cur.length=rows.length→cur.drop i=rows.drop i→cur.take i=(pnt SP y0 rows o).take i→
      Ev (fun k=>impl_paint.l0 k cur y0 (rows.length:Int) (i:Int) o.f0 o.f1 o.f2.f0 o.f2.f1 o.f2.f2 o.f2.f3) (pnt SP y0 rows o):=by
    intro d
    induction d with
    |zero=>
      intro i cur hi hc hd ht
      obtain rfl:i=rows.length:=by omega
      refine Loops.Ev.one (fun k=> ?_)
      simp only[impl_paint.l0]
      rw[if_neg (by omega)]
      rw[List.take_of_length_le (by omega),List.take_of_length_le (by rw[pnt_len];exact Nat.le_refl _)]at ht
      rw[ht]
    |succ d ih=>
      intro i cur hi hc hd ht
      have hil:i<rows.length:=by omega
      have hw:wrap64 (y0+(i:Int))=y0+(i:Int):=Loops.wrap_in (by omega) (by omega)
      obtain⟨e1,e2,_,e4⟩:=hSP o (y0+(i:Int)) ho
      have hrow:cur[i]? =rows[i]? :=by
        have a:=congrArg (fun l:List (List Int)=>l[0]?) hd
        simpa using a
      have hg:rows[i]? =some (rows.getD i []):=by rw[List.getD_eq_getElem?_getD,List.getElem?_eq_getElem hil];rfl
      have hcur:cur=cur.set i (rows.getD i []):=by
        apply List.ext_getElem?
        intro m
        by_cases hm:m=i
        · subst hm;rw[List.getElem?_set_self (by omega),hrow,hg]
        · rw[List.getElem?_set_ne (Ne.symm hm)]
      have hok:okRow (rows.getD i []):=hr _ (Loops.getD_mem rows [] i hil)
      have nx:=ih (i+1) (cur.set i (pntR SP o (y0+(i:Int)) (rows.getD i []))) (by omega) (by rw[List.length_set];exact hc) (by
        apply List.ext_getElem?
        intro m
        rw[List.getElem?_drop,List.getElem?_drop,List.getElem?_set_ne (by omega)]
        have a:=congrArg (fun l:List (List Int)=>l[m+1]?) hd
        simp only[List.getElem?_drop]at a
        rw[show i+1+m=i+(m+1) by omega]
        exact a) (by
        apply List.ext_getElem?
        intro m
        rw[List.getElem?_take,List.getElem?_take]
        by_cases hm:m<i+1
        · rw[if_pos hm,if_pos hm]
          by_cases hmi:m=i
          · subst hmi
            rw[List.getElem?_set_self (by omega)]
            simp only[pnt,List.getElem?_mapIdx,hg,Option.map_some]
          · rw[List.getElem?_set_ne (Ne.symm hmi)]
            have a:=congrArg (fun l:List (List Int)=>l[m]?) ht
            simp only[List.getElem?_take,if_pos (show m<i by omega)]at a
            exact a
        · rw[if_neg hm,if_neg hm])
      refine Loops.Ev.succ ?_
      simp only[impl_paint.l0,if_pos (show(i:Int)<(rows.length:Int) by omega),hw]
      refine Ev.bind e1 ?_
      rw[hcur]
      have key:=ip_l1 SP cur o y0 (rows.length:Int) i (by omega) (SP o (y0+(i:Int))) (by omega) (obj_gray ho) e2 (pnt SP y0 rows o) _ 0 (rows.getD i []) hok (Nat.zero_add _) (by
        rw[List.drop_zero,Loops.wrap_succ hil (by omega)]
        exact nx)
      exact key
  unfold impl_paint.f
  exact loop rows.length 0 rows (by omega) rfl rfl (by simp)
def hgt (h:Int):Prop:=h=1∨h=2∨h=4∨h=8∨h=16∨h=32
theorem iheight_eq (h:Int):impl_IsHeight.f h=some (decide (h=1∨h=2∨h=4∨h=8∨h=16∨h=32)):=by
  unfold impl_IsHeight.f
  by_cases h1:h=1
  · simp[h1]
  by_cases h2:h=2
  · simp[h2]
  by_cases h3:h=4
  · simp[h3]
  by_cases h4:h=8
  · simp[h4]
  by_cases h5:h=16
  · simp[h5]
  by_cases h6:h=32
  · simp[h6]
  simp[h1,h2,h3,h4,h5,h6]
theorem icount_bands (h:Int) (hh:hgt h):impl_CountBands.f h=some (32 / h)∧1≤32 / h∧32 / h≤32∧(32 / h) * h=32:=by
  rcases hh with rfl|rfl|rfl|rfl|rfl|rfl<;>decide+kernel
theorem hgt_in {h:Int} (hh:hgt h):1≤h∧h≤32:=by unfold hgt at hh;omega
theorem iwhite_eq (n:Nat) (hn:n≤32):Ev (fun k=>impl_WhiteRows.f k (n:Int)) (wht n):=by
  have e:impl_within.f (n:Int) 0 32=some true:=by rw[within_eq,decide_eq_true (by omega)]
  have r:slices_Repeat_int_int.f [255] 32=some (List.replicate 32 255):=rfl
  have loop:∀(d m:Nat),m+d=n→Ev (fun k=>impl_WhiteRows.l0 k (d:Int) (wht m)) (wht n):=by
    intro d
    induction d with
    |zero=>
      intro m hm
      refine Loops.Ev.one (fun k=> ?_)
      simp only[impl_WhiteRows.l0]
      rw[if_neg (by omega),show m=n by omega]
    |succ d ih=>
      intro m hm
      refine Ev.step (fun k=> ?_) (ih (m+1) (by omega))
      simp only[impl_WhiteRows.l0]
      rw[if_pos (by omega),r]
      simp only[Option.bind_some]
      rw[if_pos (by simp[wht];omega),show wrap64 (((d+1:Nat):Int) - 1)=(d:Int) by rw[Loops.wrap_in (by omega) (by omega)];omega]
      unfold wht
      rw[List.replicate_succ' (n:=m)]
  unfold impl_WhiteRows.f
  simp only[e,Option.bind_some,if_true]
  exact loop n 0 (by omega)
theorem inew_eq (h kk:Int) (hh:hgt h) (hk:0≤kk∧kk<32 / h):Ev (fun k=>impl_NewBand.f k h kk) (h,kk,wht h.toNat,[],true):=by
  have hc:=icount_bands h hh
  have hi:=hgt_in hh
  unfold impl_NewBand.f
  simp only[iheight_eq,decide_eq_true (show h=1∨h=2∨h=4∨h=8∨h=16∨h=32 from hh),Option.bind_some,if_true,hc.1]
  rw[Loops.wrap_in (x:=32 / h - 1) (by omega) (by omega)]
  simp only[within_eq,decide_eq_true (show 0≤kk∧kk≤32 / h - 1 by omega),Option.bind_some,if_true]
  have w:=iwhite_eq h.toNat (by omega)
  rw[show((h.toNat:Nat):Int)=h by omega]at w
  exact Ev.bind w (Ev.now _)
def cells (l:List S77):Int:=(l.map fun o=>2+(o.f0.length:Int)).sum
theorem cells_nn:∀l:List S77,2 * (l.length:Int)≤cells l
  | []=>by simp[cells]
  |o::l=>by have:=cells_nn l;unfold cells at this ⊢;simp only[List.map_cons,List.sum_cons,List.length_cons];omega
theorem icells_eq (l:List S77) (hc:cells l≤1000000):Ev (fun k=>impl_objectsCells.f k l) (cells l):=by
  have hn:=cells_nn l
  unfold impl_objectsCells.f
  have loop:∀(d i:Nat) (s:Int),i+d=l.length→0≤s→s+cells (l.drop i)=cells l→Ev (fun k=>impl_objectsCells.l0 k s l (l.length:Int) (i:Int)) (cells l):=by
    intro d
    induction d with
    |zero=>
      intro i s hi h0 hs
      obtain rfl:i=l.length:=by omega
      rw[List.drop_length]at hs
      refine Loops.Ev.one (fun k=> ?_)
      simp only[impl_objectsCells.l0]
      rw[if_neg (by omega)]
      simp only[cells,List.map_nil,List.sum_nil]at hs
      congr 1
      unfold cells
      omega
    |succ d ih=>
      intro i s hi h0 hs
      rw[Loops.drop_cons_getD l z77 i (by omega)]at hs
      have hd:=cells_nn (l.drop (i+1))
      have hs2:s+(2+((l.getD i z77).f0.length:Int))+cells (l.drop (i+1))=cells l:=by
        rw[←hs];unfold cells;simp only[List.map_cons,List.sum_cons];omega
      refine Ev.step (fun k=> ?_) (ih (i+1) (s+(2+((l.getD i z77).f0.length:Int))) (by omega) (by omega) hs2)
      simp only[impl_objectsCells.l0]
      rw[if_pos (by omega),if_pos (by omega),if_pos (by omega),rdO,Loops.wrap_succ (n:=l.length) (by omega) (by omega),Loops.wrap_in (x:=2+((l.getD i z77).f0.length:Int)) (by omega) (by omega),Loops.wrap_in (by omega) (by omega)]
  exact loop l.length 0 0 (by omega) (by omega) (by simp)
structure Band (h kk:Int) (base:List (List Int)) (objs:List S77):Prop where
  hh:hgt h
  hk:0≤kk∧kk<32 / h
  len:(base.length:Int)=h
  rows:∀r ∈ base,okRow r
  ok:∀o ∈ objs,objOk o=true
  few:cells objs≤60
theorem Band.y0 {h kk:Int} {base:List (List Int)} {objs:List S77} (b:Band h kk base objs):0≤h * kk∧h * kk+h≤32∧wrap64 (h * kk)=h * kk∧kk * h=h * kk:=by
  have hi:=hgt_in b.hh
  have hc:=(icount_bands h b.hh).2.2.2
  have h1:h * kk≤h * (32 / h - 1):=Int.mul_le_mul_of_nonneg_left (by have:=b.hk;omega) (by omega)
  have h2:h * (32 / h - 1)=32 - h:=by rw[Int.mul_sub,Int.mul_comm h (32 / h),hc];omega
  have h3:0≤h * kk:=Int.mul_nonneg (by omega) b.hk.1
  exact⟨h3,by omega,Loops.wrap_in (by omega) (by omega),Int.mul_comm _ _⟩
theorem Band.nobj {h kk:Int} {base:List (List Int)} {objs:List S77} (b:Band h kk base objs):objs.length≤30:=by
  have:=cells_nn objs
  have:=b.few
  omega
theorem Band.lens {h kk:Int} {base:List (List Int)} {objs:List S77} (b:Band h kk base objs):∀o ∈ objs,o.f0.length≤1048576:=fun o ho=>by
  have:=obj_len (b.ok o ho)
  omega
theorem ibandok {h kk:Int} {base:List (List Int)} {objs:List S77} (b:Band h kk base objs):Ev (fun k=>impl_BandOk.f k h kk base objs) true:=by
  have hi:=hgt_in b.hh
  have hn:=b.nobj
  unfold impl_BandOk.f
  refine Ev.bind (inew_eq h kk b.hh b.hk) ?_
  simp only[if_true,if_pos b.len]
  refine Ev.bind (irows_eq base (by have:=b.len;omega) (fun r hr=>by have:=(b.rows r hr).1;omega)) ?_
  rw[(okRows_iff base).2 ⟨b.rows,by have:=b.len;omega⟩]
  simp only[if_true]
  refine Ev.bind (iobjs_eq objs (by omega) b.lens) ?_
  rw[List.all_eq_true.2 b.ok]
  simp only[if_true]
  unfold impl_BandCells.f
  refine Ev.bind (Ev.bind (icells_eq objs (by have:=b.few;omega)) (Ev.now _)) ?_
  rw[decide_eq_true b.few]
  exact Ev.now _
theorem iclone (r:List Int) (h:r.length≤1048576):slices_Clone_int_int.f r=some r:=by
  unfold slices_Clone_int_int.f
  simp only[Option.bind_some,List.length_nil,List.nil_append]
  rw[if_pos (by omega)]
theorem icopyrows (l:List (List Int)) (hl:l.length≤1048576) (hr:∀r ∈ l,r.length≤1048576):Ev (fun k=>impl_copyRows.f k l) l:=by
  unfold impl_copyRows.f
  have key:=Loops.up_loop (G:=fun k i (s:List (List Int))=>impl_copyRows.l0 k s l (l.length:Int) i) (r:=l) (fun i=>l.take i) l.length (fun k i hi=>by
    have hm:=hr _ (Loops.getD_mem l [] i hi)
    rw[impl_copyRows.l0]
    rw[if_pos (by omega),if_pos (by omega),if_pos (by omega),rdL1,iclone _ hm]
    simp only[Option.bind_some]
    rw[if_pos (by simp;omega),Loops.wrap_succ hi (by omega),Loops.take_one_more l [] i hi]) (Loops.Ev.one (fun k=>by
    simp only[impl_copyRows.l0]
    rw[if_neg (by omega),List.take_length]))
  simpa using key
theorem icopyobj (o:S77) (h:o.f0.length≤1048576):impl_copyObject.f o.f0 o.f1 o.f2.f0 o.f2.f1 o.f2.f2 o.f2.f3=some (o.f0,o.f1,o.f2.f0,o.f2.f1,o.f2.f2,o.f2.f3):=by
  have e:impl_Point.f o.f0=some o.f0:=by
    unfold impl_Point.f
    simp only[Option.bind_some,List.length_nil,List.nil_append]
    rw[if_pos (by omega)]
  unfold impl_copyObject.f
  simp only[e,Option.bind_some]
theorem icopyobjs (l:List S77) (hl:l.length≤1048576) (hr:∀o ∈ l,o.f0.length≤1048576):Ev (fun k=>impl_copyObjects.f k l) l:=by
  unfold impl_copyObjects.f
  have key:=Loops.up_loop (G:=fun k i (s:List S77)=>impl_copyObjects.l0 k s l (l.length:Int) i) (r:=l) (fun i=>l.take i) l.length (fun k i hi=>by
    have hm:=hr _ (Loops.getD_mem l z77 i hi)
    rw[impl_copyObjects.l0]
    rw[if_pos (by omega),if_pos (by omega),if_pos (by omega),rdO,icopyobj _ hm]
    simp only[Option.bind_some]
    rw[if_pos (by simp;omega),Loops.wrap_succ hi (by omega),Loops.take_one_more l z77 i hi]) (Loops.Ev.one (fun k=>by
    simp only[impl_copyObjects.l0]
    rw[if_neg (by omega),List.take_length]))
  simpa using key
theorem icopyband {h kk:Int} {base:List (List Int)} {objs:List S77} (b:Band h kk base objs):Ev (fun k=>impl_copyBand.f k h kk base objs) (h,kk,base,objs):=by
  have hi:=hgt_in b.hh
  unfold impl_copyBand.f
  exact Ev.bind (icopyrows base (by have:=b.len;omega) (fun r hr=>by have:=(b.rows r hr).1;omega)) (Ev.bind (icopyobjs objs (by have:=b.nobj;omega) b.lens) (Ev.now _))
theorem imerge (SP:S77→Int→List S114) (hSP:SpIs SP) {h kk:Int} {base:List (List Int)} {objs:List S77} (b:Band h kk base objs):
    Ev (fun k=>impl_MergeBand.f k h kk base objs) (h,kk,objs.foldl (pnt SP (h * kk)) base,[]):=by
  have hy:=b.y0
  have hi:=hgt_in b.hh
  have hn:=b.nobj
  have hlen:=b.len
  unfold impl_MergeBand.f
  refine Ev.bind (icopyband b) (Ev.bind (ibandok b) ?_)
  simp only[if_true]
  have loop:∀(d i:Nat) (cur:List (List Int)),i+d=objs.length→cur.length=base.length→(∀r ∈ cur,okRow r)→Ev (fun k=>impl_MergeBand.l0 k objs (objs.length:Int) (i:Int) h kk cur objs) (h,kk,(objs.drop i).foldl (pnt SP (h * kk)) cur,[]):=by
    intro d
    induction d with
    |zero=>
      intro i cur hid hc hr
      obtain rfl:i=objs.length:=by omega
      rw[List.drop_length]
      refine Loops.Ev.one (fun k=> ?_)
      simp only[impl_MergeBand.l0]
      rw[if_neg (by omega)]
      rfl
    |succ d ih=>
      intro i cur hid hc hr
      have ho:=b.ok _ (Loops.getD_mem objs z77 i (by omega))
      rw[Loops.drop_cons_getD objs z77 i (by omega),List.foldl_cons]
      refine Loops.Ev.succ ?_
      simp only[impl_MergeBand.l0,if_pos (show(i:Int)<(objs.length:Int) by omega),if_pos (show 0≤(i:Int) by omega),rdO,hy.2.2.1]
      refine Ev.bind (ipaint_eq SP hSP _ ho (h * kk) ⟨hy.1,by omega⟩ cur hr (by omega)) ?_
      rw[Loops.wrap_succ (n:=objs.length) (by omega) (by omega)]
      exact ih (i+1) _ (by omega) (by rw[pnt_len];exact hc) (pnt_ok ho _ hr)
  exact loop objs.length 0 base (by omega) rfl b.rows
theorem dots_pos (o:S77):dots (obox o) >0 ↔ obox o≠zbox:=by
  rcases obox_in o with h|h
  · rw[h];exact⟨fun hh=>absurd hh (by decide),fun hh=>absurd rfl hh⟩
  · refine⟨fun _ e=> ?_,fun _=> ?_⟩
    · rw[e]at h;simp only[zbox]at h;omega
    · unfold dots
      rw[if_pos (by unfold bxOk;rw[decide_eq_true];omega)]
      exact Int.mul_pos (by omega) (by omega)
theorem itouch (o:S77) (ho:o.f0.length≤1048576) {h kk:Int} {base:List (List Int)} {objs:List S77} (b:Band h kk base objs):
    Ev (fun k=>impl_TouchesBand.f k o.f0 o.f1 o.f2.f0 o.f2.f1 o.f2.f2 o.f2.f3 h kk) (decide (dots (obox o) >0∧(obox o).f1<h * kk+h∧(obox o).f3 >h * kk)):=by
  have hy:=b.y0
  have hc:=icount_bands h b.hh
  have hi:=hgt_in b.hh
  have hk:=b.hk
  unfold impl_TouchesBand.f
  simp only[iheight_eq,decide_eq_true (show h=1∨h=2∨h=4∨h=8∨h=16∨h=32 from b.hh),Option.bind_some,if_true,hc.1]
  rw[Loops.wrap_in (x:=32 / h - 1) (by omega) (by omega)]
  simp only[within_eq,decide_eq_true (show 0≤kk∧kk≤32 / h - 1 by omega),Option.bind_some,Bool.not_true]
  refine Loops.Ev.succ ?_
  simp only[impl_TouchesBand.j0,Bool.false_eq_true,if_false]
  refine Ev.bind (iobox_eq o ho) ?_
  dsimp only
  simp only[idots_eq,Option.bind_some,hy.2.2.2,hy.2.2.1]
  rw[Loops.wrap_in (x:=h * kk+h) (by omega) (by omega)]
  by_cases h1:dots (obox o) >0
  · simp only[if_pos h1]
    by_cases h2:(obox o).f1<h * kk+h
    · simp only[if_pos h2,h1,h2,true_and]
      exact Ev.now _
    · simp only[if_neg h2]
      rw[decide_eq_false (fun hh=>h2 hh.2.1)]
      exact Ev.now _
  · simp only[if_neg h1]
    rw[decide_eq_false (fun hh=>h1 hh.1)]
    exact Ev.now _
theorem no_touch (SP:S77→Int→List S114) (hSP:SpIs SP) (o:S77) (ho:objOk o=true) (y0 h:Int) (h0:0≤y0) (rows:List (List Int)) (hl:(rows.length:Int)=h) (hn:¬(dots (obox o) >0∧(obox o).f1<y0+h∧(obox o).f3 >y0)):pnt SP y0 rows o=rows:=by
  have e:∀i,i<rows.length→SP o (y0+(i:Int))= []:=by
    intro i hi
    refine(hSP o _ ho).2.2.1 ?_
    by_cases hz:obox o=zbox
    · rw[hz];simp only[zbox];omega
    · have:=(dots_pos o).2 hz
      omega
  apply List.ext_getElem?
  intro i
  simp only[pnt,List.getElem?_mapIdx]
  by_cases hi:i<rows.length
  · rw[List.getElem?_eq_getElem hi,Option.map_some]
    unfold pntR
    rw[e i hi]
    rfl
  · rw[List.getElem?_eq_none (by omega)];rfl
theorem iadd (SP:S77→Int→List S114) (hSP:SpIs SP) (o:S77) (ho:objOk o=true) {h kk:Int} {base:List (List Int)} {objs:List S77} (b:Band h kk base objs):
    ∃base2 objs2,Ev (fun k=>impl_AddToBand.f k h kk base objs o.f0 o.f1 o.f2.f0 o.f2.f1 o.f2.f2 o.f2.f3) (h,kk,base2,objs2,true)∧Band h kk base2 objs2∧objs2.foldl (pnt SP (h * kk)) base2=pnt SP (h * kk) (objs.foldl (pnt SP (h * kk)) base) o:=by
  have hy:=b.y0
  have hi:=hgt_in b.hh
  have hol:=obj_len ho
  have hn:=b.nobj
  have hf:=b.few
  have hcn:=cells_nn objs
  have start:∀ {R},Ev (fun k=>impl_AddToBand.j0 k false h kk base objs o.f0 o.f1 o.f2.f0 o.f2.f1 o.f2.f2 o.f2.f3) R→Ev (fun k=>impl_AddToBand.f k h kk base objs o.f0 o.f1 o.f2.f0 o.f2.f1 o.f2.f2 o.f2.f3) R:=by
    intro R hR
    unfold impl_AddToBand.f
    refine Ev.bind (ibandok b) ?_
    simp only[if_true]
    refine Ev.bind (iobj_eq o (by omega)) ?_
    simp only[ho,Bool.not_true]
    exact hR
  by_cases ht:dots (obox o) >0∧(obox o).f1<h * kk+h∧(obox o).f3 >h * kk
  · have hbc:Ev (fun k=>impl_BandCells.f k h kk base objs) (cells objs):=by
      unfold impl_BandCells.f
      exact Ev.bind (icells_eq objs (by omega)) (Ev.now _)
    have hw:wrap64 (wrap64 (cells objs+2)+(o.f0.length:Int))=cells objs+2+(o.f0.length:Int):=by
      rw[Loops.wrap_in (x:=cells objs+2) (by omega) (by omega),Loops.wrap_in (by omega) (by omega)]
    by_cases hm:cells objs+2+(o.f0.length:Int) >60
    · refine⟨objs.foldl (pnt SP (h * kk)) base,[o],start ?_,⟨b.hh,b.hk,by rw[pnts_len];exact b.len,pnts_ok _ _ _ b.ok b.rows,by simpa using ho,by unfold cells;simp;omega⟩,rfl⟩
      refine Loops.Ev.succ ?_
      simp only[impl_AddToBand.j0,Bool.false_eq_true,if_false]
      refine Ev.bind (itouch o (by omega) b) ?_
      simp only[decide_eq_true ht,if_true]
      refine Ev.bind (icopyband b) (Ev.bind hbc ?_)
      simp only[hw,if_pos hm]
      refine Ev.bind (imerge SP hSP b) ?_
      dsimp only
      simp only[icopyobj o (by omega),Option.bind_some,List.length_nil,if_pos (show 0<2199023255552 by omega),List.nil_append]
      exact Ev.now _
    · refine⟨base,objs++ [o],start ?_,⟨b.hh,b.hk,b.len,b.rows,fun x hx=> ?_,?_⟩,by rw[List.foldl_append];rfl⟩
      · refine Loops.Ev.succ ?_
        simp only[impl_AddToBand.j0,Bool.false_eq_true,if_false]
        refine Ev.bind (itouch o (by omega) b) ?_
        simp only[decide_eq_true ht,if_true]
        refine Ev.bind (icopyband b) (Ev.bind hbc ?_)
        simp only[hw,if_neg hm]
        simp only[icopyobj o (by omega),Option.bind_some,if_pos (show objs.length<2199023255552 by omega)]
        exact Ev.now _
      · rcases List.mem_append.1 hx with hx|hx
        · exact b.ok x hx
        · rw[List.mem_singleton.1 hx];exact ho
      · have:cells (objs++ [o])=cells objs+(2+(o.f0.length:Int)):=by unfold cells;simp
        omega
  · refine⟨base,objs,start ?_,b,?_⟩
    · refine Loops.Ev.succ ?_
      simp only[impl_AddToBand.j0,Bool.false_eq_true,if_false]
      refine Ev.bind (itouch o (by omega) b) ?_
      simp only[decide_eq_false ht,Bool.false_eq_true,if_false]
      exact Ev.bind (icopyband b) (Ev.now _)
    · exact(no_touch SP hSP o ho (h * kk) h hy.1 _ (by rw[pnts_len];exact b.len) ht).symm
theorem irowsof (SP:S77→Int→List S114) (hSP:SpIs SP) {h kk:Int} {base:List (List Int)} {objs:List S77} (b:Band h kk base objs):Ev (fun k=>impl_RowsOfBand.f k h kk base objs) (objs.foldl (pnt SP (h * kk)) base):=by
  unfold impl_RowsOfBand.f
  refine Ev.bind (ibandok b) ?_
  simp only[if_true]
  exact Ev.bind (imerge SP hSP b) (Ev.now _)
abbrev Rn:=S136
def addRun (acc:List Rn) (v:Int):List Rn:=if acc.length >0∧(acc.getD (acc.length - 1) z136).f0=v then acc.set (acc.length - 1) ⟨(acc.getD (acc.length - 1) z136).f0,(acc.getD (acc.length - 1) z136).f1+1⟩ else acc++ [⟨v,1⟩]
def expand (l:List Rn):List Int:=l.flatMap fun r=>List.replicate r.f1.toNat r.f0
structure Tells (l:List Rn) (row:List Int):Prop where
  exp:expand l=row
  val:∀r ∈ l,(0≤r.f0∧r.f0≤255)∧1≤r.f1
  apart:∀i,i+1<l.length→(l.getD i z136).f0≠(l.getD (i+1) z136).f0
theorem expand_app (a b:List Rn):expand (a++b)=expand a++expand b:=by simp[expand]
theorem expand_len:∀l:List Rn,(∀r ∈ l,1≤r.f1)→l.length≤(expand l).length∧((expand l).length:Int)=(l.map fun r=>r.f1).sum
  | [],_=>by simp[expand]
  |r::l,h=>by
    have h1:=h r (by simp)
    obtain⟨a,b⟩:=expand_len l (fun x hx=>h x (by simp[hx]))
    have e:expand (r::l)=List.replicate r.f1.toNat r.f0++expand l:=by simp[expand]
    rw[e,List.length_append,List.length_replicate,List.map_cons,List.sum_cons,List.length_cons]
    omega
theorem run_le:∀(l:List Rn),(∀r ∈ l,1≤r.f1)→ ∀r ∈ l,r.f1≤(l.map fun r=>r.f1).sum
  | [],_,r,hr=>by cases hr
  |x::l,h,r,hr=>by
    have h1:=h x (by simp)
    have hl:=(expand_len l (fun y hy=>h y (by simp[hy]))).2
    rw[List.map_cons,List.sum_cons]
    rcases List.mem_cons.1 hr with rfl|hr
    · omega
    · have:=run_le l (fun y hy=>h y (by simp[hy])) r hr
      omega
theorem tells_add {acc:List Rn} {pre:List Int} (h:Tells acc pre) (v:Int) (hv:0≤v∧v≤255):Tells (addRun acc v) (pre++ [v]):=by
  unfold addRun
  by_cases hc:acc.length >0∧(acc.getD (acc.length - 1) z136).f0=v
  · rw[if_pos hc]
    obtain⟨h0,hl⟩:=hc
    obtain⟨init,r,rfl⟩:∃init r,acc=init++ [r]:=⟨acc.dropLast,acc.getLast (List.ne_nil_of_length_pos h0),(List.dropLast_concat_getLast _).symm⟩
    have e1:(init++ [r]).length - 1=init.length:=by simp
    have e2:(init++ [r]).getD init.length z136=r:=by rw[List.getD_eq_getElem?_getD,List.getElem?_append_right (Nat.le_refl _),Nat.sub_self];rfl
    rw[e1,e2]at hl ⊢
    have e3:(init++ [r]).set init.length (⟨r.f0,r.f1+1⟩:Rn)=init++ [(⟨r.f0,r.f1+1⟩:Rn)]:=by rw[List.set_append_right _ _ (Nat.le_refl _),Nat.sub_self];rfl
    rw[e3]
    have hr:=h.val r (by simp)
    refine⟨?_,fun x hx=> ?_,fun i hi=> ?_⟩
    · rw[←h.exp,expand_app,expand_app,List.append_assoc]
      congr 1
      have:(r.f1+1).toNat=r.f1.toNat+1:=by omega
      simp only[expand,List.flatMap_cons,List.flatMap_nil,List.append_nil,this,List.replicate_succ' (n:=r.f1.toNat),hl]
    · rcases List.mem_append.1 hx with hx|hx
      · exact h.val x (by simp[hx])
      · rw[List.mem_singleton.1 hx];exact⟨hr.1,by show 1≤r.f1+1;omega⟩
    · have hi2:i+1<(init++ [r]).length:=by simpa using hi
      have a:=h.apart i hi2
      have g:∀m,((init++ [(⟨r.f0,r.f1+1⟩:Rn)]).getD m z136).f0=((init++ [r]).getD m z136).f0:=by
        intro m
        simp only[List.getD_eq_getElem?_getD,List.getElem?_append]
        split
        · rfl
        · rcases Nat.eq_zero_or_pos (m - init.length) with h0|h0
          · rw[h0];rfl
          · rw[List.getElem?_eq_none (by simp;omega),List.getElem?_eq_none (by simp;omega)]
      rw[g,g]
      exact a
  · rw[if_neg hc]
    refine⟨?_,fun x hx=> ?_,fun i hi=> ?_⟩
    · rw[expand_app,h.exp]
      rfl
    · rcases List.mem_append.1 hx with hx|hx
      · exact h.val x hx
      · rw[List.mem_singleton.1 hx];exact⟨hv,by show(1:Int)≤1;omega⟩
    · simp only[List.length_append,List.length_singleton]at hi
      by_cases hi2:i+1<acc.length
      · have a:=h.apart i hi2
        simp only[List.getD_eq_getElem?_getD,List.getElem?_append,if_pos hi2,if_pos (show i<acc.length by omega)]at a ⊢
        exact a
      · have hie:i=acc.length - 1:=by omega
        have e1:(acc++ [(⟨v,1⟩:Rn)]).getD i z136=acc.getD (acc.length - 1) z136:=by
          rw[hie,List.getD_eq_getElem?_getD,List.getElem?_append_left (by omega),List.getD_eq_getElem?_getD]
        have e2:(acc++ [(⟨v,1⟩:Rn)]).getD (i+1) z136=⟨v,1⟩:=by
          simp only[List.getD_eq_getElem?_getD,List.getElem?_append,if_neg hi2,show i+1 - acc.length=0 by omega]
          rfl
        rw[e1,e2]
        exact fun e=>hc ⟨by omega,e⟩
def runsOf (row:List Int):List Rn:=row.foldl addRun []
theorem runs_fold:∀(row:List Int) (acc:List Rn) (pre:List Int),Tells acc pre→(∀x ∈ row,0≤x∧x≤255)→Tells (row.foldl addRun acc) (pre++row)
  | [],acc,pre,h,_=>by simpa using h
  |v::row,acc,pre,h,hr=>by
    have:=runs_fold row (addRun acc v) (pre++ [v]) (tells_add h v (hr v (by simp))) (fun x hx=>hr x (by simp[hx]))
    simpa using this
theorem tells_runs {row:List Int} (h:okRow row):Tells (runsOf row) row:=by
  have:=runs_fold row [] [] ⟨rfl,by simp,by simp⟩ h.2
  unfold runsOf
  simpa using this
def flat (l:List Rn):List Int:=l.flatMap fun r=> [r.f0,r.f1]
theorem flat_len:∀l:List Rn,(flat l).length=2 * l.length
  | []=>rfl
  |r::l=>by have:=flat_len l;unfold flat at this ⊢;simp only[List.flatMap_cons,List.length_append,List.length_cons,List.length_nil];omega
theorem flat_app (a b:List Rn):flat (a++b)=flat a++flat b:=by simp[flat]
theorem flat_get (l:List Rn) (i:Nat) (h:i<l.length):(flat l).getD (2 * i) 0=(l.getD i z136).f0∧(flat l).getD (2 * i+1) 0=(l.getD i z136).f1:=by
  induction l generalizing i with
  |nil=>simp at h
  |cons r l ih=>
    cases i with
    |zero=>exact⟨rfl,rfl⟩
    |succ i=>
      have:=ih i (by simpa using h)
      have e:flat (r::l)=r.f0::r.f1::flat l:=by simp[flat]
      rw[e,show 2 * (i+1)=2 * i+1+1 by omega,show 2 * i+1+1+1=(2 * i+1)+1+1 by omega]
      simpa using this
def packed (row:List Int):Bool×List Int:=if 2 * (runsOf row).length<32 then(false,flat (runsOf row)) else(true,row)
theorem runs_few {row:List Int} (h:okRow row):(runsOf row).length≤32∧((runsOf row).map fun r=>r.f1).sum=32:=by
  have t:=tells_runs h
  have e:=expand_len (runsOf row) (fun r hr=>(t.val r hr).2)
  rw[t.exp,h.1]at e
  omega
theorem rdR (l:List Rn) (i:Nat):rd_T136 l (i:Int)=l.getD i z136:=by simp[rd_T136]
theorem irunsof_eq (row:List Int) (h:okRow row):Ev (fun k=>impl_RunsOf.f k row) (runsOf row):=by
  have hl:=h.1
  unfold impl_RunsOf.f
  simp only[if_neg (show ¬(row.length:Int) >32 by omega)]
  have loop:∀(d i:Nat) (acc:List Rn),i+d=row.length→Tells acc (row.take i)→Ev (fun k=>impl_RunsOf.l0 k acc row (row.length:Int) (i:Int)) ((row.drop i).foldl addRun acc):=by
    intro d
    induction d with
    |zero=>
      intro i acc hi ht
      obtain rfl:i=row.length:=by omega
      rw[List.drop_length]
      refine Loops.Ev.one (fun k=> ?_)
      simp only[impl_RunsOf.l0]
      rw[if_neg (by omega)]
      rfl
    |succ d ih=>
      intro i acc hi ht
      have hv:=h.2 _ (Loops.getD_mem row 0 i (by omega))
      have hal:acc.length≤i:=by
        have:=(expand_len acc (fun r hr=>(ht.val r hr).2)).1
        rw[ht.exp,List.length_take]at this
        omega
      rw[Loops.drop_cons_getD row 0 i (by omega),List.foldl_cons]
      have nx:=ih (i+1) (addRun acc (row.getD i 0)) (by omega) (by rw[Loops.take_one_more row 0 i (by omega)];exact tells_add ht _ hv)
      have hw:wrap64 ((i:Int)+1)=((i+1:Nat):Int):=Loops.wrap_succ (n:=row.length) (by omega) (by omega)
      refine Ev.step (fun k=> ?_) nx
      simp only[impl_RunsOf.l0]
      rw[if_pos (by omega),if_pos (by omega),if_pos (by omega),Loops.rd_nat,within_eq,decide_eq_true hv]
      simp only[Option.bind_some,if_true]
      by_cases h1:(acc.length:Int) >0
      · have hw2:wrap64 ((acc.length:Int) - 1)=((acc.length - 1:Nat):Int):=by rw[Loops.wrap_in (by omega) (by omega)];omega
        rw[if_pos h1,hw2,if_pos (by omega),if_pos (by omega),rdR,hw,Int.toNat_natCast]
        by_cases h2:(acc.getD (acc.length - 1) z136).f0=row.getD i 0
        · have hr:=ht.val _ (Loops.getD_mem acc z136 (acc.length - 1) (by omega))
          have hle:(acc.getD (acc.length - 1) z136).f1≤32:=by
            have a:=run_le acc (fun r hr=>(ht.val r hr).2) _ (Loops.getD_mem acc z136 (acc.length - 1) (by omega))
            have b:=(expand_len acc (fun r hr=>(ht.val r hr).2)).2
            rw[ht.exp,List.length_take]at b
            omega
          have ha:addRun acc (row.getD i 0)=acc.set (acc.length - 1) ⟨(acc.getD (acc.length - 1) z136).f0,(acc.getD (acc.length - 1) z136).f1+1⟩:=if_pos ⟨by omega,h2⟩
          rw[if_pos h2,ha,Loops.wrap_in (x:=(acc.getD (acc.length - 1) z136).f1+1) (by omega) (by omega)]
        · have ha:addRun acc (row.getD i 0)=acc++ [(⟨row.getD i 0,1⟩:Rn)]:=if_neg (fun hh=>h2 hh.2)
          rw[if_neg h2,if_pos (by omega),ha]
      · have ha:addRun acc (row.getD i 0)=acc++ [(⟨row.getD i 0,1⟩:Rn)]:=if_neg (fun hh=>h1 (by omega))
        rw[if_neg h1,if_pos (by omega),hw,ha]
  exact loop row.length 0 [] (by omega) ⟨rfl,by simp,by simp⟩
theorem ipack_eq (row:List Int) (h:okRow row):Ev (fun k=>impl_PackRow.f k row) (packed row):=by
  have hl:=h.1
  have hf:=(runs_few h).1
  unfold impl_PackRow.f
  refine Ev.bind (irow_eq row (by omega)) ?_
  rw[(okRow_iff row).2 h]
  simp only[if_true]
  refine Ev.bind (irunsof_eq row h) ?_
  unfold packed
  generalize hR:runsOf row=rs at hf
  have loop:∀(d i:Nat),i+d=rs.length→Ev (fun k=>impl_PackRow.l0 k row (flat (rs.take i)) rs (rs.length:Int) (i:Int)) (if 2 * rs.length<32 then(false,flat rs) else(true,row)):=by
    intro d
    induction d with
    |zero=>
      intro i hi
      obtain rfl:i=rs.length:=by omega
      rw[List.take_length]
      refine Loops.Ev.one (fun k=> ?_)
      simp only[impl_PackRow.l0]
      rw[if_neg (by omega),iclone row (by omega),flat_len]
      simp only[Option.bind_some]
      by_cases h2:2 * rs.length<32
      · rw[if_pos h2,if_pos (by omega)]
      · rw[if_neg h2,if_neg (by omega)]
    |succ d ih=>
      intro i hi
      have e:flat (rs.take (i+1))=flat (rs.take i)++ [(rs.getD i z136).f0,(rs.getD i z136).f1]:=by
        rw[Loops.take_one_more rs z136 i (by omega),flat_app]
        rfl
      have nx:=ih (i+1) (by omega)
      rw[e]at nx
      refine Ev.step (fun k=> ?_) nx
      simp only[impl_PackRow.l0]
      rw[if_pos (by omega),if_pos (by omega),if_pos (by omega),rdR]
      simp only[Option.bind_some]
      rw[if_pos (by rw[flat_len,List.length_take];simp;omega),Loops.wrap_succ (n:=rs.length) (by omega) (by omega)]
  exact loop rs.length 0 (by omega)
theorem irunsok {rs:List Rn} {row:List Int} (t:Tells rs row) (hl:row.length=32):Ev (fun k=>impl_RunsOk.f k rs) true:=by
  have e:=expand_len rs (fun r hr=>(t.val r hr).2)
  rw[t.exp,hl]at e
  unfold impl_RunsOk.f
  exact Loops.plain_loop (G:=fun k i=>impl_RunsOk.l0 k rs rs (rs.length:Int) i) rs.length (by omega) (fun k i hi=>by
    have hm:=Loops.getD_mem rs z136 i hi
    have hv:=t.val _ hm
    have hle:=run_le rs (fun r hr=>(t.val r hr).2) _ hm
    simp only[impl_RunsOk.l0]
    rw[if_pos (by omega),if_pos (by omega),if_pos (by omega),rdR,within_eq,within_eq,decide_eq_true hv.1,decide_eq_true (show 1≤(rs.getD i z136).f1∧(rs.getD i z136).f1≤32 by omega)]
    simp only[Option.bind_some,if_true]
    by_cases h0:(i:Int) >0
    · have hw2:wrap64 ((i:Int) - 1)=((i - 1:Nat):Int):=by rw[Loops.wrap_in (by omega) (by omega)];omega
      have ha:=t.apart (i - 1) (by omega)
      rw[show i - 1+1=i by omega]at ha
      rw[if_pos h0,hw2,if_pos (by omega),if_pos (by omega),rdR,if_neg ha]
    · rw[if_neg h0]) (fun k=>by
    simp only[impl_RunsOk.l0]
    rw[if_neg (by omega)])
theorem irunslen {rs:List Rn} {row:List Int} (t:Tells rs row) (hl:row.length=32):Ev (fun k=>impl_RunsLength.f k rs) 32:=by
  have e:=expand_len rs (fun r hr=>(t.val r hr).2)
  rw[t.exp,hl]at e
  unfold impl_RunsLength.f
  have loop:∀(d i:Nat) (s:Int),i+d=rs.length→0≤s→s+((rs.drop i).map fun r=>r.f1).sum=32→Ev (fun k=>impl_RunsLength.l0 k s rs (rs.length:Int) (i:Int)) 32:=by
    intro d
    induction d with
    |zero=>
      intro i s hi h0 hs
      obtain rfl:i=rs.length:=by omega
      rw[List.drop_length]at hs
      simp only[List.map_nil,List.sum_nil]at hs
      refine Loops.Ev.one (fun k=> ?_)
      simp only[impl_RunsLength.l0]
      rw[if_neg (by omega)]
      congr 1
      omega
    |succ d ih=>
      intro i s hi h0 hs
      have hm:=Loops.getD_mem rs z136 i (by omega)
      have hv:=t.val _ hm
      rw[Loops.drop_cons_getD rs z136 i (by omega),List.map_cons,List.sum_cons]at hs
      have hd:=(expand_len (rs.drop (i+1)) (fun r hr=>(t.val r (List.mem_of_mem_drop hr)).2)).2
      refine Ev.step (fun k=> ?_) (ih (i+1) (s+(rs.getD i z136).f1) (by omega) (by omega) (by omega))
      simp only[impl_RunsLength.l0]
      rw[if_pos (by omega),if_pos (by omega),if_pos (by omega),rdR,Loops.wrap_succ (n:=rs.length) (by omega) (by omega),Loops.wrap_in (by omega) (by omega)]
  exact loop rs.length 0 0 (by omega) (by omega) (by rw[List.drop_zero];omega)
theorem irowof {rs:List Rn} {row:List Int} (t:Tells rs row) (hl:row.length=32):Ev (fun k=>impl_RowOf.f k rs) row:=by
  have e:=expand_len rs (fun r hr=>(t.val r hr).2)
  rw[t.exp,hl]at e
  unfold impl_RowOf.f
  refine Ev.bind (irunsok t hl) ?_
  simp only[if_true]
  refine Ev.bind (irunslen t hl) ?_
  refine Loops.Ev.succ ?_
  simp only[impl_RowOf.j0,decide_eq_false (show ¬(32:Int) >32 by omega),Bool.false_eq_true,if_false]
  have l1:∀(i:Nat) (v c:Int) (R:List Int),c≤32→ ∀(d:Nat) (x:Int) (acc:List Int),0≤x→d=(c - x).toNat→acc.length≤64→
      (Ev (fun k=>impl_RowOf.l0 k (acc++List.replicate d v) rs (rs.length:Int) (wrap64 ((i:Int)+1))) R)→acc.length+d≤64→Ev (fun k=>impl_RowOf.l1 k acc x rs (rs.length:Int) (i:Int) v c) R:=by
    intro i v c R hc d
    induction d with
    |zero=>
      intro x acc hx hd ha nx _
      refine Loops.Ev.succ ?_
      simp only[impl_RowOf.l1,if_neg (show ¬x<c by omega)]
      simpa using nx
    |succ d ih=>
      intro x acc hx hd ha nx hb
      have key:=ih (x+1) (acc++ [v]) (by omega) (by omega) (by simp;omega) (by rw[List.append_assoc,List.singleton_append,←List.replicate_succ];exact nx) (by simp;omega)
      refine Loops.Ev.succ ?_
      simp only[impl_RowOf.l1,if_pos (show x<c by omega),if_pos (show acc.length<17592186044416 by omega),Loops.wrap_in (x:=x+1) (by omega) (by omega)]
      exact key
  have loop:∀(d i:Nat) (acc:List Int),i+d=rs.length→acc++expand (rs.drop i)=row→Ev (fun k=>impl_RowOf.l0 k acc rs (rs.length:Int) (i:Int)) row:=by
    intro d
    induction d with
    |zero=>
      intro i acc hi ha
      obtain rfl:i=rs.length:=by omega
      rw[List.drop_length]at ha
      have ha2:acc=row:=by simpa[expand]using ha
      refine Loops.Ev.one (fun k=> ?_)
      simp only[impl_RowOf.l0]
      rw[if_neg (by omega),ha2]
    |succ d ih=>
      intro i acc hi ha
      have hm:=Loops.getD_mem rs z136 i (by omega)
      have hv:=t.val _ hm
      have hle:=run_le rs (fun r hr=>(t.val r hr).2) _ hm
      rw[Loops.drop_cons_getD rs z136 i (by omega)]at ha
      have e2:expand (rs.getD i z136::rs.drop (i+1))=List.replicate (rs.getD i z136).f1.toNat (rs.getD i z136).f0++expand (rs.drop (i+1)):=by simp[expand]
      rw[e2,←List.append_assoc]at ha
      have hlen:=congrArg List.length ha
      rw[hl,List.length_append,List.length_append,List.length_replicate]at hlen
      have nx:=ih (i+1) (acc++List.replicate (rs.getD i z136).f1.toNat (rs.getD i z136).f0) (by omega) ha
      refine Loops.Ev.succ ?_
      simp only[impl_RowOf.l0,if_pos (show(i:Int)<(rs.length:Int) by omega),if_pos (show 0≤(i:Int) by omega),rdR]
      exact l1 i _ _ row (by omega) (rs.getD i z136).f1.toNat 0 acc (by omega) (by omega) (by omega) (by
        rw[Loops.wrap_succ (n:=rs.length) (by omega) (by omega)]
        exact nx) (by omega)
  exact loop rs.length 0 [] (by omega) (by simpa using t.exp)
theorem sameRow_refl (a:List Int):sameRow a a=true:=by
  unfold sameRow
  rw[decide_eq_true rfl,Bool.true_and,List.all_eq_true]
  intro q hq
  have:∀l:List Int,∀q ∈ l.zip l,q.1=q.2:=by
    intro l
    induction l with
    |nil=>simp
    |cons x l ih=>
      intro q hq
      rw[List.zip_cons_cons]at hq
      rcases List.mem_cons.1 hq with h|h
      · rw[h]
      · exact ih q h
  exact decide_eq_true (this a q hq)
theorem sameRows_refl (a:List (List Int)):sameRows a a=true:=by
  unfold sameRows
  rw[decide_eq_true rfl,Bool.true_and,List.all_eq_true]
  intro q hq
  have:∀l:List (List Int),∀q ∈ l.zip l,q.1=q.2:=by
    intro l
    induction l with
    |nil=>simp
    |cons x l ih=>
      intro q hq
      rw[List.zip_cons_cons]at hq
      rcases List.mem_cons.1 hq with h|h
      · rw[h]
      · exact ih q h
  rw[this a q hq]
  exact sameRow_refl _
theorem iunpack (row:List Int) (h:okRow row):Ev (fun k=>impl_UnpackRow.f k (packed row).1 (packed row).2) (row,true):=by
  have hl:=h.1
  have t:=tells_runs h
  have hf:=(runs_few h).1
  have hpl:(packed row).2.length≤32:=by
    unfold packed
    split
    · show(flat (runsOf row)).length≤32
      rw[flat_len];omega
    · show row.length≤32
      omega
  have j1:Ev (fun k=>impl_UnpackRow.j1 k row (packed row).1 (packed row).2) (row,true):=by
    refine Loops.Ev.succ ?_
    simp only[impl_UnpackRow.j1]
    refine Ev.bind (irow_eq row (by omega)) ?_
    rw[(okRow_iff row).2 h]
    simp only[if_true]
    refine Ev.bind (ipack_eq row h) ?_
    simp only[bne_self_eq_false,Bool.false_eq_true,if_false]
    refine Ev.bind (equal_eq _ _ (by omega)) ?_
    rw[sameRow_refl]
    simp only[if_true]
    exact Ev.now _
  unfold impl_UnpackRow.f
  rw[iclone _ (by omega)]
  simp only[Option.bind_some]
  by_cases h2:2 * (runsOf row).length<32
  · have e:packed row=(false,flat (runsOf row)):=by unfold packed;rw[if_pos h2]
    rw[e]at j1 ⊢
    dsimp only at j1 ⊢
    simp only[Bool.false_eq_true,if_false,flat_len]
    simp only[if_pos (show((2 * (runsOf row).length:Nat):Int) % 2=0 by omega)]
    generalize hR:runsOf row=rs at *
    have loop:∀(d i:Nat),i+d=rs.length→Ev (fun k=>impl_UnpackRow.l0 k (rs.take i) ((2 * i:Nat):Int) false (flat rs)) (row,true):=by
      intro d
      induction d with
      |zero=>
        intro i hi
        obtain rfl:i=rs.length:=by omega
        rw[List.take_length]
        refine Loops.Ev.succ ?_
        simp only[impl_UnpackRow.l0,flat_len,if_neg (show ¬((2 * rs.length:Nat):Int)<((2 * rs.length:Nat):Int) by omega)]
        exact Ev.bind (irowof t hl) j1
      |succ d ih=>
        intro i hi
        have g:=flat_get rs i (by omega)
        have nx:=ih (i+1) (by omega)
        rw[Loops.take_one_more rs z136 i (by omega)]at nx
        have w1:wrap64 (((2 * i:Nat):Int)+1)=((2 * i+1:Nat):Int):=by rw[Loops.wrap_in (by omega) (by omega)];omega
        have w2:wrap64 (((2 * i:Nat):Int)+2)=((2 * (i+1):Nat):Int):=by rw[Loops.wrap_in (by omega) (by omega)];omega
        refine Ev.step (fun k=> ?_) nx
        simp only[impl_UnpackRow.l0]
        rw[flat_len,w1,w2,Loops.rd_nat,Loops.rd_nat,g.1,g.2,if_pos (by omega),if_pos (by omega),if_pos (by omega),if_pos (by omega),if_pos (by rw[List.length_take];omega)]
    exact loop rs.length 0 (by omega)
  · have e:packed row=(true,row):=by unfold packed;rw[if_neg h2]
    rw[e]at j1 ⊢
    dsimp only at j1 ⊢
    simp only[if_true]
    exact j1
def packs (rows:List (List Int)):List S107:=rows.map fun r=>⟨(packed r).1,(packed r).2⟩
theorem ipacks_eq (rows:List (List Int)) (h:∀r ∈ rows,okRow r) (hl:rows.length≤32):Ev (fun k=>impl_PackRows.f k rows) (packs rows):=by
  unfold impl_PackRows.f
  refine Ev.bind (irows_eq rows (by omega) (fun r hr=>by have:=(h r hr).1;omega)) ?_
  rw[(okRows_iff rows).2 ⟨h,hl⟩]
  simp only[if_true]
  have loop:∀(d i:Nat),i+d=rows.length→Ev (fun k=>impl_PackRows.l0 k (packs (rows.take i)) rows (rows.length:Int) (i:Int)) (packs rows):=by
    intro d
    induction d with
    |zero=>
      intro i hi
      obtain rfl:i=rows.length:=by omega
      rw[List.take_length]
      refine Loops.Ev.one (fun k=> ?_)
      simp only[impl_PackRows.l0]
      rw[if_neg (by omega)]
    |succ d ih=>
      intro i hi
      have nx:=ih (i+1) (by omega)
      have e:packs (rows.take (i+1))=packs (rows.take i)++ [(⟨(packed (rows.getD i [])).1,(packed (rows.getD i [])).2⟩:S107)]:=by
        rw[Loops.take_one_more rows [] i (by omega)];simp[packs]
      rw[e]at nx
      refine Loops.Ev.succ ?_
      simp only[impl_PackRows.l0,if_pos (show(i:Int)<(rows.length:Int) by omega),if_pos (show 0≤(i:Int) by omega),rdL1]
      refine Ev.bind (ipack_eq _ (h _ (Loops.getD_mem rows [] i (by omega)))) ?_
      simp only[if_pos (show(packs (rows.take i)).length<4398046511104 by simp[packs];omega),Loops.wrap_succ (n:=rows.length) (i:=i) (by omega) (by omega)]
      exact nx
  exact loop rows.length 0 (by omega)
theorem iunpacks_eq (rows:List (List Int)) (h:∀r ∈ rows,okRow r) (hl:rows.length≤32):Ev (fun k=>impl_UnpackRows.f k (packs rows)) (rows,true):=by
  have hpl:(packs rows).length=rows.length:=by simp[packs]
  unfold impl_UnpackRows.f
  simp only[if_neg (show ¬((packs rows).length:Int) >32 by omega)]
  have loop:∀(d i:Nat),i+d=rows.length→Ev (fun k=>impl_UnpackRows.l0 k (rows.take i) (packs rows) ((packs rows).length:Int) (i:Int)) (rows,true):=by
    intro d
    induction d with
    |zero=>
      intro i hi
      obtain rfl:i=rows.length:=by omega
      rw[List.take_length]
      refine Loops.Ev.one (fun k=> ?_)
      simp only[impl_UnpackRows.l0]
      rw[if_neg (by omega)]
    |succ d ih=>
      intro i hi
      have nx:=ih (i+1) (by omega)
      rw[Loops.take_one_more rows [] i (by omega)]at nx
      have g:rd_T107 (packs rows) (i:Int)=(⟨(packed (rows.getD i [])).1,(packed (rows.getD i [])).2⟩:S107):=by
        have:i<rows.length:=by omega
        simp[rd_T107,packs,rdOf,List.getD,List.getElem?_eq_getElem this]
      refine Loops.Ev.succ ?_
      simp only[impl_UnpackRows.l0,if_pos (show(i:Int)<((packs rows).length:Int) by omega),if_pos (show 0≤(i:Int) by omega),g]
      refine Ev.bind (iunpack _ (h _ (Loops.getD_mem rows [] i (by omega)))) ?_
      simp only[if_true,if_pos (show(rows.take i).length<5864062014805 by rw[List.length_take];omega),Loops.wrap_succ (n:=(packs rows).length) (i:=i) (by omega) (by omega)]
      exact nx
  exact loop rows.length 0 (by omega)
theorem band_rows (SP:S77→Int→List S114) (l:List S77) (hN kN:Nat) (hb:hN * kN+hN≤32):
    (l.foldl (pnt SP 0) (wht 32)).take (hN * kN)++l.foldl (pnt SP ((hN * kN:Nat):Int)) (wht hN)=(l.foldl (pnt SP 0) (wht 32)).take (hN * kN+hN):=by
  have hF:(l.foldl (pnt SP 0) (wht 32)).length=32:=by rw[pnts_len];simp[wht]
  apply List.ext_getElem?
  intro m
  rw[List.getElem?_take]
  by_cases hm:m<hN * kN
  · rw[List.getElem?_append_left (by rw[List.length_take,hF];omega),List.getElem?_take,if_pos hm,if_pos (by omega)]
  · rw[List.getElem?_append_right (by rw[List.length_take,hF];omega),List.length_take,hF,Nat.min_eq_left (by omega),pnts_get]
    by_cases hm2:m<hN * kN+hN
    · rw[if_pos hm2,pnts_get]
      have w1:(wht hN)[m - hN * kN]? =some (List.replicate 32 255):=by unfold wht;rw[List.getElem?_replicate,if_pos (by omega)]
      have w2:(wht 32)[m]? =some (List.replicate 32 255):=by unfold wht;rw[List.getElem?_replicate,if_pos (by omega)]
      rw[w1,w2,show((hN * kN:Nat):Int)+((m - hN * kN:Nat):Int)=0+(m:Int) by omega]
    · rw[if_neg hm2]
      have w1:(wht hN)[m - hN * kN]? =none:=by unfold wht;rw[List.getElem?_replicate,if_neg (by omega)]
      rw[w1]
      rfl
theorem iprint_eq (SP:S77→Int→List S114) (hSP:SpIs SP) (l:List S77) (hl:l.length≤12) (hok:∀o ∈ l,objOk o=true) (h:Int) (hh:hgt h):Ev (fun k=>impl_PrintPage.f k l h) (l.foldl (pnt SP 0) (wht 32),true):=by
  have hc:=icount_bands h hh
  have hi:=hgt_in hh
  have hF:(l.foldl (pnt SP 0) (wht 32)).length=32:=by rw[pnts_len];simp[wht]
  obtain⟨hN,rfl⟩:∃hN:Nat,h=hN:=⟨h.toNat,by omega⟩
  obtain⟨nb,hnb⟩:∃nb:Nat,(32:Int) / (hN:Int)=nb:=⟨((32:Int) / (hN:Int)).toNat,by omega⟩
  rw[hnb]at hc
  have h32:nb * hN=32:=by
    have:=hc.2.2.2
    exact_mod_cast this
  have inner:∀(kN:Nat) (hk:kN<nb) (R:List (List Int)×Bool) (out:List (List Int)),out.length≤32→
      Ev (fun k=>impl_PrintPage.l0 k l (hN:Int) (out++l.foldl (pnt SP ((hN * kN:Nat):Int)) (wht hN)) ((kN+1:Nat):Int)) R→
      ∀(d i:Nat) (base:List (List Int)) (objs:List S77),i+d=l.length→Band (hN:Int) (kN:Int) base objs→objs.foldl (pnt SP ((hN:Int) * (kN:Int))) base=(l.take i).foldl (pnt SP ((hN:Int) * (kN:Int))) (wht hN)→
      Ev (fun k=>impl_PrintPage.l1 k l (hN:Int) out (kN:Int) l (l.length:Int) (i:Int) (hN:Int) (kN:Int) base objs) R:=by
    intro kN hk R out hout nx d
    induction d with
    |zero=>
      intro i base objs hid b he
      obtain rfl:i=l.length:=by omega
      rw[List.take_length]at he
      have hr:∀r ∈ objs.foldl (pnt SP ((hN:Int) * (kN:Int))) base,okRow r:=pnts_ok _ _ _ b.ok b.rows
      have hrl:(objs.foldl (pnt SP ((hN:Int) * (kN:Int))) base).length≤32:=by rw[pnts_len];have:=b.len;omega
      refine Loops.Ev.succ ?_
      simp only[impl_PrintPage.l1,if_neg (show ¬(l.length:Int)<(l.length:Int) by omega)]
      refine Ev.bind (irowsof SP hSP b) (Ev.bind (ipacks_eq _ hr hrl) (Ev.bind (iunpacks_eq _ hr hrl) ?_))
      dsimp only
      rw[he]at hrl ⊢
      simp only[if_pos (show out.length+((l.foldl (pnt SP ((hN:Int) * (kN:Int))) (wht hN))).length<5864062014805 by omega),Loops.wrap_succ (n:=nb) (i:=kN) hk (by omega)]
      rw[show(hN:Int) * (kN:Int)=((hN * kN:Nat):Int) by simp]
      exact nx
    |succ d ih=>
      intro i base objs hid b he
      have ho:=hok _ (Loops.getD_mem l z77 i (by omega))
      obtain⟨base2,objs2,ev,b2,e2⟩:=iadd SP hSP _ ho b
      have nx2:=ih (i+1) base2 objs2 (by omega) b2 (by rw[e2,he,Loops.take_one_more l z77 i (by omega),List.foldl_append];rfl)
      refine Loops.Ev.succ ?_
      simp only[impl_PrintPage.l1,if_pos (show(i:Int)<(l.length:Int) by omega),if_pos (show 0≤(i:Int) by omega),rdO]
      refine Ev.bind ev ?_
      rw[Loops.wrap_succ (n:=l.length) (by omega) (by omega)]
      exact nx2
  have outer:∀(d kN:Nat),kN+d=nb→Ev (fun k=>impl_PrintPage.l0 k l (hN:Int) ((l.foldl (pnt SP 0) (wht 32)).take (hN * kN)) (kN:Int)) (l.foldl (pnt SP 0) (wht 32),true):=by
    intro d
    induction d with
    |zero=>
      intro kN hk
      obtain rfl:kN=nb:=by omega
      refine Loops.Ev.one (fun k=> ?_)
      simp only[impl_PrintPage.l0,hc.1,Option.bind_some]
      rw[if_neg (by omega),List.take_of_length_le (by rw[hF,Nat.mul_comm];omega)]
    |succ d ih=>
      intro kN hk
      have hb:hN * kN+hN≤32:=by
        have:hN * (kN+1)≤hN * nb:=Nat.mul_le_mul_left _ (by omega)
        rw[Nat.mul_succ,Nat.mul_comm hN nb,h32]at this
        exact this
      have nx:=ih (kN+1) (by omega)
      rw[Nat.mul_succ,←band_rows SP l hN kN hb]at nx
      have hk2:0≤(kN:Int)∧(kN:Int)<32 / (hN:Int):=by rw[hnb];omega
      refine Loops.Ev.succ ?_
      simp only[impl_PrintPage.l0,hc.1,Option.bind_some,if_pos (show(kN:Int)<(nb:Int) by omega)]
      refine Ev.bind (inew_eq (hN:Int) (kN:Int) hh hk2) ?_
      exact inner kN (by omega) _ _ (by rw[List.length_take,hF];omega) nx l.length 0 (wht hN) [] (by omega) ⟨hh,hk2,by simp[wht],wht_ok hN,by simp,by simp[cells]⟩ rfl
  have key:=outer nb 0 (by omega)
  unfold impl_PrintPage.f
  simp only[if_neg (show ¬(l.length:Int) >12 by omega)]
  refine Ev.bind (iobjs_eq l (by omega) (fun o ho=>by have:=obj_len (hok o ho);omega)) ?_
  rw[List.all_eq_true.2 hok]
  simp only[if_true,iheight_eq,decide_eq_true (show(hN:Int)=1∨(hN:Int)=2∨(hN:Int)=4∨(hN:Int)=8∨(hN:Int)=16∨(hN:Int)=32 from hh),Option.bind_some,Bool.not_true]
  refine Loops.Ev.succ ?_
  simp only[impl_PrintPage.j0,Bool.false_eq_true,if_false]
  simpa using key
theorem ipaintall_eq (SP:S77→Int→List S114) (hSP:SpIs SP) (l:List S77) (hl:l.length≤12) (hok:∀o ∈ l,objOk o=true):Ev (fun k=>impl_PaintAll.f k l) (l.foldl (pnt SP 0) (wht 32),true):=by
  have loop:∀(d i:Nat) (cur:List (List Int)),i+d=l.length→cur.length≤32→(∀r ∈ cur,okRow r)→Ev (fun k=>impl_PaintAll.l0 k cur l (l.length:Int) (i:Int)) ((l.drop i).foldl (pnt SP 0) cur,true):=by
    intro d
    induction d with
    |zero=>
      intro i cur hi hc hr
      obtain rfl:i=l.length:=by omega
      rw[List.drop_length]
      refine Loops.Ev.one (fun k=> ?_)
      simp only[impl_PaintAll.l0]
      rw[if_neg (by omega)]
      rfl
    |succ d ih=>
      intro i cur hi hc hr
      have ho:=hok _ (Loops.getD_mem l z77 i (by omega))
      rw[Loops.drop_cons_getD l z77 i (by omega),List.foldl_cons]
      refine Loops.Ev.succ ?_
      simp only[impl_PaintAll.l0,if_pos (show(i:Int)<(l.length:Int) by omega),if_pos (show 0≤(i:Int) by omega),rdO]
      refine Ev.bind (ipaint_eq SP hSP _ ho 0 (by omega) cur hr hc) ?_
      rw[Loops.wrap_succ (n:=l.length) (by omega) (by omega)]
      exact ih (i+1) _ (by omega) (by rw[pnt_len];exact hc) (pnt_ok ho _ hr)
  unfold impl_PaintAll.f
  simp only[if_neg (show ¬(l.length:Int) >12 by omega)]
  refine Ev.bind (iobjs_eq l (by omega) (fun o ho=>by have:=obj_len (hok o ho);omega)) ?_
  rw[List.all_eq_true.2 hok]
  simp only[Bool.not_true]
  refine Loops.Ev.succ ?_
  simp only[impl_PaintAll.j0,Bool.false_eq_true,if_false]
  have w:=iwhite_eq 32 (by omega)
  refine Ev.bind w ?_
  simpa using loop l.length 0 (wht 32) (by omega) (by simp[wht]) (wht_ok 32)
theorem wmix {x:Int} (h0:0≤x) (h1:x<41):wrap64 (x - 4)=x - 4:=Loops.wrap_in (by omega) (by omega)
theorem coord_some (b:List Int) (hb:b.length≤1048576) (i h:Int) (hi:0≤i):∃x i2 h2,((spec_l01Below.f b i h 33).bind fun a=>((spec_l01Below.f b a.2.1 a.2.2 41).bind fun c=>(spec_l01PickInt.f b c.2.1 c.2.2 [0,32,a.1,wrap64 (c.1 - 4)])))=some (x,i2,h2)∧ -4≤x∧x≤36∧0≤i2:=by
  obtain⟨a,i1,h1,e1,a0,a1,hi1⟩:=below_some b hb i h 33 hi (by omega)
  obtain⟨c,i2,h2,e2,c0,c1,hi2⟩:=below_some b hb i1 h1 41 hi1 (by omega)
  obtain⟨x,i3,h3,e3,hx,hi3⟩:=pick_some b hb i2 h2 [0,32,a,wrap64 (c - 4)] hi2 (by simp)
  refine⟨x,i3,h3,by simp only[e1,e2,Option.bind_some];exact e3,?_,?_,hi3⟩
  all_goals
    rw[wmix c0 c1]at hx
    simp only[List.mem_cons,List.not_mem_nil,or_false]at hx
    omega
theorem point_some (b:List Int) (hb:b.length≤1048576) (i h:Int) (hi:0≤i):∃x y i2 h2,spec_l02Point.f b i h=some (x,y,i2,h2)∧(-4≤x∧x≤36)∧(-4≤y∧y≤36)∧0≤i2:=by
  obtain⟨x,i1,h1,e1,x0,x1,hi1⟩:=coord_some b hb i h hi
  obtain⟨y,i2,h2,e2,y0,y1,hi2⟩:=coord_some b hb i1 h1 hi1
  refine⟨x,y,i2,h2,?_,⟨x0,x1⟩,⟨y0,y1⟩,hi2⟩
  unfold spec_l02Point.f
  obtain⟨a,ha,e1⟩:=Option.bind_eq_some_iff.1 e1
  obtain⟨c,hc,e1⟩:=Option.bind_eq_some_iff.1 e1
  obtain⟨a2,ha2,e2⟩:=Option.bind_eq_some_iff.1 e2
  obtain⟨c2,hc2,e2⟩:=Option.bind_eq_some_iff.1 e2
  simp only[ha,hc,e1,ha2,hc2,e2,Option.bind_some]
theorem box_some (b:List Int) (hb:b.length≤1048576) (i h:Int) (hi:0≤i):∃(x:S75) (i2 h2:Int),spec_l02Box.f b i h=some (x.f0,x.f1,x.f2,x.f3,i2,h2)∧bxOk x=true∧(-4≤x.f0∧x.f0≤x.f2∧x.f2≤36)∧(-4≤x.f1∧x.f1≤x.f3∧x.f3≤36)∧0≤i2:=by
  obtain⟨x,y,i1,h1,e1,hx,hy,hi1⟩:=point_some b hb i h hi
  obtain⟨u,v,i2,h2,e2,hu,hv,hi2⟩:=point_some b hb i1 h1 hi1
  refine⟨⟨mn x u,mn y v,mx x u,mx y v⟩,i2,h2,by unfold spec_l02Box.f;simp only[e1,e2,Option.bind_some],?_,?_,?_,hi2⟩
  · unfold bxOk
    simp only[mx_eq,mn_eq]
    exact decide_eq_true (by omega)
  · simp only[mx_eq,mn_eq];omega
  · simp only[mx_eq,mn_eq];omega
theorem pt_small {x y:Int} (hx: -4≤x∧x≤36) (hy: -4≤y∧y≤36):ptOk ⟨x,y⟩=true:=by
  unfold ptOk
  exact decide_eq_true (by dsimp only;omega)
theorem path_some (b:List Int) (hb:b.length≤1048576) (i h:Int) (hi:0≤i):∃(l:List S126) (i2 h2:Int),Ev (fun k=>spec_l08Path.f k b i h) (l,i2,h2)∧(3≤l.length∧l.length≤6)∧ptsOk l=true∧0≤i2:=by
  obtain⟨q,i1,h1,e1,q0,q1,hi1⟩:=below_some b hb i h 4 hi (by omega)
  have loop:∀(d:Nat) (l:List S126) (i h:Int),0≤i→(l.length:Int)+d=3+q→ptsOk l=true→ ∃(l2:List S126) (i2 h2:Int),Ev (fun k=>spec_l08Path.l0 k l (3+q) (l.length:Int) b i h) (l2,i2,h2)∧(3≤l2.length∧l2.length≤6)∧ptsOk l2=true∧0≤i2:=by
    intro d
    induction d with
    |zero=>
      intro l i h hi hd hl
      refine⟨l,i,h,Loops.Ev.one (fun k=> ?_),by omega,hl,hi⟩
      simp only[spec_l08Path.l0]
      rw[if_neg (by omega)]
    |succ d ih=>
      intro l i h hi hd hl
      obtain⟨x,y,i3,h3,e3,hx,hy,hi3⟩:=point_some b hb i h hi
      obtain⟨l2,i2,h2,ev,r⟩:=ih (l++ [(⟨x,y⟩:S126)]) i3 h3 hi3 (by simp;omega) (by
        unfold ptsOk at hl ⊢
        rw[List.all_append,hl]
        simp[pt_small hx hy])
      refine⟨l2,i2,h2,Ev.step (fun k=> ?_) ev,r⟩
      simp only[spec_l08Path.l0,e3,Option.bind_some]
      rw[if_pos (by omega),if_pos (by omega),show wrap64 ((l.length:Int)+1)=((l++ [(⟨x,y⟩:S126)]).length:Int) by rw[Loops.wrap_in (by omega) (by omega)];simp]
  unfold spec_l08Path.f
  simp only[e1,Option.bind_some]
  rw[Loops.wrap_in (x:=3+q) (by omega) (by omega)]
  exact loop (3+q).toNat [] i1 h1 hi1 (by simp;omega) rfl
theorem drawobj_some (b:List Int) (hb:b.length≤1048576) (i h:Int) (hi:0≤i):∃(o:S77) (i2 h2:Int),Ev (fun k=>spec_l10Object.f k b i h) (o.f0,o.f1,o.f2.f0,o.f2.f1,o.f2.f2,o.f2.f3,i2,h2)∧objOk o=true∧0≤i2:=by
  obtain⟨l,i1,h1,ev1,hl,hp,hi1⟩:=path_some b hb i h hi
  obtain⟨q,i2,h2,e2,q0,q1,hi2⟩:=below_some b hb i1 h1 256 hi1 (by omega)
  obtain⟨g,i3,h3,e3,hg,hi3⟩:=pick_some b hb i2 h2 [0,255,128,q] hi2 (by simp)
  have hg2:0≤g∧g≤255:=by
    simp only[List.mem_cons,List.not_mem_nil,or_false]at hg
    omega
  obtain⟨t,i4,h4,e4,hi4⟩:=once_some b hb i3 h3 3 hi3 (by omega)
  have fin:∀(c:S75) (i h:Int),0≤i→bxOk c=true→ ∃(o:S77) (i2 h2:Int),Ev (fun k=>spec_l10Object.j0 k b i h l g c.f0 c.f1 c.f2 c.f3) (o.f0,o.f1,o.f2.f0,o.f2.f1,o.f2.f2,o.f2.f3,i2,h2)∧objOk o=true∧0≤i2:=by
    intro c i h hi hc
    obtain⟨t,i5,h5,e5,hi5⟩:=once_some b hb i h 3 hi (by omega)
    cases t with
    |false=>
      refine⟨⟨l,g,c⟩,i5,h5,Loops.Ev.one (fun k=> ?_),?_,hi5⟩
      · simp only[spec_l10Object.j0,e5,Option.bind_some,Bool.false_eq_true,if_false]
      · unfold objOk
        rw[hp,hc,decide_eq_true hg2,decide_eq_true (by dsimp only;omega)]
        rfl
    |true=>
      obtain⟨x,i6,h6,e6,_,hx,hy,hi6⟩:=box_some b hb i5 h5 hi5
      refine⟨⟨[⟨x.f0,x.f1⟩,⟨x.f2,x.f1⟩,⟨x.f2,x.f3⟩,⟨x.f0,x.f3⟩],g,c⟩,i6,h6,Loops.Ev.one (fun k=> ?_),?_,hi6⟩
      · simp only[spec_l10Object.j0,e5,e6,Option.bind_some,if_true]
      · unfold objOk ptsOk
        rw[hc,decide_eq_true hg2,decide_eq_true (by simp)]
        simp[pt_small (show -4≤x.f0∧x.f0≤36 by omega) (show -4≤x.f1∧x.f1≤36 by omega),pt_small (show -4≤x.f2∧x.f2≤36 by omega) (show -4≤x.f1∧x.f1≤36 by omega),pt_small (show -4≤x.f2∧x.f2≤36 by omega) (show -4≤x.f3∧x.f3≤36 by omega),pt_small (show -4≤x.f0∧x.f0≤36 by omega) (show -4≤x.f3∧x.f3≤36 by omega)]
  have hfull:bxOk (⟨0,0,32,32⟩:S75)=true:=by decide
  cases t with
  |false=>
    obtain⟨o,i5,h5,ev,r⟩:=fin ⟨0,0,32,32⟩ i4 h4 hi4 hfull
    refine⟨o,i5,h5,?_,r⟩
    unfold spec_l10Object.f spec_l07Full.f
    refine Ev.bind ev1 ?_
    simp only[e2,e3,e4,Option.bind_some,Bool.false_eq_true,if_false]
    exact ev
  |true=>
    obtain⟨x,i6,h6,e6,hx,_,_,hi6⟩:=box_some b hb i4 h4 hi4
    obtain⟨o,i5,h5,ev,r⟩:=fin x i6 h6 hi6 hx
    refine⟨o,i5,h5,?_,r⟩
    unfold spec_l10Object.f spec_l07Full.f
    refine Ev.bind ev1 ?_
    simp only[e2,e3,e4,e6,Option.bind_some,if_true]
    exact ev
theorem drawlist_some (b:List Int) (hb:b.length≤1048576):∃l:List S77,Ev (fun k=>spec_DrawList.f k b) l∧l.length≤5∧ ∀o ∈ l,objOk o=true:=by
  obtain⟨h0,e0⟩:=new_some b hb
  obtain⟨q,i1,h1,e1,q0,q1,hi1⟩:=below_some b hb 0 h0 6 (by omega) (by omega)
  have loop:∀(d:Nat) (l:List S77) (i h:Int),0≤i→(l.length:Int)+d=q→(∀o ∈ l,objOk o=true)→ ∃(l2:List S77) (i2 h2:Int),Ev (fun k=>spec_l10List.l0 k l q (l.length:Int) b i h) (l2,i2,h2)∧l2.length≤5∧ ∀o ∈ l2,objOk o=true:=by
    intro d
    induction d with
    |zero=>
      intro l i h hi hd hl
      refine⟨l,i,h,Loops.Ev.one (fun k=> ?_),by omega,hl⟩
      simp only[spec_l10List.l0]
      rw[if_neg (by omega)]
    |succ d ih=>
      intro l i h hi hd hl
      obtain⟨o,i3,h3,ev3,ho,hi3⟩:=drawobj_some b hb i h hi
      obtain⟨l2,i2,h2,ev,r⟩:=ih (l++ [o]) i3 h3 hi3 (by simp;omega) (fun x hx=>by
        rcases List.mem_append.1 hx with hx|hx
        · exact hl x hx
        · rw[List.mem_singleton.1 hx];exact ho)
      refine⟨l2,i2,h2,Loops.Ev.succ ?_,r⟩
      simp only[spec_l10List.l0,if_pos (show(l.length:Int)<q by omega)]
      refine Ev.bind ev3 ?_
      simp only[if_pos (show l.length<2199023255552 by omega)]
      rw[show wrap64 ((l.length:Int)+1)=((l++ [o]).length:Int) by rw[Loops.wrap_in (by omega) (by omega)];simp]
      exact ev
  obtain⟨l2,i2,h2,ev,r⟩:=loop q.toNat [] i1 h1 hi1 (by simp;omega) (by simp)
  refine⟨l2,?_,r⟩
  unfold spec_DrawList.f
  refine Ev.bind e0 ?_
  unfold spec_l10List.f
  simp only[e1,Option.bind_some]
  exact Ev.bind ev (Ev.now _)
theorem drawheight_some (b:List Int) (hb:b.length≤1048576):∃h,Ev (fun k=>spec_DrawHeight.f k b) h∧hgt h:=by
  obtain⟨h0,e0⟩:=new_some b hb
  obtain⟨x,i1,h1,e1,hx,_⟩:=pick_some b hb 0 h0 [1,2,4,8,8,16,32] (by omega) (by simp)
  refine⟨x,?_,?_⟩
  · unfold spec_DrawHeight.f
    refine Ev.bind e0 ?_
    unfold spec_l12Height.f
    simp only[e1,Option.bind_some]
    exact Ev.now _
  · simp only[List.mem_cons,List.not_mem_nil,or_false]at hx
    unfold hgt
    omega
theorem FnPrinted:∀(l0:List Int),(l0.length≤maxLen∧ ∀x ∈ l0,(Lit.int .u8 x).wf=true)→ ∃k,laws_FnPrinted.f k l0=some true:=by
  intro b _
  refine Ev.rounds ?_
  unfold laws_FnPrinted.f laws_big.f
  simp only[Option.bind_some]
  by_cases hb:(b.length:Int) >1048576
  · simp only[decide_eq_true hb,if_true]
    exact Ev.now _
  simp only[decide_eq_false hb,Bool.false_eq_true,if_false]
  obtain⟨SP,hSP⟩:=sp_is
  obtain⟨l,el,hl,hok⟩:=drawlist_some b (by omega)
  obtain⟨h,eh,hh⟩:=drawheight_some b (by omega)
  have hF:(l.foldl (pnt SP 0) (wht 32)).length=32:=by rw[pnts_len];simp[wht]
  have hr:∀r ∈ l.foldl (pnt SP 0) (wht 32),okRow r:=pnts_ok _ _ _ hok (wht_ok 32)
  refine Ev.bind el (Ev.bind eh (Ev.bind (iprint_eq SP hSP l (by omega) hok h hh) (Ev.bind (ipaintall_eq SP hSP l (by omega) hok) ?_)))
  simp only[if_true]
  refine Ev.bind (isame_eq _ _ (by omega) (fun x hx=>by have:=(hr x hx).1;omega)) ?_
  rw[sameRows_refl]
  exact Ev.now _
end Go.Proofs.Ytaceidiookkocaa.Pure
