/- Calls do what plain Lean functions say (FnExactDoAct). No condition. -/
import Derived.Test.YtblceimapaenlaaQFnExactDoAct0
namespace Go.Proofs.Ytblceimapaenlaa.PFnExactDoAct
open Go.RowKit Go.Proofs.YtblceimapaenlaaW.PrintWords Go.Proofs.YtblceimapaenlaaW.PrintLast Go.Proofs.YtblceimapaenlaaW.PrintMore
open Try
open Fix (bnd d14 d6 eB eK eQ fQ gE gl gy np oT qm qn rE rS si uB uC uK uP uQ uZ)
open Go.Value renaming int→V,slice→L,bool→O
open Go.IntKind renaming i64→I
open Go.Proofs.YtblceimapaenlaaW.PrintWords.Aside0 renaming mk→C
open Go.Proofs.YtblceimapaenlaaW.PrintWords renaming Aside0→D,gate_callee→F
attribute [local go_sem] max2_int min2_int max_two min_two max_three min_three max_four min_four
attribute [local go_sem] Fix.isSome_setCell
set_option linter.unusedVariables false
set_option maxHeartbeats 40000000
set_option maxRecDepth 100000
set_option linter.unusedSimpArgs false
def laws_markJobS.l0:Nat→List (S33)→Int→Int→Option (Int×(List (S33)))
 |0,_,_,_=>none
 |k+1,x0,x1,x5=>if x5<(x0.length:Int) then(if 0≤x5 then((some (x0.set (x5:Int).toNat (⟨x1,(rd_T33 x0 x5).f1,(rd_T33 x0 x5).f2,(rd_T33 x0 x5).f3,(rd_T33 x0 x5).f4,(rd_T33 x0 x5).f5⟩:S33):List (S33))).bind fun y800=>((some (y800.set (x5:Int).toNat (⟨(rd_T33 y800 x5).f0,wrap64 (x1+1),(rd_T33 y800 x5).f2,(rd_T33 y800 x5).f3,(rd_T33 y800 x5).f4,(rd_T33 y800 x5).f5⟩:S33):List (S33))).bind fun y801=>((some (y801.set (x5:Int).toNat (⟨(rd_T33 y801 x5).f0,(rd_T33 y801 x5).f1,wrap64 ((wrap64 (x1+1))+1),(rd_T33 y801 x5).f3,(rd_T33 y801 x5).f4,(rd_T33 y801 x5).f5⟩:S33):List (S33))).bind fun y802=>((some (y802.set (x5:Int).toNat (⟨(rd_T33 y802 x5).f0,(rd_T33 y802 x5).f1,(rd_T33 y802 x5).f2,((Int.tmod (wrap64 ((wrap64 ((wrap64 (x1+1))+1))+1)) 3)==0),(rd_T33 y802 x5).f4,(rd_T33 y802 x5).f5⟩:S33):List (S33))).bind fun y803=>((some (y803.set (x5:Int).toNat (⟨(rd_T33 y803 x5).f0,(rd_T33 y803 x5).f1,(rd_T33 y803 x5).f2,(rd_T33 y803 x5).f3,wrap64 ((wrap64 ((wrap64 ((wrap64 (x1+1))+1))+1))+1),(rd_T33 y803 x5).f5⟩:S33):List (S33))).bind fun y804=>(laws_markJobS.l0 k (y804.set (x5:Int).toNat (⟨(rd_T33 y804 x5).f0,(rd_T33 y804 x5).f1,(rd_T33 y804 x5).f2,(rd_T33 y804 x5).f3,(rd_T33 y804 x5).f4,((Int.tmod (wrap64 ((wrap64 ((wrap64 ((wrap64 ((wrap64 (x1+1))+1))+1))+1))+1)) 3)==0)⟩:S33)) (wrap64 ((wrap64 ((wrap64 ((wrap64 ((wrap64 ((wrap64 (x1+1))+1))+1))+1))+1))+1)) (wrap64 (x5+1)))))))) else(none)) else(some (x1,x0))
def laws_markJobS.f (k:Nat) (l0:List (S33)) (a1:Int):Option (Int×(List (S33))):=laws_markJobS.l0 k l0 a1 0
theorem laws_markJobS.calls (k:Nat) (P0_:Nat→Prop) (u9000_:Value) (l0:List (S33)) (a1:Int) (r1:Int) (r2:List (S33)) (w0 w:World) (hB:Below w0.heap.size w0 w) (ho0:Kd.Q k33 33 w w0.heap.size P0_ u9000_ l0) (h:laws_markJobS.f k l0 a1=some (r1,r2)):
 Calls prog 77 #[u9000_,V I a1] w fun e w'=>e=.returned (V I r1)∧Kd.Q k33 33 w' w0.heap.size (fun k_=>(P0_ k_∨w.heap.size≤k_)) u9000_ r2∧Below w0.heap.size w0 w'∧Kept w w' (fun k_=>P0_ k_):=by
 have HO1:=C (show Kd.Q k33 33 w w0.heap.size (fun k_=>(P0_ k_∨w.heap.size≤k_)) u9000_ l0 from Kd.Q_mono ho0 (fun k_ hk=>(.inl hk)))
 have HK:=C (Kept.refl w (fun k_=>P0_ k_))
 have HW1:=C hB.size
 have HB:=C hB
 clear hB
 have H:=h
 unfold laws_markJobS.f at H
 clear h
 have H':=C H
 clear H
 go_enter func77,ntmps77
 go_wp2
 go_loopg [1,5] k (fun kq v1 v5 w'=>∃(x1_1:List (S33)) (x2_1:Int) (x3_1:Int),v1=V I x2_1∧v5=V I x3_1∧D (laws_markJobS.l0 kq x1_1 x2_1 x3_1=some (r1,r2))∧D (kq≤k)∧D (Kd.Q k33 33 w' w0.heap.size (fun k_=>(P0_ k_∨w.heap.size≤k_)) u9000_ x1_1)∧D (Kept w w' (fun k_=>P0_ k_))∧D (Below w0.heap.size w0 w'))
 case atStart=>exact⟨(l0),(a1),(0),rS,rS,H',⟨Nat.le_refl _⟩,⟨fQ HO1.out⟩,⟨uP⟩,⟨uB⟩⟩
 case round=>
  clear H'
  obtain⟨x1_1,x2_1,x3_1,rfl,rfl,HA,HK1,HO_1,HK,HB⟩:=hrel
  cases gk with
  |zero=>exact absurd HA.out (by simp[laws_markJobS.l0])
  |succ k1=>
   have H:=HA.out
   clear HA
   simp only[laws_markJobS.l0]at H
   by_cases c1:x3_1<(x1_1.length:Int)
   rotate_left
   ·rw[if_neg c1]at H
    replace c1:=decide_eq_false c1
    simp only[Option.some.injEq,Prod.mk.injEq]at H
    obtain⟨rfl,rfl⟩:=H
    obtain⟨Ao1,co1,eo1,_⟩:=Kd.Q_slice HO_1.out
    subst eo1
    go_wp2
    go_ret
    exact⟨rE,fQ HO_1.out,uB,uP⟩
   rw[if_pos c1]at H
   replace c1:=decide_eq_true c1
   obtain⟨c2,H⟩:=np H
   replace c2:=decide_eq_true c2
   obtain⟨y1,hy1⟩:∃y_:List (S33),y_=(x1_1.set (x3_1:Int).toNat (⟨x2_1,(rd_T33 x1_1 x3_1).f1,(rd_T33 x1_1 x3_1).f2,(rd_T33 x1_1 x3_1).f3,(rd_T33 x1_1 x3_1).f4,(rd_T33 x1_1 x3_1).f5⟩:S33)):=⟨_,rfl⟩
   replace H:((some (y1.set (x3_1:Int).toNat (⟨(rd_T33 y1 x3_1).f0,wrap64 (x2_1+1),(rd_T33 y1 x3_1).f2,(rd_T33 y1 x3_1).f3,(rd_T33 y1 x3_1).f4,(rd_T33 y1 x3_1).f5⟩:S33):List (S33))).bind fun y2=>((some (y2.set (x3_1:Int).toNat (⟨(rd_T33 y2 x3_1).f0,(rd_T33 y2 x3_1).f1,wrap64 ((wrap64 (x2_1+1))+1),(rd_T33 y2 x3_1).f3,(rd_T33 y2 x3_1).f4,(rd_T33 y2 x3_1).f5⟩:S33):List (S33))).bind fun y3=>((some (y3.set (x3_1:Int).toNat (⟨(rd_T33 y3 x3_1).f0,(rd_T33 y3 x3_1).f1,(rd_T33 y3 x3_1).f2,((Int.tmod (wrap64 ((wrap64 ((wrap64 (x2_1+1))+1))+1)) 3)==0),(rd_T33 y3 x3_1).f4,(rd_T33 y3 x3_1).f5⟩:S33):List (S33))).bind fun y4=>((some (y4.set (x3_1:Int).toNat (⟨(rd_T33 y4 x3_1).f0,(rd_T33 y4 x3_1).f1,(rd_T33 y4 x3_1).f2,(rd_T33 y4 x3_1).f3,wrap64 ((wrap64 ((wrap64 ((wrap64 (x2_1+1))+1))+1))+1),(rd_T33 y4 x3_1).f5⟩:S33):List (S33))).bind fun y5=>(laws_markJobS.l0 k1 (y5.set (x3_1:Int).toNat (⟨(rd_T33 y5 x3_1).f0,(rd_T33 y5 x3_1).f1,(rd_T33 y5 x3_1).f2,(rd_T33 y5 x3_1).f3,(rd_T33 y5 x3_1).f4,((Int.tmod (wrap64 ((wrap64 ((wrap64 ((wrap64 ((wrap64 (x2_1+1))+1))+1))+1))+1)) 3)==0)⟩:S33)) (wrap64 ((wrap64 ((wrap64 ((wrap64 ((wrap64 ((wrap64 (x2_1+1))+1))+1))+1))+1))+1)) (wrap64 (x3_1+1)))))))=some (r1,r2):=gy hy1 H
   have Ny1:=C hy1
   clear hy1
   obtain⟨y2,hy2⟩:∃y_:List (S33),y_=(y1.set (x3_1:Int).toNat (⟨(rd_T33 y1 x3_1).f0,wrap64 (x2_1+1),(rd_T33 y1 x3_1).f2,(rd_T33 y1 x3_1).f3,(rd_T33 y1 x3_1).f4,(rd_T33 y1 x3_1).f5⟩:S33)):=⟨_,rfl⟩
   replace H:((some (y2.set (x3_1:Int).toNat (⟨(rd_T33 y2 x3_1).f0,(rd_T33 y2 x3_1).f1,wrap64 ((wrap64 (x2_1+1))+1),(rd_T33 y2 x3_1).f3,(rd_T33 y2 x3_1).f4,(rd_T33 y2 x3_1).f5⟩:S33):List (S33))).bind fun y3=>((some (y3.set (x3_1:Int).toNat (⟨(rd_T33 y3 x3_1).f0,(rd_T33 y3 x3_1).f1,(rd_T33 y3 x3_1).f2,((Int.tmod (wrap64 ((wrap64 ((wrap64 (x2_1+1))+1))+1)) 3)==0),(rd_T33 y3 x3_1).f4,(rd_T33 y3 x3_1).f5⟩:S33):List (S33))).bind fun y4=>((some (y4.set (x3_1:Int).toNat (⟨(rd_T33 y4 x3_1).f0,(rd_T33 y4 x3_1).f1,(rd_T33 y4 x3_1).f2,(rd_T33 y4 x3_1).f3,wrap64 ((wrap64 ((wrap64 ((wrap64 (x2_1+1))+1))+1))+1),(rd_T33 y4 x3_1).f5⟩:S33):List (S33))).bind fun y5=>(laws_markJobS.l0 k1 (y5.set (x3_1:Int).toNat (⟨(rd_T33 y5 x3_1).f0,(rd_T33 y5 x3_1).f1,(rd_T33 y5 x3_1).f2,(rd_T33 y5 x3_1).f3,(rd_T33 y5 x3_1).f4,((Int.tmod (wrap64 ((wrap64 ((wrap64 ((wrap64 ((wrap64 (x2_1+1))+1))+1))+1))+1)) 3)==0)⟩:S33)) (wrap64 ((wrap64 ((wrap64 ((wrap64 ((wrap64 ((wrap64 (x2_1+1))+1))+1))+1))+1))+1)) (wrap64 (x3_1+1))))))=some (r1,r2):=gy hy2 H
   have Ny2:=C hy2
   clear hy2
   obtain⟨y3,hy3⟩:∃y_:List (S33),y_=(y2.set (x3_1:Int).toNat (⟨(rd_T33 y2 x3_1).f0,(rd_T33 y2 x3_1).f1,wrap64 ((wrap64 (x2_1+1))+1),(rd_T33 y2 x3_1).f3,(rd_T33 y2 x3_1).f4,(rd_T33 y2 x3_1).f5⟩:S33)):=⟨_,rfl⟩
   replace H:((some (y3.set (x3_1:Int).toNat (⟨(rd_T33 y3 x3_1).f0,(rd_T33 y3 x3_1).f1,(rd_T33 y3 x3_1).f2,((Int.tmod (wrap64 ((wrap64 ((wrap64 (x2_1+1))+1))+1)) 3)==0),(rd_T33 y3 x3_1).f4,(rd_T33 y3 x3_1).f5⟩:S33):List (S33))).bind fun y4=>((some (y4.set (x3_1:Int).toNat (⟨(rd_T33 y4 x3_1).f0,(rd_T33 y4 x3_1).f1,(rd_T33 y4 x3_1).f2,(rd_T33 y4 x3_1).f3,wrap64 ((wrap64 ((wrap64 ((wrap64 (x2_1+1))+1))+1))+1),(rd_T33 y4 x3_1).f5⟩:S33):List (S33))).bind fun y5=>(laws_markJobS.l0 k1 (y5.set (x3_1:Int).toNat (⟨(rd_T33 y5 x3_1).f0,(rd_T33 y5 x3_1).f1,(rd_T33 y5 x3_1).f2,(rd_T33 y5 x3_1).f3,(rd_T33 y5 x3_1).f4,((Int.tmod (wrap64 ((wrap64 ((wrap64 ((wrap64 ((wrap64 (x2_1+1))+1))+1))+1))+1)) 3)==0)⟩:S33)) (wrap64 ((wrap64 ((wrap64 ((wrap64 ((wrap64 ((wrap64 (x2_1+1))+1))+1))+1))+1))+1)) (wrap64 (x3_1+1)))))=some (r1,r2):=gy hy3 H
   have Ny3:=C hy3
   clear hy3
   obtain⟨y4,hy4⟩:∃y_:List (S33),y_=(y3.set (x3_1:Int).toNat (⟨(rd_T33 y3 x3_1).f0,(rd_T33 y3 x3_1).f1,(rd_T33 y3 x3_1).f2,((Int.tmod (wrap64 ((wrap64 ((wrap64 (x2_1+1))+1))+1)) 3)==0),(rd_T33 y3 x3_1).f4,(rd_T33 y3 x3_1).f5⟩:S33)):=⟨_,rfl⟩
   replace H:((some (y4.set (x3_1:Int).toNat (⟨(rd_T33 y4 x3_1).f0,(rd_T33 y4 x3_1).f1,(rd_T33 y4 x3_1).f2,(rd_T33 y4 x3_1).f3,wrap64 ((wrap64 ((wrap64 ((wrap64 (x2_1+1))+1))+1))+1),(rd_T33 y4 x3_1).f5⟩:S33):List (S33))).bind fun y5=>(laws_markJobS.l0 k1 (y5.set (x3_1:Int).toNat (⟨(rd_T33 y5 x3_1).f0,(rd_T33 y5 x3_1).f1,(rd_T33 y5 x3_1).f2,(rd_T33 y5 x3_1).f3,(rd_T33 y5 x3_1).f4,((Int.tmod (wrap64 ((wrap64 ((wrap64 ((wrap64 ((wrap64 (x2_1+1))+1))+1))+1))+1)) 3)==0)⟩:S33)) (wrap64 ((wrap64 ((wrap64 ((wrap64 ((wrap64 ((wrap64 (x2_1+1))+1))+1))+1))+1))+1)) (wrap64 (x3_1+1))))=some (r1,r2):=gy hy4 H
   have Ny4:=C hy4
   clear hy4
   obtain⟨y5,hy5⟩:∃y_:List (S33),y_=(y4.set (x3_1:Int).toNat (⟨(rd_T33 y4 x3_1).f0,(rd_T33 y4 x3_1).f1,(rd_T33 y4 x3_1).f2,(rd_T33 y4 x3_1).f3,wrap64 ((wrap64 ((wrap64 ((wrap64 (x2_1+1))+1))+1))+1),(rd_T33 y4 x3_1).f5⟩:S33)):=⟨_,rfl⟩
   replace H:(laws_markJobS.l0 k1 (y5.set (x3_1:Int).toNat (⟨(rd_T33 y5 x3_1).f0,(rd_T33 y5 x3_1).f1,(rd_T33 y5 x3_1).f2,(rd_T33 y5 x3_1).f3,(rd_T33 y5 x3_1).f4,((Int.tmod (wrap64 ((wrap64 ((wrap64 ((wrap64 ((wrap64 (x2_1+1))+1))+1))+1))+1)) 3)==0)⟩:S33)) (wrap64 ((wrap64 ((wrap64 ((wrap64 ((wrap64 ((wrap64 (x2_1+1))+1))+1))+1))+1))+1)) (wrap64 (x3_1+1)))=some (r1,r2):=gy hy5 H
   have Ny5:=C hy5
   clear hy5
   obtain⟨y6,hy6⟩:∃y_:List (S33),y_=(y5.set (x3_1:Int).toNat (⟨(rd_T33 y5 x3_1).f0,(rd_T33 y5 x3_1).f1,(rd_T33 y5 x3_1).f2,(rd_T33 y5 x3_1).f3,(rd_T33 y5 x3_1).f4,((Int.tmod (wrap64 ((wrap64 ((wrap64 ((wrap64 ((wrap64 (x2_1+1))+1))+1))+1))+1)) 3)==0)⟩:S33)):=⟨_,rfl⟩
   replace H:(laws_markJobS.l0 k1 y6 (wrap64 ((wrap64 ((wrap64 ((wrap64 ((wrap64 ((wrap64 (x2_1+1))+1))+1))+1))+1))+1)) (wrap64 (x3_1+1)))=some (r1,r2):=gy hy6 H
   have Ny6:=C hy6
   clear hy6
   have H':=C H
   clear H
   obtain⟨Ao1,co1,eo1,_⟩:=Kd.Q_slice HO_1.out
   subst eo1
   have p1:0≤(x3_1:Int):=oT
   have q1:(x3_1:Int)<((x1_1.length:Int):Int):=oT
   obtain⟨go1,oo1,co2,eo2,gb1,gl1,cl1,HG1⟩:=Kd.Q_form HO_1.out (by omega)
   (first|cases eo2|(injection eo2 with ea_ en_ ec_;(first|subst ea_|(injection ea_ with ea_;subst ea_));subst ec_;clear en_))
   have GB1:=C gb1
   have GG1:=C HG1
   clear gb1 gl1 HG1
   have HMgo1:=C (show(P0_ go1∨w.heap.size≤go1) from(HO_1.out.1 _ rfl))
   obtain⟨ce1,hcl1,hM1,hcc1,hfr1⟩:=Kd.Q_elem HO_1.out z33 (x3_1:Int) p1 q1
   obtain rfl:=k33_openM hM1
   have hx1_0:wr.cell? ⟨go1,oo1+(x3_1:Int).toNat * 6,none⟩=some (V I ((rd_T33 x1_1 x3_1).f0)):=hcc1 0 _ rfl
   have hx1_1:wr.cell? ⟨go1,oo1+(x3_1:Int).toNat * 6+1,none⟩=some (V I ((rd_T33 x1_1 x3_1).f1)):=hcc1 1 _ rfl
   have hx1_2:wr.cell? ⟨go1,oo1+(x3_1:Int).toNat * 6+2,none⟩=some (V I ((rd_T33 x1_1 x3_1).f2)):=hcc1 2 _ rfl
   have hx1_3:wr.cell? ⟨go1,oo1+(x3_1:Int).toNat * 6+3,none⟩=some (O ((rd_T33 x1_1 x3_1).f3)):=hcc1 3 _ rfl
   have hx1_4:wr.cell? ⟨go1,oo1+(x3_1:Int).toNat * 6+4,none⟩=some (V I ((rd_T33 x1_1 x3_1).f4)):=hcc1 4 _ rfl
   have hx1_5:wr.cell? ⟨go1,oo1+(x3_1:Int).toNat * 6+5,none⟩=some (O ((rd_T33 x1_1 x3_1).f5)):=hcc1 5 _ rfl
   have hf1_0:wr.frozen? ⟨go1,oo1+(x3_1:Int).toNat * 6,none⟩=false:=hfr1 0
   have hf1_1:wr.frozen? ⟨go1,oo1+(x3_1:Int).toNat * 6+1,none⟩=false:=hfr1 1
   have hf1_2:wr.frozen? ⟨go1,oo1+(x3_1:Int).toNat * 6+2,none⟩=false:=hfr1 2
   have hf1_3:wr.frozen? ⟨go1,oo1+(x3_1:Int).toNat * 6+3,none⟩=false:=hfr1 3
   have hf1_4:wr.frozen? ⟨go1,oo1+(x3_1:Int).toNat * 6+4,none⟩=false:=hfr1 4
   have hf1_5:wr.frozen? ⟨go1,oo1+(x3_1:Int).toNat * 6+5,none⟩=false:=hfr1 5
   (try clear hcl1);(try clear hcc1);(try clear hfr1);(try clear hM1)
   replace p1:=eq_true p1
   replace q1:=eq_true q1
   have HX1:=C (show Kd.Q k33 33 wr w0.heap.size (fun k_=>(P0_ k_∨w.heap.size≤k_)) (L (some ⟨go1,oo1,none⟩) x1_1.length co1) x1_1 from(uQ HO_1.out))
   obtain⟨ce2,hcl2,hM2,hcc2,hfr2⟩:=Kd.Q_elem HX1.out z33 (x3_1:Int) oT (by have h_:(x3_1:Int)<((x1_1.length:Int):Int):=oT;first|exact h_|(have e_:=(Kd.Q_reads' HO_1.out).1;omega)|simpa using h_)
   obtain rfl:=k33_openM hM2
   have HP1:=Kd.Q_seg HX1.out (x3_1:Int) oT (by have h_:(x3_1:Int)<((x1_1.length:Int):Int):=oT;first|exact h_|(have e_:=(Kd.Q_reads' HO_1.out).1;omega)|simpa using h_) (seg:= [V I x2_1]) (j:=0) hcl2 hcc2 (show 1≤6 from by decide) (x':=(⟨x2_1,(rd_T33 x1_1 x3_1).f1,(rd_T33 x1_1 x3_1).f2,(rd_T33 x1_1 x3_1).f3,(rd_T33 x1_1 x3_1).f4,(rd_T33 x1_1 x3_1).f5⟩:S33)) (k33_mkM _ _ _ (⟨x2_1,(rd_T33 x1_1 x3_1).f1,(rd_T33 x1_1 x3_1).f2,(rd_T33 x1_1 x3_1).f3,(rd_T33 x1_1 x3_1).f4,(rd_T33 x1_1 x3_1).f5⟩:S33)) (fun _ hk=>hk)
   have hx2_0:=hcc2 0 _ rfl
   (try simp only[show(k33).sz=6 from rfl,Nat.mul_one,Nat.add_zero]at hx2_0)
   have hf2_0:=hfr2 0
   (try simp only[show(k33).sz=6 from rfl,Nat.mul_one,Nat.add_zero]at hf2_0)
   (try clear hcl2);(try clear hcc2);(try clear hfr2);(try clear hM2)
   go_wp2_with (first|((with_reducible refine gate_store (t:=3) (p:=16) rfl ?_);refine store_event (t:=3) (p:=16) (v:= ?vo_w1) (w1:=(wr.setCell ⟨go1,oo1+(x3_1:Int).toNat * 6,none⟩ (V I x2_1))) ?hg ?ho ?hn ?hr ?_;(case ho=>rfl);(case hg=>rfl);(case hn=>rfl);(case hr=>exact Fix.hr);intro w2 hw;have hg:wr.grownBy w2 (some go1):=(by rw[hw];exact HP1.2);have hp_:Kd.Q k33 33 w2 w0.heap.size (fun k_=>(P0_ k_∨w.heap.size≤k_)) (L (some ⟨go1,oo1,none⟩) x1_1.length co1) y1:=(by rw[hw,Ny1.out];exact HP1.1);clear HP1;replace HB:=C ((by rw[hw];exact below_set (HB.out) GB1.out:Below w0.heap.size w0 w2));replace HK:=C (Kept.of_grown (S:=(fun k_=>P0_ k_)) hg (show Kept w _ _ from uP) (fun k_ e_=>(HO_1.out.1 k_ e_)));replace HO_1:=C (hp_);clear hg hw hp_;have p2:0≤(x3_1:Int):=oT;have q2:(x3_1:Int)<((x1_1.length:Int):Int):=oT;obtain⟨ce3,hcl3,hM3,hcc3,hfr3⟩:=Kd.Q_elem HO_1.out z33 (x3_1:Int) p2 q2;obtain rfl:=k33_openM hM3;have hx3_0:w2.cell? ⟨go1,oo1+(x3_1:Int).toNat * 6,none⟩=some (V I ((rd_T33 y1 x3_1).f0)):=hcc3 0 _ rfl;have hx3_1:w2.cell? ⟨go1,oo1+(x3_1:Int).toNat * 6+1,none⟩=some (V I ((rd_T33 y1 x3_1).f1)):=hcc3 1 _ rfl;have hx3_2:w2.cell? ⟨go1,oo1+(x3_1:Int).toNat * 6+2,none⟩=some (V I ((rd_T33 y1 x3_1).f2)):=hcc3 2 _ rfl;have hx3_3:w2.cell? ⟨go1,oo1+(x3_1:Int).toNat * 6+3,none⟩=some (O ((rd_T33 y1 x3_1).f3)):=hcc3 3 _ rfl;have hx3_4:w2.cell? ⟨go1,oo1+(x3_1:Int).toNat * 6+4,none⟩=some (V I ((rd_T33 y1 x3_1).f4)):=hcc3 4 _ rfl;have hx3_5:w2.cell? ⟨go1,oo1+(x3_1:Int).toNat * 6+5,none⟩=some (O ((rd_T33 y1 x3_1).f5)):=hcc3 5 _ rfl;have hf3_0:w2.frozen? ⟨go1,oo1+(x3_1:Int).toNat * 6,none⟩=false:=hfr3 0;have hf3_1:w2.frozen? ⟨go1,oo1+(x3_1:Int).toNat * 6+1,none⟩=false:=hfr3 1;have hf3_2:w2.frozen? ⟨go1,oo1+(x3_1:Int).toNat * 6+2,none⟩=false:=hfr3 2;have hf3_3:w2.frozen? ⟨go1,oo1+(x3_1:Int).toNat * 6+3,none⟩=false:=hfr3 3;have hf3_4:w2.frozen? ⟨go1,oo1+(x3_1:Int).toNat * 6+4,none⟩=false:=hfr3 4;have hf3_5:w2.frozen? ⟨go1,oo1+(x3_1:Int).toNat * 6+5,none⟩=false:=hfr3 5;(try clear hcl3);(try clear hcc3);(try clear hfr3);(try clear hM3);replace p2:=eq_true p2;replace q2:=eq_true q2;have HX2:=C (show Kd.Q k33 33 w2 w0.heap.size (fun k_=>(P0_ k_∨w.heap.size≤k_)) (L (some ⟨go1,oo1,none⟩) x1_1.length co1) y1 from(uQ HO_1.out));obtain⟨ce4,hcl4,hM4,hcc4,hfr4⟩:=Kd.Q_elem HX2.out z33 (x3_1:Int) oT (by have h_:(x3_1:Int)<((x1_1.length:Int):Int):=oT;first|exact h_|(have e_:=(Kd.Q_reads' HO_1.out).1;omega)|simpa using h_);obtain rfl:=k33_openM hM4;have HP2:=Kd.Q_seg HX2.out (x3_1:Int) oT (by have h_:(x3_1:Int)<((x1_1.length:Int):Int):=oT;first|exact h_|(have e_:=(Kd.Q_reads' HO_1.out).1;omega)|simpa using h_) (seg:= [V I (wrap64 (x2_1+1))]) (j:=1) hcl4 hcc4 (show 2≤6 from by decide) (x':=(⟨(rd_T33 y1 x3_1).f0,wrap64 (x2_1+1),(rd_T33 y1 x3_1).f2,(rd_T33 y1 x3_1).f3,(rd_T33 y1 x3_1).f4,(rd_T33 y1 x3_1).f5⟩:S33)) (k33_mkM _ _ _ (⟨(rd_T33 y1 x3_1).f0,wrap64 (x2_1+1),(rd_T33 y1 x3_1).f2,(rd_T33 y1 x3_1).f3,(rd_T33 y1 x3_1).f4,(rd_T33 y1 x3_1).f5⟩:S33)) (fun _ hk=>hk);have hx4_1:=hcc4 1 _ rfl;(try simp only[show(k33).sz=6 from rfl,Nat.mul_one,Nat.add_zero]at hx4_1);have hf4_1:=hfr4 1;(try simp only[show(k33).sz=6 from rfl,Nat.mul_one,Nat.add_zero]at hf4_1);(try clear hcl4);(try clear hcc4);(try clear hfr4);(try clear hM4))|((with_reducible refine gate_store (t:=3) (p:=23) rfl ?_);refine store_event (t:=3) (p:=23) (v:= ?vo_w2) (w1:=(w2.setCell ⟨go1,oo1+(x3_1:Int).toNat * 6+1,none⟩ (V I (wrap64 (x2_1+1))))) ?hg ?ho ?hn ?hr ?_;(case ho=>rfl);(case hg=>rfl);(case hn=>rfl);(case hr=>exact Fix.hr);intro w3 hw;have hg:w2.grownBy w3 (some go1):=(by rw[hw];exact HP2.2);have hp_:Kd.Q k33 33 w3 w0.heap.size (fun k_=>(P0_ k_∨w.heap.size≤k_)) (L (some ⟨go1,oo1,none⟩) x1_1.length co1) y2:=(by rw[hw,Ny2.out];exact HP2.1);clear HP2;replace HB:=C ((by rw[hw];exact below_set (HB.out) GB1.out:Below w0.heap.size w0 w3));replace HK:=C (Kept.of_grown (S:=(fun k_=>P0_ k_)) hg (show Kept w _ _ from uP) (fun k_ e_=>(HO_1.out.1 k_ e_)));replace HO_1:=C (hp_);clear hg hw hp_;have p3:0≤(x3_1:Int):=oT;have q3:(x3_1:Int)<((x1_1.length:Int):Int):=oT;obtain⟨ce5,hcl5,hM5,hcc5,hfr5⟩:=Kd.Q_elem HO_1.out z33 (x3_1:Int) p3 q3;obtain rfl:=k33_openM hM5;have hx5_0:w3.cell? ⟨go1,oo1+(x3_1:Int).toNat * 6,none⟩=some (V I ((rd_T33 y2 x3_1).f0)):=hcc5 0 _ rfl;have hx5_1:w3.cell? ⟨go1,oo1+(x3_1:Int).toNat * 6+1,none⟩=some (V I ((rd_T33 y2 x3_1).f1)):=hcc5 1 _ rfl;have hx5_2:w3.cell? ⟨go1,oo1+(x3_1:Int).toNat * 6+2,none⟩=some (V I ((rd_T33 y2 x3_1).f2)):=hcc5 2 _ rfl;have hx5_3:w3.cell? ⟨go1,oo1+(x3_1:Int).toNat * 6+3,none⟩=some (O ((rd_T33 y2 x3_1).f3)):=hcc5 3 _ rfl;have hx5_4:w3.cell? ⟨go1,oo1+(x3_1:Int).toNat * 6+4,none⟩=some (V I ((rd_T33 y2 x3_1).f4)):=hcc5 4 _ rfl;have hx5_5:w3.cell? ⟨go1,oo1+(x3_1:Int).toNat * 6+5,none⟩=some (O ((rd_T33 y2 x3_1).f5)):=hcc5 5 _ rfl;have hf5_0:w3.frozen? ⟨go1,oo1+(x3_1:Int).toNat * 6,none⟩=false:=hfr5 0;have hf5_1:w3.frozen? ⟨go1,oo1+(x3_1:Int).toNat * 6+1,none⟩=false:=hfr5 1;have hf5_2:w3.frozen? ⟨go1,oo1+(x3_1:Int).toNat * 6+2,none⟩=false:=hfr5 2;have hf5_3:w3.frozen? ⟨go1,oo1+(x3_1:Int).toNat * 6+3,none⟩=false:=hfr5 3;have hf5_4:w3.frozen? ⟨go1,oo1+(x3_1:Int).toNat * 6+4,none⟩=false:=hfr5 4;have hf5_5:w3.frozen? ⟨go1,oo1+(x3_1:Int).toNat * 6+5,none⟩=false:=hfr5 5;(try clear hcl5);(try clear hcc5);(try clear hfr5);(try clear hM5);replace p3:=eq_true p3;replace q3:=eq_true q3;have HX3:=C (show Kd.Q k33 33 w3 w0.heap.size (fun k_=>(P0_ k_∨w.heap.size≤k_)) (L (some ⟨go1,oo1,none⟩) x1_1.length co1) y2 from(uQ HO_1.out));obtain⟨ce6,hcl6,hM6,hcc6,hfr6⟩:=Kd.Q_elem HX3.out z33 (x3_1:Int) oT (by have h_:(x3_1:Int)<((x1_1.length:Int):Int):=oT;first|exact h_|(have e_:=(Kd.Q_reads' HO_1.out).1;omega)|simpa using h_);obtain rfl:=k33_openM hM6;have HP3:=Kd.Q_seg HX3.out (x3_1:Int) oT (by have h_:(x3_1:Int)<((x1_1.length:Int):Int):=oT;first|exact h_|(have e_:=(Kd.Q_reads' HO_1.out).1;omega)|simpa using h_) (seg:= [V I (wrap64 ((wrap64 (x2_1+1))+1))]) (j:=2) hcl6 hcc6 (show 3≤6 from by decide) (x':=(⟨(rd_T33 y2 x3_1).f0,(rd_T33 y2 x3_1).f1,wrap64 ((wrap64 (x2_1+1))+1),(rd_T33 y2 x3_1).f3,(rd_T33 y2 x3_1).f4,(rd_T33 y2 x3_1).f5⟩:S33)) (k33_mkM _ _ _ (⟨(rd_T33 y2 x3_1).f0,(rd_T33 y2 x3_1).f1,wrap64 ((wrap64 (x2_1+1))+1),(rd_T33 y2 x3_1).f3,(rd_T33 y2 x3_1).f4,(rd_T33 y2 x3_1).f5⟩:S33)) (fun _ hk=>hk);have hx6_2:=hcc6 2 _ rfl;(try simp only[show(k33).sz=6 from rfl,Nat.mul_one,Nat.add_zero]at hx6_2);have hf6_2:=hfr6 2;(try simp only[show(k33).sz=6 from rfl,Nat.mul_one,Nat.add_zero]at hf6_2);(try clear hcl6);(try clear hcc6);(try clear hfr6);(try clear hM6))|((with_reducible refine gate_store (t:=3) (p:=30) rfl ?_);refine store_event (t:=3) (p:=30) (v:= ?vo_w3) (w1:=(w3.setCell ⟨go1,oo1+(x3_1:Int).toNat * 6+2,none⟩ (V I (wrap64 ((wrap64 (x2_1+1))+1))))) ?hg ?ho ?hn ?hr ?_;(case ho=>rfl);(case hg=>rfl);(case hn=>rfl);(case hr=>exact Fix.hr);intro w4 hw;have hg:w3.grownBy w4 (some go1):=(by rw[hw];exact HP3.2);have hp_:Kd.Q k33 33 w4 w0.heap.size (fun k_=>(P0_ k_∨w.heap.size≤k_)) (L (some ⟨go1,oo1,none⟩) x1_1.length co1) y3:=(by rw[hw,Ny3.out];exact HP3.1);clear HP3;replace HB:=C ((by rw[hw];exact below_set (HB.out) GB1.out:Below w0.heap.size w0 w4));replace HK:=C (Kept.of_grown (S:=(fun k_=>P0_ k_)) hg (show Kept w _ _ from uP) (fun k_ e_=>(HO_1.out.1 k_ e_)));replace HO_1:=C (hp_);clear hg hw hp_;have p4:0≤(x3_1:Int):=oT;have q4:(x3_1:Int)<((x1_1.length:Int):Int):=oT;obtain⟨ce7,hcl7,hM7,hcc7,hfr7⟩:=Kd.Q_elem HO_1.out z33 (x3_1:Int) p4 q4;obtain rfl:=k33_openM hM7;have hx7_0:w4.cell? ⟨go1,oo1+(x3_1:Int).toNat * 6,none⟩=some (V I ((rd_T33 y3 x3_1).f0)):=hcc7 0 _ rfl;have hx7_1:w4.cell? ⟨go1,oo1+(x3_1:Int).toNat * 6+1,none⟩=some (V I ((rd_T33 y3 x3_1).f1)):=hcc7 1 _ rfl;have hx7_2:w4.cell? ⟨go1,oo1+(x3_1:Int).toNat * 6+2,none⟩=some (V I ((rd_T33 y3 x3_1).f2)):=hcc7 2 _ rfl;have hx7_3:w4.cell? ⟨go1,oo1+(x3_1:Int).toNat * 6+3,none⟩=some (O ((rd_T33 y3 x3_1).f3)):=hcc7 3 _ rfl;have hx7_4:w4.cell? ⟨go1,oo1+(x3_1:Int).toNat * 6+4,none⟩=some (V I ((rd_T33 y3 x3_1).f4)):=hcc7 4 _ rfl;have hx7_5:w4.cell? ⟨go1,oo1+(x3_1:Int).toNat * 6+5,none⟩=some (O ((rd_T33 y3 x3_1).f5)):=hcc7 5 _ rfl;have hf7_0:w4.frozen? ⟨go1,oo1+(x3_1:Int).toNat * 6,none⟩=false:=hfr7 0;have hf7_1:w4.frozen? ⟨go1,oo1+(x3_1:Int).toNat * 6+1,none⟩=false:=hfr7 1;have hf7_2:w4.frozen? ⟨go1,oo1+(x3_1:Int).toNat * 6+2,none⟩=false:=hfr7 2;have hf7_3:w4.frozen? ⟨go1,oo1+(x3_1:Int).toNat * 6+3,none⟩=false:=hfr7 3;have hf7_4:w4.frozen? ⟨go1,oo1+(x3_1:Int).toNat * 6+4,none⟩=false:=hfr7 4;have hf7_5:w4.frozen? ⟨go1,oo1+(x3_1:Int).toNat * 6+5,none⟩=false:=hfr7 5;(try clear hcl7);(try clear hcc7);(try clear hfr7);(try clear hM7);replace p4:=eq_true p4;replace q4:=eq_true q4;have HX4:=C (show Kd.Q k33 33 w4 w0.heap.size (fun k_=>(P0_ k_∨w.heap.size≤k_)) (L (some ⟨go1,oo1,none⟩) x1_1.length co1) y3 from(uQ HO_1.out));obtain⟨ce8,hcl8,hM8,hcc8,hfr8⟩:=Kd.Q_elem HX4.out z33 (x3_1:Int) oT (by have h_:(x3_1:Int)<((x1_1.length:Int):Int):=oT;first|exact h_|(have e_:=(Kd.Q_reads' HO_1.out).1;omega)|simpa using h_);obtain rfl:=k33_openM hM8;have HP4:=Kd.Q_seg HX4.out (x3_1:Int) oT (by have h_:(x3_1:Int)<((x1_1.length:Int):Int):=oT;first|exact h_|(have e_:=(Kd.Q_reads' HO_1.out).1;omega)|simpa using h_) (seg:= [O ((Int.tmod (wrap64 ((wrap64 ((wrap64 (x2_1+1))+1))+1)) 3)==0)]) (j:=3) hcl8 hcc8 (show 4≤6 from by decide) (x':=(⟨(rd_T33 y3 x3_1).f0,(rd_T33 y3 x3_1).f1,(rd_T33 y3 x3_1).f2,((Int.tmod (wrap64 ((wrap64 ((wrap64 (x2_1+1))+1))+1)) 3)==0),(rd_T33 y3 x3_1).f4,(rd_T33 y3 x3_1).f5⟩:S33)) (k33_mkM _ _ _ (⟨(rd_T33 y3 x3_1).f0,(rd_T33 y3 x3_1).f1,(rd_T33 y3 x3_1).f2,((Int.tmod (wrap64 ((wrap64 ((wrap64 (x2_1+1))+1))+1)) 3)==0),(rd_T33 y3 x3_1).f4,(rd_T33 y3 x3_1).f5⟩:S33)) (fun _ hk=>hk);have hx8_3:=hcc8 3 _ rfl;(try simp only[show(k33).sz=6 from rfl,Nat.mul_one,Nat.add_zero]at hx8_3);have hf8_3:=hfr8 3;(try simp only[show(k33).sz=6 from rfl,Nat.mul_one,Nat.add_zero]at hf8_3);(try clear hcl8);(try clear hcc8);(try clear hfr8);(try clear hM8))|((with_reducible refine gate_store (t:=4) (p:=39) rfl ?_);refine store_event (t:=4) (p:=39) (v:= ?vo_w4) (w1:=(w4.setCell ⟨go1,oo1+(x3_1:Int).toNat * 6+3,none⟩ (O ((Int.tmod (wrap64 ((wrap64 ((wrap64 (x2_1+1))+1))+1)) 3)==0)))) ?hg ?ho ?hn ?hr ?_;(case ho=>rfl);(case hg=>rfl);(case hn=>rfl);(case hr=>exact Fix.hr);intro w5 hw;have hg:w4.grownBy w5 (some go1):=(by rw[hw];exact HP4.2);have hp_:Kd.Q k33 33 w5 w0.heap.size (fun k_=>(P0_ k_∨w.heap.size≤k_)) (L (some ⟨go1,oo1,none⟩) x1_1.length co1) y4:=(by rw[hw,Ny4.out];exact HP4.1);clear HP4;replace HB:=C ((by rw[hw];exact below_set (HB.out) GB1.out:Below w0.heap.size w0 w5));replace HK:=C (Kept.of_grown (S:=(fun k_=>P0_ k_)) hg (show Kept w _ _ from uP) (fun k_ e_=>(HO_1.out.1 k_ e_)));replace HO_1:=C (hp_);clear hg hw hp_;have p5:0≤(x3_1:Int):=oT;have q5:(x3_1:Int)<((x1_1.length:Int):Int):=oT;obtain⟨ce9,hcl9,hM9,hcc9,hfr9⟩:=Kd.Q_elem HO_1.out z33 (x3_1:Int) p5 q5;obtain rfl:=k33_openM hM9;have hx9_0:w5.cell? ⟨go1,oo1+(x3_1:Int).toNat * 6,none⟩=some (V I ((rd_T33 y4 x3_1).f0)):=hcc9 0 _ rfl;have hx9_1:w5.cell? ⟨go1,oo1+(x3_1:Int).toNat * 6+1,none⟩=some (V I ((rd_T33 y4 x3_1).f1)):=hcc9 1 _ rfl;have hx9_2:w5.cell? ⟨go1,oo1+(x3_1:Int).toNat * 6+2,none⟩=some (V I ((rd_T33 y4 x3_1).f2)):=hcc9 2 _ rfl;have hx9_3:w5.cell? ⟨go1,oo1+(x3_1:Int).toNat * 6+3,none⟩=some (O ((rd_T33 y4 x3_1).f3)):=hcc9 3 _ rfl;have hx9_4:w5.cell? ⟨go1,oo1+(x3_1:Int).toNat * 6+4,none⟩=some (V I ((rd_T33 y4 x3_1).f4)):=hcc9 4 _ rfl;have hx9_5:w5.cell? ⟨go1,oo1+(x3_1:Int).toNat * 6+5,none⟩=some (O ((rd_T33 y4 x3_1).f5)):=hcc9 5 _ rfl;have hf9_0:w5.frozen? ⟨go1,oo1+(x3_1:Int).toNat * 6,none⟩=false:=hfr9 0;have hf9_1:w5.frozen? ⟨go1,oo1+(x3_1:Int).toNat * 6+1,none⟩=false:=hfr9 1;have hf9_2:w5.frozen? ⟨go1,oo1+(x3_1:Int).toNat * 6+2,none⟩=false:=hfr9 2;have hf9_3:w5.frozen? ⟨go1,oo1+(x3_1:Int).toNat * 6+3,none⟩=false:=hfr9 3;have hf9_4:w5.frozen? ⟨go1,oo1+(x3_1:Int).toNat * 6+4,none⟩=false:=hfr9 4;have hf9_5:w5.frozen? ⟨go1,oo1+(x3_1:Int).toNat * 6+5,none⟩=false:=hfr9 5;(try clear hcl9);(try clear hcc9);(try clear hfr9);(try clear hM9);replace p5:=eq_true p5;replace q5:=eq_true q5;have HX5:=C (show Kd.Q k33 33 w5 w0.heap.size (fun k_=>(P0_ k_∨w.heap.size≤k_)) (L (some ⟨go1,oo1,none⟩) x1_1.length co1) y4 from(uQ HO_1.out));obtain⟨ce10,hcl10,hM10,hcc10,hfr10⟩:=Kd.Q_elem HX5.out z33 (x3_1:Int) oT (by have h_:(x3_1:Int)<((x1_1.length:Int):Int):=oT;first|exact h_|(have e_:=(Kd.Q_reads' HO_1.out).1;omega)|simpa using h_);obtain rfl:=k33_openM hM10;have HP5:=Kd.Q_seg HX5.out (x3_1:Int) oT (by have h_:(x3_1:Int)<((x1_1.length:Int):Int):=oT;first|exact h_|(have e_:=(Kd.Q_reads' HO_1.out).1;omega)|simpa using h_) (seg:= [V I (wrap64 ((wrap64 ((wrap64 ((wrap64 (x2_1+1))+1))+1))+1))]) (j:=4) hcl10 hcc10 (show 5≤6 from by decide) (x':=(⟨(rd_T33 y4 x3_1).f0,(rd_T33 y4 x3_1).f1,(rd_T33 y4 x3_1).f2,(rd_T33 y4 x3_1).f3,wrap64 ((wrap64 ((wrap64 ((wrap64 (x2_1+1))+1))+1))+1),(rd_T33 y4 x3_1).f5⟩:S33)) (k33_mkM _ _ _ (⟨(rd_T33 y4 x3_1).f0,(rd_T33 y4 x3_1).f1,(rd_T33 y4 x3_1).f2,(rd_T33 y4 x3_1).f3,wrap64 ((wrap64 ((wrap64 ((wrap64 (x2_1+1))+1))+1))+1),(rd_T33 y4 x3_1).f5⟩:S33)) (fun _ hk=>hk);have hx10_4:=hcc10 4 _ rfl;(try simp only[show(k33).sz=6 from rfl,Nat.mul_one,Nat.add_zero]at hx10_4);have hf10_4:=hfr10 4;(try simp only[show(k33).sz=6 from rfl,Nat.mul_one,Nat.add_zero]at hf10_4);(try clear hcl10);(try clear hcc10);(try clear hfr10);(try clear hM10))|((with_reducible refine gate_store (t:=3) (p:=46) rfl ?_);refine store_event (t:=3) (p:=46) (v:= ?vo_w5) (w1:=(w5.setCell ⟨go1,oo1+(x3_1:Int).toNat * 6+4,none⟩ (V I (wrap64 ((wrap64 ((wrap64 ((wrap64 (x2_1+1))+1))+1))+1))))) ?hg ?ho ?hn ?hr ?_;(case ho=>rfl);(case hg=>rfl);(case hn=>rfl);(case hr=>exact Fix.hr);intro w6 hw;have hg:w5.grownBy w6 (some go1):=(by rw[hw];exact HP5.2);have hp_:Kd.Q k33 33 w6 w0.heap.size (fun k_=>(P0_ k_∨w.heap.size≤k_)) (L (some ⟨go1,oo1,none⟩) x1_1.length co1) y5:=(by rw[hw,Ny5.out];exact HP5.1);clear HP5;replace HB:=C ((by rw[hw];exact below_set (HB.out) GB1.out:Below w0.heap.size w0 w6));replace HK:=C (Kept.of_grown (S:=(fun k_=>P0_ k_)) hg (show Kept w _ _ from uP) (fun k_ e_=>(HO_1.out.1 k_ e_)));replace HO_1:=C (hp_);clear hg hw hp_;have p6:0≤(x3_1:Int):=oT;have q6:(x3_1:Int)<((x1_1.length:Int):Int):=oT;obtain⟨ce11,hcl11,hM11,hcc11,hfr11⟩:=Kd.Q_elem HO_1.out z33 (x3_1:Int) p6 q6;obtain rfl:=k33_openM hM11;have hx11_0:w6.cell? ⟨go1,oo1+(x3_1:Int).toNat * 6,none⟩=some (V I ((rd_T33 y5 x3_1).f0)):=hcc11 0 _ rfl;have hx11_1:w6.cell? ⟨go1,oo1+(x3_1:Int).toNat * 6+1,none⟩=some (V I ((rd_T33 y5 x3_1).f1)):=hcc11 1 _ rfl;have hx11_2:w6.cell? ⟨go1,oo1+(x3_1:Int).toNat * 6+2,none⟩=some (V I ((rd_T33 y5 x3_1).f2)):=hcc11 2 _ rfl;have hx11_3:w6.cell? ⟨go1,oo1+(x3_1:Int).toNat * 6+3,none⟩=some (O ((rd_T33 y5 x3_1).f3)):=hcc11 3 _ rfl;have hx11_4:w6.cell? ⟨go1,oo1+(x3_1:Int).toNat * 6+4,none⟩=some (V I ((rd_T33 y5 x3_1).f4)):=hcc11 4 _ rfl;have hx11_5:w6.cell? ⟨go1,oo1+(x3_1:Int).toNat * 6+5,none⟩=some (O ((rd_T33 y5 x3_1).f5)):=hcc11 5 _ rfl;have hf11_0:w6.frozen? ⟨go1,oo1+(x3_1:Int).toNat * 6,none⟩=false:=hfr11 0;have hf11_1:w6.frozen? ⟨go1,oo1+(x3_1:Int).toNat * 6+1,none⟩=false:=hfr11 1;have hf11_2:w6.frozen? ⟨go1,oo1+(x3_1:Int).toNat * 6+2,none⟩=false:=hfr11 2;have hf11_3:w6.frozen? ⟨go1,oo1+(x3_1:Int).toNat * 6+3,none⟩=false:=hfr11 3;have hf11_4:w6.frozen? ⟨go1,oo1+(x3_1:Int).toNat * 6+4,none⟩=false:=hfr11 4;have hf11_5:w6.frozen? ⟨go1,oo1+(x3_1:Int).toNat * 6+5,none⟩=false:=hfr11 5;(try clear hcl11);(try clear hcc11);(try clear hfr11);(try clear hM11);replace p6:=eq_true p6;replace q6:=eq_true q6;have HX6:=C (show Kd.Q k33 33 w6 w0.heap.size (fun k_=>(P0_ k_∨w.heap.size≤k_)) (L (some ⟨go1,oo1,none⟩) x1_1.length co1) y5 from(uQ HO_1.out));obtain⟨ce12,hcl12,hM12,hcc12,hfr12⟩:=Kd.Q_elem HX6.out z33 (x3_1:Int) oT (by have h_:(x3_1:Int)<((x1_1.length:Int):Int):=oT;first|exact h_|(have e_:=(Kd.Q_reads' HO_1.out).1;omega)|simpa using h_);obtain rfl:=k33_openM hM12;have HP6:=Kd.Q_seg HX6.out (x3_1:Int) oT (by have h_:(x3_1:Int)<((x1_1.length:Int):Int):=oT;first|exact h_|(have e_:=(Kd.Q_reads' HO_1.out).1;omega)|simpa using h_) (seg:= [O ((Int.tmod (wrap64 ((wrap64 ((wrap64 ((wrap64 ((wrap64 (x2_1+1))+1))+1))+1))+1)) 3)==0)]) (j:=5) hcl12 hcc12 (show 6≤6 from by decide) (x':=(⟨(rd_T33 y5 x3_1).f0,(rd_T33 y5 x3_1).f1,(rd_T33 y5 x3_1).f2,(rd_T33 y5 x3_1).f3,(rd_T33 y5 x3_1).f4,((Int.tmod (wrap64 ((wrap64 ((wrap64 ((wrap64 ((wrap64 (x2_1+1))+1))+1))+1))+1)) 3)==0)⟩:S33)) (k33_mkM _ _ _ (⟨(rd_T33 y5 x3_1).f0,(rd_T33 y5 x3_1).f1,(rd_T33 y5 x3_1).f2,(rd_T33 y5 x3_1).f3,(rd_T33 y5 x3_1).f4,((Int.tmod (wrap64 ((wrap64 ((wrap64 ((wrap64 ((wrap64 (x2_1+1))+1))+1))+1))+1)) 3)==0)⟩:S33)) (fun _ hk=>hk);have hx12_5:=hcc12 5 _ rfl;(try simp only[show(k33).sz=6 from rfl,Nat.mul_one,Nat.add_zero]at hx12_5);have hf12_5:=hfr12 5;(try simp only[show(k33).sz=6 from rfl,Nat.mul_one,Nat.add_zero]at hf12_5);(try clear hcl12);(try clear hcc12);(try clear hfr12);(try clear hM12))|((with_reducible refine gate_store (t:=4) (p:=55) rfl ?_);refine store_event (t:=4) (p:=55) (v:= ?vo_w6) (w1:=(w6.setCell ⟨go1,oo1+(x3_1:Int).toNat * 6+5,none⟩ (O ((Int.tmod (wrap64 ((wrap64 ((wrap64 ((wrap64 ((wrap64 (x2_1+1))+1))+1))+1))+1)) 3)==0)))) ?hg ?ho ?hn ?hr ?_;(case ho=>rfl);(case hg=>rfl);(case hn=>rfl);(case hr=>exact Fix.hr);intro w7 hw;have hg:w6.grownBy w7 (some go1):=(by rw[hw];exact HP6.2);have hp_:Kd.Q k33 33 w7 w0.heap.size (fun k_=>(P0_ k_∨w.heap.size≤k_)) (L (some ⟨go1,oo1,none⟩) x1_1.length co1) y6:=(by rw[hw,Ny6.out];exact HP6.1);clear HP6;replace HB:=C ((by rw[hw];exact below_set (HB.out) GB1.out:Below w0.heap.size w0 w7));replace HK:=C (Kept.of_grown (S:=(fun k_=>P0_ k_)) hg (show Kept w _ _ from uP) (fun k_ e_=>(HO_1.out.1 k_ e_)));replace HO_1:=C (hp_);clear hg hw hp_))
   go_roundg k1
   case measure=>have:=HK1.out;omega
   case rel=>exact⟨(y6),(wrap64 ((wrap64 ((wrap64 ((wrap64 ((wrap64 ((wrap64 (x2_1+1))+1))+1))+1))+1))+1)),(wrap64 (x3_1+1)),rS,rS,H',⟨by have:=HK1.out;omega⟩,⟨fQ HO_1.out⟩,⟨uP⟩,⟨uB⟩⟩
def laws_markIntS.l0:Nat→List Int→Int→Int→Option (Int×List Int)
 |0,_,_,_=>none
 |k+1,x0,x1,x5=>if x5<(x0.length:Int) then(if 0≤x5 then(laws_markIntS.l0 k (x0.set (x5:Int).toNat x1) (wrap64 (x1+1)) (wrap64 (x5+1))) else(none)) else(some (x1,x0))
def laws_markIntS.f (k:Nat) (l0:List Int) (a1:Int):Option (Int×List Int):=laws_markIntS.l0 k l0 a1 0
theorem laws_markIntS.calls (k:Nat) (P0_:Nat→Prop) (u9000_:Value) (l0:List Int) (a1:Int) (r1:Int) (r2:List Int) (w0 w:World) (hB:Below w0.heap.size w0 w) (ho0:Kd.Q (Kd.int .i64) 3 w w0.heap.size P0_ u9000_ l0) (h:laws_markIntS.f k l0 a1=some (r1,r2)):
 Calls prog 32 #[u9000_,V I a1] w fun e w'=>e=.returned (V I r1)∧Kd.Q (Kd.int .i64) 3 w' w0.heap.size (fun k_=>(P0_ k_∨w.heap.size≤k_)) u9000_ r2∧Below w0.heap.size w0 w'∧Kept w w' (fun k_=>P0_ k_):=by
 have HO1:=C (show Kd.Q (Kd.int .i64) 3 w w0.heap.size (fun k_=>(P0_ k_∨w.heap.size≤k_)) u9000_ l0 from Kd.Q_mono ho0 (fun k_ hk=>(.inl hk)))
 have HK:=C (Kept.refl w (fun k_=>P0_ k_))
 have HW1:=C hB.size
 have HB:=C hB
 clear hB
 have H:=h
 unfold laws_markIntS.f at H
 clear h
 have H':=C H
 clear H
 go_enter func32,ntmps32
 go_wp2
 go_loopg [1,5] k (fun kq v1 v5 w'=>∃(x1_1:List Int) (x2_1:Int) (x3_1:Int),v1=V I x2_1∧v5=V I x3_1∧D (laws_markIntS.l0 kq x1_1 x2_1 x3_1=some (r1,r2))∧D (kq≤k)∧D (Kd.Q (Kd.int .i64) 3 w' w0.heap.size (fun k_=>(P0_ k_∨w.heap.size≤k_)) u9000_ x1_1)∧D (Kept w w' (fun k_=>P0_ k_))∧D (Below w0.heap.size w0 w'))
 case atStart=>exact⟨(l0),(a1),(0),rS,rS,H',⟨Nat.le_refl _⟩,⟨fQ HO1.out⟩,⟨uP⟩,⟨uB⟩⟩
 case round=>
  clear H'
  obtain⟨x1_1,x2_1,x3_1,rfl,rfl,HA,HK1,HO_1,HK,HB⟩:=hrel
  cases gk with
  |zero=>exact absurd HA.out (by simp[laws_markIntS.l0])
  |succ k1=>
   have H:=HA.out
   clear HA
   simp only[laws_markIntS.l0]at H
   by_cases c1:x3_1<(x1_1.length:Int)
   rotate_left
   ·rw[if_neg c1]at H
    replace c1:=decide_eq_false c1
    simp only[Option.some.injEq,Prod.mk.injEq]at H
    obtain⟨rfl,rfl⟩:=H
    obtain⟨Ao1,co1,eo1,_⟩:=Kd.Q_slice HO_1.out
    subst eo1
    go_wp2
    go_ret
    exact⟨rE,fQ HO_1.out,uB,uP⟩
   rw[if_pos c1]at H
   replace c1:=decide_eq_true c1
   obtain⟨c2,H⟩:=np H
   replace c2:=decide_eq_true c2
   obtain⟨y1,hy1⟩:∃y_:List Int,y_=(x1_1.set (x3_1:Int).toNat x2_1):=⟨_,rfl⟩
   replace H:(laws_markIntS.l0 k1 y1 (wrap64 (x2_1+1)) (wrap64 (x3_1+1)))=some (r1,r2):=gy hy1 H
   have Ny1:=C hy1
   clear hy1
   have H':=C H
   clear H
   obtain⟨Ao1,co1,eo1,_⟩:=Kd.Q_slice HO_1.out
   subst eo1
   have p1:0≤(x3_1:Int):=oT
   have q1:(x3_1:Int)<((x1_1.length:Int):Int):=oT
   obtain⟨go1,oo1,co2,eo2,gb1,gl1,cl1,HG1⟩:=Kd.Q_form HO_1.out (by omega)
   (first|cases eo2|(injection eo2 with ea_ en_ ec_;(first|subst ea_|(injection ea_ with ea_;subst ea_));subst ec_;clear en_))
   have GB1:=C gb1
   have GG1:=C HG1
   clear gb1 gl1 HG1
   have HMgo1:=C (show(P0_ go1∨w.heap.size≤go1) from(HO_1.out.1 _ rfl))
   obtain⟨hx1_0,hf1_0⟩:=Kd.Q_cell 0 HO_1.out (x3_1:Int) p1 q1
   replace p1:=eq_true p1
   replace q1:=eq_true q1
   have HP1:=Kd.Q_putg HO_1.out (x3_1:Int) oT (by have h_:(x3_1:Int)<((x1_1.length:Int):Int):=oT;first|exact h_|(have e_:=(Kd.Q_reads' HO_1.out).1;omega)|simpa using h_) x2_1
   go_wp2_with (first|((with_reducible refine gate_store (t:=3) (p:=15) rfl ?_);refine store_event (t:=3) (p:=15) (v:= ?vo_w1) (w1:=(wr.setCell ⟨go1,oo1+(x3_1:Int).toNat,none⟩ (V I x2_1))) ?hg ?ho ?hn ?hr ?_;(case ho=>rfl);(case hg=>rfl);(case hn=>rfl);(case hr=>exact Fix.hr);intro w2 hw;have hg:wr.grownBy w2 (some go1):=(by rw[hw];exact HP1.2);have hp_:Kd.Q (Kd.int .i64) 3 w2 w0.heap.size (fun k_=>(P0_ k_∨w.heap.size≤k_)) (L (some ⟨go1,oo1,none⟩) x1_1.length co1) y1:=(by rw[hw,Ny1.out];exact HP1.1);clear HP1;replace HB:=C ((by rw[hw];exact below_set (HB.out) GB1.out:Below w0.heap.size w0 w2));replace HK:=C (Kept.of_grown (S:=(fun k_=>P0_ k_)) hg (show Kept w _ _ from uP) (fun k_ e_=>(HO_1.out.1 k_ e_)));replace HO_1:=C (hp_);clear hg hw hp_))
   go_roundg k1
   case measure=>have:=HK1.out;omega
   case rel=>exact⟨(y1),(wrap64 (x2_1+1)),(wrap64 (x3_1+1)),rS,rS,H',⟨by have:=HK1.out;omega⟩,⟨fQ HO_1.out⟩,⟨uP⟩,⟨uB⟩⟩
def laws_markLine.f (k:Nat) (a0_0:Int) (a0_1:Int) (l0_2:List Int) (l0_3:List Int) (a0_4:Int) (a0_5:Bool) (a1:Int):Option (Int×List Int×List Int):=(laws_markIntS.f k l0_2 a1).bind fun bt808=>((laws_markIntS.f k l0_3 bt808.1).bind fun bt810=>(some (bt810.1,bt808.2,bt810.2)))
theorem laws_markLine.calls (k:Nat) (a0_0:Int) (a0_1:Int) (P0_2_:Nat→Prop) (u9000_:Value) (l0_2:List Int) (P0_3_:Nat→Prop) (u9001_:Value) (l0_3:List Int) (a0_4:Int) (a0_5:Bool) (a1:Int) (r1:Int) (r2:List Int) (r3:List Int) (w0 w:World) (hB:Below w0.heap.size w0 w) (ho0_2:Kd.Q (Kd.int .i64) 3 w w0.heap.size P0_2_ u9000_ l0_2) (hp0_2_0_3:∀k_,P0_2_ k_→ ¬P0_3_ k_) (ho0_3:Kd.Q (Kd.int .i64) 3 w w0.heap.size P0_3_ u9001_ l0_3) (hp0_3_0_2:∀k_,P0_3_ k_→ ¬P0_2_ k_) (h:laws_markLine.f k a0_0 a0_1 l0_2 l0_3 a0_4 a0_5 a1=some (r1,r2,r3)):
 Calls prog 78 #[.agg #[V I a0_0,V I a0_1,u9000_,u9001_,V I a0_4,O a0_5],V I a1] w fun e w'=>e=.returned (V I r1)∧Kd.Q (Kd.int .i64) 3 w' w0.heap.size (fun k_=>((P0_2_ k_∨P0_3_ k_)∨w.heap.size≤k_)) u9000_ r2∧Kd.Q (Kd.int .i64) 3 w' w0.heap.size (fun k_=>((P0_2_ k_∨P0_3_ k_)∨w.heap.size≤k_)) u9001_ r3∧Below w0.heap.size w0 w'∧Kept w w' (fun k_=>P0_2_ k_∨P0_3_ k_):=by
 have hu1:=underlying34
 have HO1_2:=C (show Kd.Q (Kd.int .i64) 3 w w0.heap.size (fun k_=>((P0_2_ k_∨P0_3_ k_)∨w.heap.size≤k_)∧qm k_ u9001_) u9000_ l0_2 from Kd.Q_mono ho0_2 (fun k_ hk=>⟨(.inl (.inl hk)),fun e_=>hp0_2_0_3 k_ hk (ho0_3.1 k_ e_.symm)⟩))
 have HO1_3:=C (show Kd.Q (Kd.int .i64) 3 w w0.heap.size (fun k_=>((P0_2_ k_∨P0_3_ k_)∨w.heap.size≤k_)∧qm k_ u9000_) u9001_ l0_3 from Kd.Q_mono ho0_3 (fun k_ hk=>⟨(.inl (.inr hk)),fun e_=>hp0_3_0_2 k_ hk (ho0_2.1 k_ e_.symm)⟩))
 have HK:=C (Kept.refl w (fun k_=>P0_2_ k_∨P0_3_ k_))
 have HW1:=C hB.size
 have HB:=C hB
 clear hB
 have H:=h
 unfold laws_markLine.f at H
 clear h
 obtain⟨⟨t1,t2⟩,A1,H⟩:=bnd H
 dsimp only at H
 obtain⟨⟨t3,t4⟩,A2,H⟩:=bnd H
 dsimp only at H
 simp only[Option.some.injEq,Prod.mk.injEq]at H
 obtain⟨rfl,rfl,rfl⟩:=H
 obtain⟨Ao1,co1,eo1,_⟩:=Kd.Q_slice HO1_2.out
 subst eo1
 obtain⟨Ao2,co2,eo2,_⟩:=Kd.Q_slice HO1_3.out
 subst eo2
 go_enter func78,ntmps78
 go_wp2_with (first|((with_reducible refine gate_dst (N:=2) rfl ?_);refine Fix.be 2 #[V I a0_0,V I a0_1,L Ao1 l0_2.length co1,L Ao2 l0_3.length co2,V I a0_4,O a0_5] 34 ?_;intro gb1 hg w1 BK1 hb;have GW1:=C ((by rw[hg];exact(by first|exact HK.out.1|exact(show Kept w _ (fun k_=>P0_2_ k_∨P0_3_ k_) from uP).1):w.heap.size≤gb1));have GE1:D (w0.heap.size≤gb1):=gE hg;replace HO1_2:=eQ HO1_2 hb;replace HO1_3:=eQ HO1_3 hb;replace HK:=C (Kept.below (S:=(fun k_=>P0_2_ k_∨P0_3_ k_)) (show Kept w _ _ from uP) hb);replace HB:=eB hb;clear hb hg;obtain⟨_,_,_,_,_,_,_,_,_,_,_,_⟩:=d6 BK1.out)|((with_reducible refine F (f:=32) rfl ?_);refine gl 32 (some 8) func32 #[L Ao1 l0_2.length co1,V I a1] ?_;(with_reducible refine(laws_markIntS.calls k (fun k_=>some k_=(L Ao1 l0_2.length co1:Value).ownBlock) (L Ao1 l0_2.length co1) l0_2 a1 t1 t2 w0 _ ?side1 ?side2 A1.out).mono ?_);(case side1=>exact uB);(case side2=>exact Kd.Q_tight rfl HO1_2.out);rintro e w2 ⟨rfl,hy1,hb,hkp⟩;refine⟨_,rfl,?_⟩;replace HO1_3:=C (Kd.Q_mono (ok':=fun k_=>((P0_2_ k_∨P0_3_ k_)∨w.heap.size≤k_)∧qn k_ Ao1 l0_2.length co1) (Kd.Q_keptB (HO1_3.out) hkp (fun k_ hk_ hs_=>(hk_.2) hs_)) (fun k_ hk_=>⟨hk_.1.1,hk_.1.2⟩));replace BK1:=C (blk_kept (uK BK1.out) hkp (fun hs_=>(fun e_=>(Kd.Q_ne HO1_2.out BK1.out (by decide)) e_) hs_));replace HK:=C (Kept.then_ (S:=(fun k_=>P0_2_ k_∨P0_3_ k_)) (show Kept w _ _ from uP) hkp (fun k_ hs_=>(fun e_=>(HO1_2.out.1 k_ e_.symm).1) hs_));replace HO1_2:=C (Ext.Q_reok rfl hy1 (fun k_ e_=>HO1_2.out.1 k_ e_));replace HB:=C (hb);clear hb;(try clear hkp);(try clear hy1);obtain⟨_,_,_,_,_,_,_,_,_,_,_,_⟩:=d6 BK1.out)|((with_reducible refine F (f:=32) rfl ?_);refine gl 32 (some 12) func32 #[L Ao2 l0_3.length co2,V I t1] ?_;(with_reducible refine(laws_markIntS.calls k (fun k_=>some k_=(L Ao2 l0_3.length co2:Value).ownBlock) (L Ao2 l0_3.length co2) l0_3 t1 t3 t4 w0 _ ?side1 ?side2 A2.out).mono ?_);(case side1=>exact uB);(case side2=>exact Kd.Q_tight rfl HO1_3.out);rintro e w3 ⟨rfl,hy1,hb,hkp⟩;refine⟨_,rfl,?_⟩;replace HO1_2:=C (Kd.Q_mono (ok':=fun k_=>((P0_2_ k_∨P0_3_ k_)∨w.heap.size≤k_)∧qn k_ Ao2 l0_3.length co2) (Kd.Q_keptB (HO1_2.out) hkp (fun k_ hk_ hs_=>(hk_.2) hs_)) (fun k_ hk_=>⟨hk_.1.1,hk_.1.2⟩));replace BK1:=C (blk_kept (uK BK1.out) hkp (fun hs_=>(fun e_=>(Kd.Q_ne HO1_3.out BK1.out (by decide)) e_) hs_));replace HK:=C (Kept.then_ (S:=(fun k_=>P0_2_ k_∨P0_3_ k_)) (show Kept w _ _ from uP) hkp (fun k_ hs_=>(fun e_=>(HO1_3.out.1 k_ e_.symm).1) hs_));replace HO1_3:=C (Ext.Q_reok rfl hy1 (fun k_ e_=>HO1_3.out.1 k_ e_));replace HB:=C (hb);clear hb;(try clear hkp);(try clear hy1)))
 go_ret
 exact⟨rE,Kd.Q_mono (fQ HO1_2.out) (fun _ hk=>hk.1),Kd.Q_mono (fQ HO1_3.out) (fun _ hk=>hk.1),uB,uP⟩
def laws_markMachine.f (k:Nat) (l0_0:List (S33)) (a0_1:Int) (a0_2:Int) (a0_3:Int) (a0_4:Bool) (a0_5:Int) (a0_6:Bool) (a0_7:Int) (a0_8:Int) (l0_9:List Int) (l0_10:List Int) (a0_11:Int) (a0_12:Bool) (a0_13:Int) (a1:Int):Option (Int×(List (S33))×List Int×List Int):=(laws_markJobS.f k l0_0 a1).bind fun bt813=>((laws_markLine.f k a0_7 a0_8 l0_9 l0_10 a0_11 a0_12 bt813.1).bind fun bt815=>(some (bt815.1,bt813.2,bt815.2.1,bt815.2.2)))
theorem laws_markMachine.calls (k:Nat) (P0_0_:Nat→Prop) (u9000_:Value) (l0_0:List (S33)) (a0_1:Int) (a0_2:Int) (a0_3:Int) (a0_4:Bool) (a0_5:Int) (a0_6:Bool) (a0_7:Int) (a0_8:Int) (P0_9_:Nat→Prop) (u9001_:Value) (l0_9:List Int) (P0_10_:Nat→Prop) (u9002_:Value) (l0_10:List Int) (a0_11:Int) (a0_12:Bool) (a0_13:Int) (a1:Int) (r1:Int) (r2:List (S33)) (r3:List Int) (r4:List Int) (w0 w:World) (hB:Below w0.heap.size w0 w) (ho0_0:Kd.Q k33 33 w w0.heap.size P0_0_ u9000_ l0_0) (ho0_9:Kd.Q (Kd.int .i64) 3 w w0.heap.size P0_9_ u9001_ l0_9) (hp0_9_0_10:∀k_,P0_9_ k_→ ¬P0_10_ k_) (ho0_10:Kd.Q (Kd.int .i64) 3 w w0.heap.size P0_10_ u9002_ l0_10) (hp0_10_0_9:∀k_,P0_10_ k_→ ¬P0_9_ k_) (h:laws_markMachine.f k l0_0 a0_1 a0_2 a0_3 a0_4 a0_5 a0_6 a0_7 a0_8 l0_9 l0_10 a0_11 a0_12 a0_13 a1=some (r1,r2,r3,r4)):
 Calls prog 22 #[.agg #[u9000_,V I a0_1,V I a0_2,V I a0_3,O a0_4,V I a0_5,O a0_6,V I a0_7,V I a0_8,u9001_,u9002_,V I a0_11,O a0_12,V I a0_13],V I a1] w fun e w'=>e=.returned (V I r1)∧Kd.Q k33 33 w' w0.heap.size (fun k_=>((P0_0_ k_∨P0_9_ k_∨P0_10_ k_)∨w.heap.size≤k_)) u9000_ r2∧Kd.Q (Kd.int .i64) 3 w' w0.heap.size (fun k_=>((P0_0_ k_∨P0_9_ k_∨P0_10_ k_)∨w.heap.size≤k_)) u9001_ r3∧Kd.Q (Kd.int .i64) 3 w' w0.heap.size (fun k_=>((P0_0_ k_∨P0_9_ k_∨P0_10_ k_)∨w.heap.size≤k_)) u9002_ r4∧Below w0.heap.size w0 w'∧Kept w w' (fun k_=>P0_0_ k_∨P0_9_ k_∨P0_10_ k_):=by
 have hu1:=underlying36
 have hu2:=underlying34
 have HO1_0:=C (show Kd.Q k33 33 w w0.heap.size (fun k_=>((P0_0_ k_∨P0_9_ k_∨P0_10_ k_)∨w.heap.size≤k_)) u9000_ l0_0 from Kd.Q_mono ho0_0 (fun k_ hk=>(.inl (.inl hk))))
 have HO1_9:=C (show Kd.Q (Kd.int .i64) 3 w w0.heap.size (fun k_=>((P0_0_ k_∨P0_9_ k_∨P0_10_ k_)∨w.heap.size≤k_)∧qm k_ u9002_) u9001_ l0_9 from Kd.Q_mono ho0_9 (fun k_ hk=>⟨(.inl (.inr (.inl hk))),fun e_=>hp0_9_0_10 k_ hk (ho0_10.1 k_ e_.symm)⟩))
 have HO1_10:=C (show Kd.Q (Kd.int .i64) 3 w w0.heap.size (fun k_=>((P0_0_ k_∨P0_9_ k_∨P0_10_ k_)∨w.heap.size≤k_)∧qm k_ u9001_) u9002_ l0_10 from Kd.Q_mono ho0_10 (fun k_ hk=>⟨(.inl (.inr (.inr hk))),fun e_=>hp0_10_0_9 k_ hk (ho0_9.1 k_ e_.symm)⟩))
 have HK:=C (Kept.refl w (fun k_=>P0_0_ k_∨P0_9_ k_∨P0_10_ k_))
 have HW1:=C hB.size
 have HB:=C hB
 clear hB
 have H:=h
 unfold laws_markMachine.f at H
 clear h
 obtain⟨⟨t1,t2⟩,A1,H⟩:=bnd H
 dsimp only at H
 obtain⟨⟨t3,t4,t5⟩,A2,H⟩:=bnd H
 dsimp only at H
 simp only[Option.some.injEq,Prod.mk.injEq]at H
 obtain⟨rfl,rfl,rfl,rfl⟩:=H
 obtain⟨Ao1,co1,eo1,_⟩:=Kd.Q_slice HO1_0.out
 subst eo1
 obtain⟨Ao2,co2,eo2,_⟩:=Kd.Q_slice HO1_9.out
 subst eo2
 obtain⟨Ao3,co3,eo3,_⟩:=Kd.Q_slice HO1_10.out
 subst eo3
 go_enter func22,ntmps22
 go_wp2_with (first|((with_reducible refine gate_dst (N:=2) rfl ?_);refine Fix.be 2 #[L Ao1 l0_0.length co1,V I a0_1,V I a0_2,V I a0_3,O a0_4,V I a0_5,O a0_6,V I a0_7,V I a0_8,L Ao2 l0_9.length co2,L Ao3 l0_10.length co3,V I a0_11,O a0_12,V I a0_13] 36 ?_;intro gb1 hg w1 BK1 hb;have GW1:=C ((by rw[hg];exact(by first|exact HK.out.1|exact(show Kept w _ (fun k_=>P0_0_ k_∨P0_9_ k_∨P0_10_ k_) from uP).1):w.heap.size≤gb1));have GE1:D (w0.heap.size≤gb1):=gE hg;replace HO1_0:=eQ HO1_0 hb;replace HO1_9:=eQ HO1_9 hb;replace HO1_10:=eQ HO1_10 hb;replace HK:=C (Kept.below (S:=(fun k_=>P0_0_ k_∨P0_9_ k_∨P0_10_ k_)) (show Kept w _ _ from uP) hb);replace HB:=eB hb;clear hb hg;have h_:=d14 BK1.out;(repeat(obtain⟨_,h_⟩:=h_)))|((with_reducible refine F (f:=77) rfl ?_);refine gl 77 (some 8) func77 #[L Ao1 l0_0.length co1,V I a1] ?_;(with_reducible refine(laws_markJobS.calls k (fun k_=>some k_=(L Ao1 l0_0.length co1:Value).ownBlock) (L Ao1 l0_0.length co1) l0_0 a1 t1 t2 w0 _ ?side1 ?side2 A1.out).mono ?_);(case side1=>exact uB);(case side2=>exact Kd.Q_tight rfl HO1_0.out);rintro e w2 ⟨rfl,hy1,hb,hkp⟩;refine⟨_,rfl,?_⟩;replace HO1_9:=C (Kd.Q_mono (ok':=fun k_=>((P0_0_ k_∨P0_9_ k_∨P0_10_ k_)∨w.heap.size≤k_)∧qn k_ Ao3 l0_10.length co3) (Kd.Q_keptB ((Kd.Q_apart' HO1_9.out (Kd.Q_typed HO1_0.out) (by decide))) hkp (fun k_ hk_ hs_=>(hk_.2) hs_)) (fun k_ hk_=>⟨hk_.1.1.1,hk_.1.1.2⟩));replace HO1_10:=C (Kd.Q_mono (ok':=fun k_=>((P0_0_ k_∨P0_9_ k_∨P0_10_ k_)∨w.heap.size≤k_)∧qn k_ Ao2 l0_9.length co2) (Kd.Q_keptB ((Kd.Q_apart' HO1_10.out (Kd.Q_typed HO1_0.out) (by decide))) hkp (fun k_ hk_ hs_=>(hk_.2) hs_)) (fun k_ hk_=>⟨hk_.1.1.1,hk_.1.1.2⟩));replace BK1:=C (blk_kept (uK BK1.out) hkp (fun hs_=>(fun e_=>(Kd.Q_ne HO1_0.out BK1.out (by decide)) e_) hs_));replace HK:=C (Kept.then_ (S:=(fun k_=>P0_0_ k_∨P0_9_ k_∨P0_10_ k_)) (show Kept w _ _ from uP) hkp (fun k_ hs_=>(fun e_=>(HO1_0.out.1 k_ e_.symm)) hs_));replace HO1_0:=C (Ext.Q_reok rfl hy1 (fun k_ e_=>HO1_0.out.1 k_ e_));replace HB:=C (hb);clear hb;(try clear hkp);(try clear hy1);have h_:=d14 BK1.out;(repeat(obtain⟨_,h_⟩:=h_)))|((with_reducible refine F (f:=78) rfl ?_);refine gl 78 (some 12) func78 #[.agg #[V I a0_7,V I a0_8,L Ao2 l0_9.length co2,L Ao3 l0_10.length co3,V I a0_11,O a0_12],V I t1] ?_;(with_reducible refine(laws_markLine.calls k a0_7 a0_8 (fun k_=>some k_=(L Ao2 l0_9.length co2:Value).ownBlock) (L Ao2 l0_9.length co2) l0_9 (fun k_=>some k_=(L Ao3 l0_10.length co3:Value).ownBlock) (L Ao3 l0_10.length co3) l0_10 a0_11 a0_12 t1 t3 t4 t5 w0 _ ?side1 ?side2 ?side3 ?side4 ?side5 A2.out).mono ?_);(case side1=>exact uB);(case side2=>exact Kd.Q_tight rfl HO1_9.out);(case side3=>exact fun k_ e_=>(HO1_9.out.1 k_ e_.symm).2);(case side4=>exact Kd.Q_tight rfl HO1_10.out);(case side5=>exact fun k_ e_=>(HO1_10.out.1 k_ e_.symm).2);rintro e w3 ⟨rfl,hy1,hy2,hb,hkp⟩;refine⟨_,rfl,?_⟩;replace HO1_0:=C (Kd.Q_mono (ok':=fun k_=>((P0_0_ k_∨P0_9_ k_∨P0_10_ k_)∨w.heap.size≤k_)) (Kd.Q_keptB ((Kd.Q_apart' (Kd.Q_apart' HO1_0.out (Kd.Q_typed HO1_9.out) (by decide)) (Kd.Q_typed HO1_10.out) (by decide))) hkp (fun k_ hk_ hs_=>Or.elim hs_ (fun e_=>(hk_.1.2) e_) (fun e_=>(hk_.2) e_))) (fun k_ hk_=>hk_.1.1.1));replace BK1:=C (blk_kept (uK BK1.out) hkp (fun hs_=>Or.elim hs_ (fun e_=>(fun e_=>(Kd.Q_ne HO1_9.out BK1.out (by decide)) e_) e_) (fun e_=>(fun e_=>(Kd.Q_ne HO1_10.out BK1.out (by decide)) e_) e_)));replace HK:=C (Kept.then_ (S:=(fun k_=>P0_0_ k_∨P0_9_ k_∨P0_10_ k_)) (show Kept w _ _ from uP) hkp (fun k_ hs_=>Or.elim hs_ (fun e_=>(fun e_=>(HO1_9.out.1 k_ e_.symm).1) e_) (fun e_=>(fun e_=>(HO1_10.out.1 k_ e_.symm).1) e_)));replace HO1_9:=C (Ext.Q_reok rfl hy1 (fun k_ e_=>HO1_9.out.1 k_ e_));replace HO1_10:=C (Ext.Q_reok rfl hy2 (fun k_ e_=>HO1_10.out.1 k_ e_));replace HB:=C (hb);clear hb;(try clear hkp);(try clear hy1);(try clear hy2)))
 go_ret
 exact⟨rE,fQ HO1_0.out,Kd.Q_mono (fQ HO1_9.out) (fun _ hk=>hk.1),Kd.Q_mono (fQ HO1_10.out) (fun _ hk=>hk.1),uB,uP⟩
def laws_heldJobS.l0:Nat→List (S33)→Int→Int→Option (Int)
 |0,_,_,_=>none
 |k+1,x0,x1,x5=>if x5<(x0.length:Int) then(if 0≤x5 then(if((rd_T33 x0 x5).f0)=x1 then(if((rd_T33 x0 x5).f1)=(wrap64 (x1+1)) then(if((rd_T33 x0 x5).f2)=(wrap64 ((wrap64 (x1+1))+1)) then(if(((rd_T33 x0 x5).f3) !=((Int.tmod (wrap64 ((wrap64 ((wrap64 (x1+1))+1))+1)) 3)==0))=true then(some (-1)) else(if((rd_T33 x0 x5).f4)=(wrap64 ((wrap64 ((wrap64 ((wrap64 (x1+1))+1))+1))+1)) then(if(((rd_T33 x0 x5).f5) !=((Int.tmod (wrap64 ((wrap64 ((wrap64 ((wrap64 ((wrap64 (x1+1))+1))+1))+1))+1)) 3)==0))=true then(some (-1)) else(laws_heldJobS.l0 k x0 (wrap64 ((wrap64 ((wrap64 ((wrap64 ((wrap64 ((wrap64 (x1+1))+1))+1))+1))+1))+1)) (wrap64 (x5+1)))) else(some (-1)))) else(some (-1))) else(some (-1))) else(some (-1))) else(none)) else(some x1)
def laws_heldJobS.f (k:Nat) (l0:List (S33)) (a1:Int):Option (Int):=laws_heldJobS.l0 k l0 a1 0
theorem laws_heldJobS.W1 {p:Prop} (h:p:=by
 go_wp2
 go_ret
 exact⟨by first|rfl|(simp;done)|(simp[*];done),by repeat(first|exact Drawn0.refl _|apply Drawn0.step)⟩):p:=h
theorem laws_heldJobS.calls (k:Nat) (A0:Option Addr) (c0:Nat) (l0:List (S33)) (a1:Int) (r:Int) (w:World) (hr0:Kd.C k33 w A0 l0.length l0) (hc0:l0.length≤c0) (h:laws_heldJobS.f k l0 a1=some r):
 Calls prog 79 #[L A0 l0.length c0,V I a1] w fun e w'=>e=.returned (V I r)∧Drawn0 w w':=by
 have HR1:=C hr0
 have HC1:=C hc0
 (try clear hr0);(try clear hc0)
 have H:=h
 unfold laws_heldJobS.f at H
 clear h
 have H':=C H
 clear H
 go_enter func79,ntmps79
 go_wp2
 go_loopg [1,5] k (fun kq v1 v5 w'=>∃(x1_1:Int) (x2_1:Int),v1=V I x1_1∧v5=V I x2_1∧D (laws_heldJobS.l0 kq l0 x1_1 x2_1=some r)∧D (kq≤k)∧Drawn0 w w')
 case atStart=>exact⟨(a1),(0),rS,rS,H',⟨Nat.le_refl _⟩,by repeat(first|exact Drawn0.refl _|apply Drawn0.step)⟩
 case round=>
  clear H'
  obtain⟨x1_1,x2_1,rfl,rfl,HA,HK1,⟨m1,rfl⟩⟩:=hrel
  cases gk with
  |zero=>exact absurd HA.out (by simp[laws_heldJobS.l0])
  |succ k1=>
   have H:=HA.out
   clear HA
   simp only[laws_heldJobS.l0]at H
   by_cases c1:x2_1<(l0.length:Int)
   rotate_left
   ·rw[if_neg c1]at H
    replace c1:=decide_eq_false c1
    obtain rfl:=si H
    exact laws_heldJobS.W1
   rw[if_pos c1]at H
   replace c1:=decide_eq_true c1
   obtain⟨c2,H⟩:=np H
   replace c2:=decide_eq_true c2
   by_cases c3:((rd_T33 l0 x2_1).f0)=x1_1
   rotate_left
   ·rw[if_neg c3]at H
    have c3b0:(((rd_T33 l0 x2_1).f0)==x1_1)=false:=beq_eq_false_iff_ne.mpr c3
    have c3b1:(((rd_T33 l0 x2_1).f0) !=x1_1)=true:=bne_iff_ne.mpr c3
    obtain rfl:=si H
    have p1:0≤(x2_1:Int):=oT
    have q1:x2_1<(l0.length:Int):=oT
    obtain⟨ad1,e1,hx1_0,hx1_1,hx1_2,hx1_3,hx1_4,hx1_5⟩:=at_T33 HR1.out x2_1 p1 q1
    cases e1
    replace p1:=eq_true p1
    replace q1:=eq_true q1
    exact laws_heldJobS.W1
   rw[if_pos c3]at H
   have c3b0:(((rd_T33 l0 x2_1).f0)==x1_1)=true:=beq_iff_eq.mpr c3
   have c3b1:(((rd_T33 l0 x2_1).f0) !=x1_1)=false:=bne_eq_false_iff_eq.mpr c3
   clear c3
   by_cases c4:((rd_T33 l0 x2_1).f1)=(wrap64 (x1_1+1))
   rotate_left
   ·rw[if_neg c4]at H
    have c4b0:(((rd_T33 l0 x2_1).f1)==(wrap64 (x1_1+1)))=false:=beq_eq_false_iff_ne.mpr c4
    have c4b1:(((rd_T33 l0 x2_1).f1) !=(wrap64 (x1_1+1)))=true:=bne_iff_ne.mpr c4
    obtain rfl:=si H
    have p1:0≤(x2_1:Int):=oT
    have q1:x2_1<(l0.length:Int):=oT
    obtain⟨ad1,e1,hx1_0,hx1_1,hx1_2,hx1_3,hx1_4,hx1_5⟩:=at_T33 HR1.out x2_1 p1 q1
    cases e1
    replace p1:=eq_true p1
    replace q1:=eq_true q1
    have p2:0≤(x2_1:Int):=oT
    have q2:x2_1<(l0.length:Int):=oT
    obtain⟨ad2,e2,hx2_0,hx2_1,hx2_2,hx2_3,hx2_4,hx2_5⟩:=at_T33 HR1.out x2_1 p2 q2
    obtain rfl:ad1=ad2:=(by injection e2)
    replace p2:=eq_true p2
    replace q2:=eq_true q2
    exact laws_heldJobS.W1
   rw[if_pos c4]at H
   have c4b0:(((rd_T33 l0 x2_1).f1)==(wrap64 (x1_1+1)))=true:=beq_iff_eq.mpr c4
   have c4b1:(((rd_T33 l0 x2_1).f1) !=(wrap64 (x1_1+1)))=false:=bne_eq_false_iff_eq.mpr c4
   clear c4
   by_cases c5:((rd_T33 l0 x2_1).f2)=(wrap64 ((wrap64 (x1_1+1))+1))
   rotate_left
   ·rw[if_neg c5]at H
    have c5b0:(((rd_T33 l0 x2_1).f2)==(wrap64 ((wrap64 (x1_1+1))+1)))=false:=beq_eq_false_iff_ne.mpr c5
    have c5b1:(((rd_T33 l0 x2_1).f2) !=(wrap64 ((wrap64 (x1_1+1))+1)))=true:=bne_iff_ne.mpr c5
    obtain rfl:=si H
    have p1:0≤(x2_1:Int):=oT
    have q1:x2_1<(l0.length:Int):=oT
    obtain⟨ad1,e1,hx1_0,hx1_1,hx1_2,hx1_3,hx1_4,hx1_5⟩:=at_T33 HR1.out x2_1 p1 q1
    cases e1
    replace p1:=eq_true p1
    replace q1:=eq_true q1
    have p2:0≤(x2_1:Int):=oT
    have q2:x2_1<(l0.length:Int):=oT
    obtain⟨ad2,e2,hx2_0,hx2_1,hx2_2,hx2_3,hx2_4,hx2_5⟩:=at_T33 HR1.out x2_1 p2 q2
    obtain rfl:ad1=ad2:=(by injection e2)
    replace p2:=eq_true p2
    replace q2:=eq_true q2
    have p3:0≤(x2_1:Int):=oT
    have q3:x2_1<(l0.length:Int):=oT
    obtain⟨ad3,e3,hx3_0,hx3_1,hx3_2,hx3_3,hx3_4,hx3_5⟩:=at_T33 HR1.out x2_1 p3 q3
    obtain rfl:ad1=ad3:=(by injection e3)
    replace p3:=eq_true p3
    replace q3:=eq_true q3
    exact laws_heldJobS.W1
   rw[if_pos c5]at H
   have c5b0:(((rd_T33 l0 x2_1).f2)==(wrap64 ((wrap64 (x1_1+1))+1)))=true:=beq_iff_eq.mpr c5
   have c5b1:(((rd_T33 l0 x2_1).f2) !=(wrap64 ((wrap64 (x1_1+1))+1)))=false:=bne_eq_false_iff_eq.mpr c5
   clear c5
   by_cases c6:(((rd_T33 l0 x2_1).f3) !=((Int.tmod (wrap64 ((wrap64 ((wrap64 (x1_1+1))+1))+1)) 3)==0))=true
   ·rw[if_pos c6]at H
    have c6b0:(((rd_T33 l0 x2_1).f3) !=((Int.tmod (wrap64 ((wrap64 ((wrap64 (x1_1+1))+1))+1)) 3)==0))=true:=c6
    (try(have c6b1:decide (((rd_T33 l0 x2_1).f3)=((Int.tmod (wrap64 ((wrap64 ((wrap64 (x1_1+1))+1))+1)) 3)==0))=false:=by simpa using c6))
    (try(have c6b2:(((rd_T33 l0 x2_1).f3)==((Int.tmod (wrap64 ((wrap64 ((wrap64 (x1_1+1))+1))+1)) 3)==0))=false:=by simpa using c6))
    (try(have c6b3:¬(((rd_T33 l0 x2_1).f3)=((Int.tmod (wrap64 ((wrap64 ((wrap64 (x1_1+1))+1))+1)) 3)==0)):=by simpa using c6))
    clear c6
    obtain rfl:=si H
    have p1:0≤(x2_1:Int):=oT
    have q1:x2_1<(l0.length:Int):=oT
    obtain⟨ad1,e1,hx1_0,hx1_1,hx1_2,hx1_3,hx1_4,hx1_5⟩:=at_T33 HR1.out x2_1 p1 q1
    cases e1
    replace p1:=eq_true p1
    replace q1:=eq_true q1
    have p2:0≤(x2_1:Int):=oT
    have q2:x2_1<(l0.length:Int):=oT
    obtain⟨ad2,e2,hx2_0,hx2_1,hx2_2,hx2_3,hx2_4,hx2_5⟩:=at_T33 HR1.out x2_1 p2 q2
    obtain rfl:ad1=ad2:=(by injection e2)
    replace p2:=eq_true p2
    replace q2:=eq_true q2
    have p3:0≤(x2_1:Int):=oT
    have q3:x2_1<(l0.length:Int):=oT
    obtain⟨ad3,e3,hx3_0,hx3_1,hx3_2,hx3_3,hx3_4,hx3_5⟩:=at_T33 HR1.out x2_1 p3 q3
    obtain rfl:ad1=ad3:=(by injection e3)
    replace p3:=eq_true p3
    replace q3:=eq_true q3
    have p4:0≤(x2_1:Int):=oT
    have q4:x2_1<(l0.length:Int):=oT
    obtain⟨ad4,e4,hx4_0,hx4_1,hx4_2,hx4_3,hx4_4,hx4_5⟩:=at_T33 HR1.out x2_1 p4 q4
    obtain rfl:ad1=ad4:=(by injection e4)
    replace p4:=eq_true p4
    replace q4:=eq_true q4
    exact laws_heldJobS.W1
   rw[if_neg c6]at H
   have c6b0:(((rd_T33 l0 x2_1).f3) !=((Int.tmod (wrap64 ((wrap64 ((wrap64 (x1_1+1))+1))+1)) 3)==0))=false:=by simpa using c6
   (try(have c6b1:decide (((rd_T33 l0 x2_1).f3)=((Int.tmod (wrap64 ((wrap64 ((wrap64 (x1_1+1))+1))+1)) 3)==0))=true:=by simpa using c6))
   (try(have c6b2:(((rd_T33 l0 x2_1).f3)==((Int.tmod (wrap64 ((wrap64 ((wrap64 (x1_1+1))+1))+1)) 3)==0))=true:=by simpa using c6))
   clear c6
   by_cases c7:((rd_T33 l0 x2_1).f4)=(wrap64 ((wrap64 ((wrap64 ((wrap64 (x1_1+1))+1))+1))+1))
   rotate_left
   ·rw[if_neg c7]at H
    have c7b0:(((rd_T33 l0 x2_1).f4)==(wrap64 ((wrap64 ((wrap64 ((wrap64 (x1_1+1))+1))+1))+1)))=false:=beq_eq_false_iff_ne.mpr c7
    have c7b1:(((rd_T33 l0 x2_1).f4) !=(wrap64 ((wrap64 ((wrap64 ((wrap64 (x1_1+1))+1))+1))+1)))=true:=bne_iff_ne.mpr c7
    obtain rfl:=si H
    have p1:0≤(x2_1:Int):=oT
    have q1:x2_1<(l0.length:Int):=oT
    obtain⟨ad1,e1,hx1_0,hx1_1,hx1_2,hx1_3,hx1_4,hx1_5⟩:=at_T33 HR1.out x2_1 p1 q1
    cases e1
    replace p1:=eq_true p1
    replace q1:=eq_true q1
    have p2:0≤(x2_1:Int):=oT
    have q2:x2_1<(l0.length:Int):=oT
    obtain⟨ad2,e2,hx2_0,hx2_1,hx2_2,hx2_3,hx2_4,hx2_5⟩:=at_T33 HR1.out x2_1 p2 q2
    obtain rfl:ad1=ad2:=(by injection e2)
    replace p2:=eq_true p2
    replace q2:=eq_true q2
    have p3:0≤(x2_1:Int):=oT
    have q3:x2_1<(l0.length:Int):=oT
    obtain⟨ad3,e3,hx3_0,hx3_1,hx3_2,hx3_3,hx3_4,hx3_5⟩:=at_T33 HR1.out x2_1 p3 q3
    obtain rfl:ad1=ad3:=(by injection e3)
    replace p3:=eq_true p3
    replace q3:=eq_true q3
    have p4:0≤(x2_1:Int):=oT
    have q4:x2_1<(l0.length:Int):=oT
    obtain⟨ad4,e4,hx4_0,hx4_1,hx4_2,hx4_3,hx4_4,hx4_5⟩:=at_T33 HR1.out x2_1 p4 q4
    obtain rfl:ad1=ad4:=(by injection e4)
    replace p4:=eq_true p4
    replace q4:=eq_true q4
    have p5:0≤(x2_1:Int):=oT
    have q5:x2_1<(l0.length:Int):=oT
    obtain⟨ad5,e5,hx5_0,hx5_1,hx5_2,hx5_3,hx5_4,hx5_5⟩:=at_T33 HR1.out x2_1 p5 q5
    obtain rfl:ad1=ad5:=(by injection e5)
    replace p5:=eq_true p5
    replace q5:=eq_true q5
    exact laws_heldJobS.W1
   rw[if_pos c7]at H
   have c7b0:(((rd_T33 l0 x2_1).f4)==(wrap64 ((wrap64 ((wrap64 ((wrap64 (x1_1+1))+1))+1))+1)))=true:=beq_iff_eq.mpr c7
   have c7b1:(((rd_T33 l0 x2_1).f4) !=(wrap64 ((wrap64 ((wrap64 ((wrap64 (x1_1+1))+1))+1))+1)))=false:=bne_eq_false_iff_eq.mpr c7
   clear c7
   by_cases c8:(((rd_T33 l0 x2_1).f5) !=((Int.tmod (wrap64 ((wrap64 ((wrap64 ((wrap64 ((wrap64 (x1_1+1))+1))+1))+1))+1)) 3)==0))=true
   ·rw[if_pos c8]at H
    have c8b0:(((rd_T33 l0 x2_1).f5) !=((Int.tmod (wrap64 ((wrap64 ((wrap64 ((wrap64 ((wrap64 (x1_1+1))+1))+1))+1))+1)) 3)==0))=true:=c8
    (try(have c8b1:decide (((rd_T33 l0 x2_1).f5)=((Int.tmod (wrap64 ((wrap64 ((wrap64 ((wrap64 ((wrap64 (x1_1+1))+1))+1))+1))+1)) 3)==0))=false:=by simpa using c8))
    (try(have c8b2:(((rd_T33 l0 x2_1).f5)==((Int.tmod (wrap64 ((wrap64 ((wrap64 ((wrap64 ((wrap64 (x1_1+1))+1))+1))+1))+1)) 3)==0))=false:=by simpa using c8))
    (try(have c8b3:¬(((rd_T33 l0 x2_1).f5)=((Int.tmod (wrap64 ((wrap64 ((wrap64 ((wrap64 ((wrap64 (x1_1+1))+1))+1))+1))+1)) 3)==0)):=by simpa using c8))
    clear c8
    obtain rfl:=si H
    have p1:0≤(x2_1:Int):=oT
    have q1:x2_1<(l0.length:Int):=oT
    obtain⟨ad1,e1,hx1_0,hx1_1,hx1_2,hx1_3,hx1_4,hx1_5⟩:=at_T33 HR1.out x2_1 p1 q1
    cases e1
    replace p1:=eq_true p1
    replace q1:=eq_true q1
    have p2:0≤(x2_1:Int):=oT
    have q2:x2_1<(l0.length:Int):=oT
    obtain⟨ad2,e2,hx2_0,hx2_1,hx2_2,hx2_3,hx2_4,hx2_5⟩:=at_T33 HR1.out x2_1 p2 q2
    obtain rfl:ad1=ad2:=(by injection e2)
    replace p2:=eq_true p2
    replace q2:=eq_true q2
    have p3:0≤(x2_1:Int):=oT
    have q3:x2_1<(l0.length:Int):=oT
    obtain⟨ad3,e3,hx3_0,hx3_1,hx3_2,hx3_3,hx3_4,hx3_5⟩:=at_T33 HR1.out x2_1 p3 q3
    obtain rfl:ad1=ad3:=(by injection e3)
    replace p3:=eq_true p3
    replace q3:=eq_true q3
    have p4:0≤(x2_1:Int):=oT
    have q4:x2_1<(l0.length:Int):=oT
    obtain⟨ad4,e4,hx4_0,hx4_1,hx4_2,hx4_3,hx4_4,hx4_5⟩:=at_T33 HR1.out x2_1 p4 q4
    obtain rfl:ad1=ad4:=(by injection e4)
    replace p4:=eq_true p4
    replace q4:=eq_true q4
    have p5:0≤(x2_1:Int):=oT
    have q5:x2_1<(l0.length:Int):=oT
    obtain⟨ad5,e5,hx5_0,hx5_1,hx5_2,hx5_3,hx5_4,hx5_5⟩:=at_T33 HR1.out x2_1 p5 q5
    obtain rfl:ad1=ad5:=(by injection e5)
    replace p5:=eq_true p5
    replace q5:=eq_true q5
    have p6:0≤(x2_1:Int):=oT
    have q6:x2_1<(l0.length:Int):=oT
    obtain⟨ad6,e6,hx6_0,hx6_1,hx6_2,hx6_3,hx6_4,hx6_5⟩:=at_T33 HR1.out x2_1 p6 q6
    obtain rfl:ad1=ad6:=(by injection e6)
    replace p6:=eq_true p6
    replace q6:=eq_true q6
    exact laws_heldJobS.W1
   rw[if_neg c8]at H
   have c8b0:(((rd_T33 l0 x2_1).f5) !=((Int.tmod (wrap64 ((wrap64 ((wrap64 ((wrap64 ((wrap64 (x1_1+1))+1))+1))+1))+1)) 3)==0))=false:=by simpa using c8
   (try(have c8b1:decide (((rd_T33 l0 x2_1).f5)=((Int.tmod (wrap64 ((wrap64 ((wrap64 ((wrap64 ((wrap64 (x1_1+1))+1))+1))+1))+1)) 3)==0))=true:=by simpa using c8))
   (try(have c8b2:(((rd_T33 l0 x2_1).f5)==((Int.tmod (wrap64 ((wrap64 ((wrap64 ((wrap64 ((wrap64 (x1_1+1))+1))+1))+1))+1)) 3)==0))=true:=by simpa using c8))
   clear c8
   have H':=C H
   clear H
   have p1:0≤(x2_1:Int):=oT
   have q1:x2_1<(l0.length:Int):=oT
   obtain⟨ad1,e1,hx1_0,hx1_1,hx1_2,hx1_3,hx1_4,hx1_5⟩:=at_T33 HR1.out x2_1 p1 q1
   cases e1
   replace p1:=eq_true p1
   replace q1:=eq_true q1
   have p2:0≤(x2_1:Int):=oT
   have q2:x2_1<(l0.length:Int):=oT
   obtain⟨ad2,e2,hx2_0,hx2_1,hx2_2,hx2_3,hx2_4,hx2_5⟩:=at_T33 HR1.out x2_1 p2 q2
   obtain rfl:ad1=ad2:=(by injection e2)
   replace p2:=eq_true p2
   replace q2:=eq_true q2
   have p3:0≤(x2_1:Int):=oT
   have q3:x2_1<(l0.length:Int):=oT
   obtain⟨ad3,e3,hx3_0,hx3_1,hx3_2,hx3_3,hx3_4,hx3_5⟩:=at_T33 HR1.out x2_1 p3 q3
   obtain rfl:ad1=ad3:=(by injection e3)
   replace p3:=eq_true p3
   replace q3:=eq_true q3
   have p4:0≤(x2_1:Int):=oT
   have q4:x2_1<(l0.length:Int):=oT
   obtain⟨ad4,e4,hx4_0,hx4_1,hx4_2,hx4_3,hx4_4,hx4_5⟩:=at_T33 HR1.out x2_1 p4 q4
   obtain rfl:ad1=ad4:=(by injection e4)
   replace p4:=eq_true p4
   replace q4:=eq_true q4
   have p5:0≤(x2_1:Int):=oT
   have q5:x2_1<(l0.length:Int):=oT
   obtain⟨ad5,e5,hx5_0,hx5_1,hx5_2,hx5_3,hx5_4,hx5_5⟩:=at_T33 HR1.out x2_1 p5 q5
   obtain rfl:ad1=ad5:=(by injection e5)
   replace p5:=eq_true p5
   replace q5:=eq_true q5
   have p6:0≤(x2_1:Int):=oT
   have q6:x2_1<(l0.length:Int):=oT
   obtain⟨ad6,e6,hx6_0,hx6_1,hx6_2,hx6_3,hx6_4,hx6_5⟩:=at_T33 HR1.out x2_1 p6 q6
   obtain rfl:ad1=ad6:=(by injection e6)
   replace p6:=eq_true p6
   replace q6:=eq_true q6
   go_wp2
   go_roundg k1
   case measure=>have:=HK1.out;omega
   case rel=>exact⟨(wrap64 ((wrap64 ((wrap64 ((wrap64 ((wrap64 ((wrap64 (x1_1+1))+1))+1))+1))+1))+1)),(wrap64 (x2_1+1)),rS,rS,H',⟨by have:=HK1.out;omega⟩,by repeat(first|exact Drawn0.refl _|apply Drawn0.step)⟩
def laws_heldIntS.l0:Nat→List Int→Int→Int→Option (Int)
 |0,_,_,_=>none
 |k+1,x0,x1,x5=>if x5<(x0.length:Int) then(if 0≤x5 then(if(rd x0 x5)=x1 then(laws_heldIntS.l0 k x0 (wrap64 (x1+1)) (wrap64 (x5+1))) else(some (-1))) else(none)) else(some x1)
def laws_heldIntS.f (k:Nat) (l0:List Int) (a1:Int):Option (Int):=laws_heldIntS.l0 k l0 a1 0
theorem laws_heldIntS.W1 {p:Prop} (h:p:=by
 go_wp2
 go_ret
 exact⟨by first|rfl|(simp;done)|(simp[*];done),by repeat(first|exact Drawn0.refl _|apply Drawn0.step)⟩):p:=h
theorem laws_heldIntS.calls (k:Nat) (A0:Option Addr) (c0:Nat) (l0:List Int) (a1:Int) (r:Int) (w:World) (hr0:Kd.C (Kd.int .i64) w A0 l0.length l0) (hc0:l0.length≤c0) (h:laws_heldIntS.f k l0 a1=some r):
 Calls prog 33 #[L A0 l0.length c0,V I a1] w fun e w'=>e=.returned (V I r)∧Drawn0 w w':=by
 have HR1:=C hr0
 have HC1:=C hc0
 (try clear hr0);(try clear hc0)
 have H:=h
 unfold laws_heldIntS.f at H
 clear h
 have H':=C H
 clear H
 go_enter func33,ntmps33
 go_wp2
 go_loopg [1,5] k (fun kq v1 v5 w'=>∃(x1_1:Int) (x2_1:Int),v1=V I x1_1∧v5=V I x2_1∧D (laws_heldIntS.l0 kq l0 x1_1 x2_1=some r)∧D (kq≤k)∧Drawn0 w w')
 case atStart=>exact⟨(a1),(0),rS,rS,H',⟨Nat.le_refl _⟩,by repeat(first|exact Drawn0.refl _|apply Drawn0.step)⟩
 case round=>
  clear H'
  obtain⟨x1_1,x2_1,rfl,rfl,HA,HK1,⟨m1,rfl⟩⟩:=hrel
  cases gk with
  |zero=>exact absurd HA.out (by simp[laws_heldIntS.l0])
  |succ k1=>
   have H:=HA.out
   clear HA
   simp only[laws_heldIntS.l0]at H
   by_cases c1:x2_1<(l0.length:Int)
   rotate_left
   ·rw[if_neg c1]at H
    replace c1:=decide_eq_false c1
    obtain rfl:=si H
    exact laws_heldIntS.W1
   rw[if_pos c1]at H
   replace c1:=decide_eq_true c1
   obtain⟨c2,H⟩:=np H
   replace c2:=decide_eq_true c2
   by_cases c3:(rd l0 x2_1)=x1_1
   rotate_left
   ·rw[if_neg c3]at H
    have c3b0:((rd l0 x2_1)==x1_1)=false:=beq_eq_false_iff_ne.mpr c3
    have c3b1:((rd l0 x2_1) !=x1_1)=true:=bne_iff_ne.mpr c3
    obtain rfl:=si H
    have p1:0≤(x2_1:Int):=oT
    have q1:x2_1<(l0.length:Int):=oT
    obtain⟨ad1,e1,hx1_0⟩:=Kd.at_int HR1.out x2_1 p1 q1
    cases e1
    replace p1:=eq_true p1
    replace q1:=eq_true q1
    exact laws_heldIntS.W1
   rw[if_pos c3]at H
   have c3b0:((rd l0 x2_1)==x1_1)=true:=beq_iff_eq.mpr c3
   have c3b1:((rd l0 x2_1) !=x1_1)=false:=bne_eq_false_iff_eq.mpr c3
   clear c3
   have H':=C H
   clear H
   have p1:0≤(x2_1:Int):=oT
   have q1:x2_1<(l0.length:Int):=oT
   obtain⟨ad1,e1,hx1_0⟩:=Kd.at_int HR1.out x2_1 p1 q1
   cases e1
   replace p1:=eq_true p1
   replace q1:=eq_true q1
   go_wp2
   go_roundg k1
   case measure=>have:=HK1.out;omega
   case rel=>exact⟨(wrap64 (x1_1+1)),(wrap64 (x2_1+1)),rS,rS,H',⟨by have:=HK1.out;omega⟩,by repeat(first|exact Drawn0.refl _|apply Drawn0.step)⟩
def laws_heldLine.f (k:Nat) (a0_0:Int) (a0_1:Int) (l0_2:List Int) (l0_3:List Int) (a0_4:Int) (a0_5:Bool) (a1:Int):Option (Int):=(laws_heldIntS.f k l0_2 a1).bind fun t826=>(if t826<0 then(some (-1)) else((laws_heldIntS.f k l0_3 t826).bind fun t827=>(if t827<0 then(some (-1)) else(some t827))))
theorem laws_heldLine.calls (k:Nat) (a0_0:Int) (a0_1:Int) (A0_2:Option Addr) (c0_2:Nat) (l0_2:List Int) (A0_3:Option Addr) (c0_3:Nat) (l0_3:List Int) (a0_4:Int) (a0_5:Bool) (a1:Int) (r:Int) (w:World) (hr0_2:Kd.C (Kd.int .i64) w A0_2 l0_2.length l0_2) (hc0_2:l0_2.length≤c0_2) (hr0_3:Kd.C (Kd.int .i64) w A0_3 l0_3.length l0_3) (hc0_3:l0_3.length≤c0_3) (h:laws_heldLine.f k a0_0 a0_1 l0_2 l0_3 a0_4 a0_5 a1=some r):
 Calls prog 80 #[.agg #[V I a0_0,V I a0_1,L A0_2 l0_2.length c0_2,L A0_3 l0_3.length c0_3,V I a0_4,O a0_5],V I a1] w fun e w'=>e=.returned (V I r)∧Below w.heap.size w w':=by
 have hu1:=underlying34
 have HR1_2:=C hr0_2
 have HC1_2:=C hc0_2
 (try clear hr0_2);(try clear hc0_2)
 have HR1_3:=C hr0_3
 have HC1_3:=C hc0_3
 (try clear hr0_3);(try clear hc0_3)
 have HB:=C (Below.refl w.heap.size w)
 have H:=h
 unfold laws_heldLine.f at H
 clear h
 obtain⟨t1,A1,H⟩:=bnd H
 by_cases c1:t1<0
 ·rw[if_pos c1]at H
  replace c1:=decide_eq_true c1
  obtain rfl:=si H
  go_enter func80,ntmps80
  go_wp2_with (first|((with_reducible refine gate_dst (N:=2) rfl ?_);refine Fix.be 2 #[V I a0_0,V I a0_1,L A0_2 l0_2.length c0_2,L A0_3 l0_3.length c0_3,V I a0_4,O a0_5] 34 ?_;intro gb1 hg w1 BK1 hb;have GW1:=gE (w:=w) hg;have GE1:=GW1;replace HB:=eB hb;clear hb hg;obtain⟨_,_,_,_,_,_,_,_,_,_,_,_⟩:=d6 BK1.out)|((with_reducible refine F (f:=33) rfl ?_);refine gl 33 (some 8) func33 #[L A0_2 l0_2.length c0_2,V I a1] ?_;(with_reducible refine(laws_heldIntS.calls k _ _ l0_2 a1 t1 _ ?side1 HC1_2.out A1.out).mono ?_);(case side1=>exact uZ HR1_2);rintro e w' ⟨rfl,⟨nd,rfl⟩⟩;refine⟨_,rfl,?_⟩))
  go_ret
  exact⟨rE,uB⟩
 rw[if_neg c1]at H
 replace c1:=decide_eq_false c1
 obtain⟨t2,A2,H⟩:=bnd H
 by_cases c2:t2<0
 ·rw[if_pos c2]at H
  replace c2:=decide_eq_true c2
  obtain rfl:=si H
  go_enter func80,ntmps80
  go_wp2_with (first|((with_reducible refine gate_dst (N:=2) rfl ?_);refine Fix.be 2 #[V I a0_0,V I a0_1,L A0_2 l0_2.length c0_2,L A0_3 l0_3.length c0_3,V I a0_4,O a0_5] 34 ?_;intro gb1 hg w1 BK1 hb;have GW1:=gE (w:=w) hg;have GE1:=GW1;replace HB:=eB hb;clear hb hg;obtain⟨_,_,_,_,_,_,_,_,_,_,_,_⟩:=d6 BK1.out)|((with_reducible refine F (f:=33) rfl ?_);refine gl 33 (some 8) func33 #[L A0_2 l0_2.length c0_2,V I a1] ?_;(with_reducible refine(laws_heldIntS.calls k _ _ l0_2 a1 t1 _ ?side1 HC1_2.out A1.out).mono ?_);(case side1=>exact uZ HR1_2);rintro e w' ⟨rfl,⟨nd,rfl⟩⟩;refine⟨_,rfl,?_⟩)|((with_reducible refine F (f:=33) rfl ?_);refine gl 33 (some 14) func33 #[L A0_3 l0_3.length c0_3,V I t1] ?_;(with_reducible refine(laws_heldIntS.calls k _ _ l0_3 t1 t2 _ ?side1 HC1_3.out A2.out).mono ?_);(case side1=>exact uC (Kd.C_below HR1_3.out uB));rintro e w' ⟨rfl,⟨nd,rfl⟩⟩;refine⟨_,rfl,?_⟩))
  go_ret
  exact⟨rE,uB⟩
 rw[if_neg c2]at H
 replace c2:=decide_eq_false c2
 obtain rfl:=si H
 go_enter func80,ntmps80
 go_wp2_with (first|((with_reducible refine gate_dst (N:=2) rfl ?_);refine Fix.be 2 #[V I a0_0,V I a0_1,L A0_2 l0_2.length c0_2,L A0_3 l0_3.length c0_3,V I a0_4,O a0_5] 34 ?_;intro gb1 hg w1 BK1 hb;have GW1:=gE (w:=w) hg;have GE1:=GW1;replace HB:=eB hb;clear hb hg;obtain⟨_,_,_,_,_,_,_,_,_,_,_,_⟩:=d6 BK1.out)|((with_reducible refine F (f:=33) rfl ?_);refine gl 33 (some 8) func33 #[L A0_2 l0_2.length c0_2,V I a1] ?_;(with_reducible refine(laws_heldIntS.calls k _ _ l0_2 a1 t1 _ ?side1 HC1_2.out A1.out).mono ?_);(case side1=>exact uZ HR1_2);rintro e w' ⟨rfl,⟨nd,rfl⟩⟩;refine⟨_,rfl,?_⟩)|((with_reducible refine F (f:=33) rfl ?_);refine gl 33 (some 14) func33 #[L A0_3 l0_3.length c0_3,V I t1] ?_;(with_reducible refine(laws_heldIntS.calls k _ _ l0_3 t1 t2 _ ?side1 HC1_3.out A2.out).mono ?_);(case side1=>exact uC (Kd.C_below HR1_3.out uB));rintro e w' ⟨rfl,⟨nd,rfl⟩⟩;refine⟨_,rfl,?_⟩))
 go_ret
 exact⟨rE,uB⟩
def laws_heldMachine.f (k:Nat) (l0_0:List (S33)) (a0_1:Int) (a0_2:Int) (a0_3:Int) (a0_4:Bool) (a0_5:Int) (a0_6:Bool) (a0_7:Int) (a0_8:Int) (l0_9:List Int) (l0_10:List Int) (a0_11:Int) (a0_12:Bool) (a0_13:Int) (a1:Int):Option (Int):=(laws_heldJobS.f k l0_0 a1).bind fun t829=>(if t829<0 then(some (-1)) else((laws_heldLine.f k a0_7 a0_8 l0_9 l0_10 a0_11 a0_12 t829).bind fun t830=>(if t830<0 then(some (-1)) else(some t830))))
theorem laws_heldMachine.W1 {p:Prop} (h:p:=by
 go_enter func23,ntmps23
 go_wp2_with (first|((with_reducible refine gate_dst (N:=2) rfl ?_);refine Fix.be 2 #[L A0_0 l0_0.length c0_0,V I a0_1,V I a0_2,V I a0_3,O a0_4,V I a0_5,O a0_6,V I a0_7,V I a0_8,L A0_9 l0_9.length c0_9,L A0_10 l0_10.length c0_10,V I a0_11,O a0_12,V I a0_13] 36 ?_;intro gb1 hg w1 BK1 hb;have GW1:=gE (w:=w) hg;replace HB:=eB hb;clear hb hg;obtain⟨_,_,_,_,_,_,_,_,_,_,_,_,_,_,_,_,_,_,_,_,_,_,_,_,_,_,_,_⟩:=d14 BK1.out)|((with_reducible refine F (f:=79) rfl ?_);refine gl 79 (some 8) func79 #[L A0_0 l0_0.length c0_0,V I a1] ?_;(with_reducible refine(laws_heldJobS.calls k _ _ l0_0 a1 t1 _ ?side1 HC1_0.out A1.out).mono ?_);(case side1=>exact uZ HR1_0);rintro e w' ⟨rfl,⟨nd,rfl⟩⟩;refine⟨_,rfl,?_⟩)|((with_reducible refine F (f:=80) rfl ?_);refine gl 80 (some 14) func80 #[.agg #[V I a0_7,V I a0_8,L A0_9 l0_9.length c0_9,L A0_10 l0_10.length c0_10,V I a0_11,O a0_12],V I t1] ?_;(with_reducible refine(laws_heldLine.calls k a0_7 a0_8 _ _ l0_9 _ _ l0_10 a0_11 a0_12 t1 t2 _ ?side1 HC1_9.out ?side3 HC1_10.out A2.out).mono ?_);(case side1=>exact uC (Kd.C_below HR1_9.out uB));(case side3=>exact uC (Kd.C_below HR1_10.out uB));rintro e w2 ⟨rfl,hb⟩;refine⟨_,rfl,?_⟩;replace BK1:=eK BK1 hb;replace HB:=eB hb;clear hb))
 go_ret
 exact⟨rE,uB⟩):p:=h
theorem laws_heldMachine.calls (k:Nat) (A0_0:Option Addr) (c0_0:Nat) (l0_0:List (S33)) (a0_1:Int) (a0_2:Int) (a0_3:Int) (a0_4:Bool) (a0_5:Int) (a0_6:Bool) (a0_7:Int) (a0_8:Int) (A0_9:Option Addr) (c0_9:Nat) (l0_9:List Int) (A0_10:Option Addr) (c0_10:Nat) (l0_10:List Int) (a0_11:Int) (a0_12:Bool) (a0_13:Int) (a1:Int) (r:Int) (w:World) (hr0_0:Kd.C k33 w A0_0 l0_0.length l0_0) (hc0_0:l0_0.length≤c0_0) (hr0_9:Kd.C (Kd.int .i64) w A0_9 l0_9.length l0_9) (hc0_9:l0_9.length≤c0_9) (hr0_10:Kd.C (Kd.int .i64) w A0_10 l0_10.length l0_10) (hc0_10:l0_10.length≤c0_10) (h:laws_heldMachine.f k l0_0 a0_1 a0_2 a0_3 a0_4 a0_5 a0_6 a0_7 a0_8 l0_9 l0_10 a0_11 a0_12 a0_13 a1=some r):
 Calls prog 23 #[.agg #[L A0_0 l0_0.length c0_0,V I a0_1,V I a0_2,V I a0_3,O a0_4,V I a0_5,O a0_6,V I a0_7,V I a0_8,L A0_9 l0_9.length c0_9,L A0_10 l0_10.length c0_10,V I a0_11,O a0_12,V I a0_13],V I a1] w fun e w'=>e=.returned (V I r)∧Below w.heap.size w w':=by
 have hu1:=underlying36
 have hu2:=underlying34
 have HR1_0:=C hr0_0
 have HC1_0:=C hc0_0
 (try clear hr0_0);(try clear hc0_0)
 have HR1_9:=C hr0_9
 have HC1_9:=C hc0_9
 (try clear hr0_9);(try clear hc0_9)
 have HR1_10:=C hr0_10
 have HC1_10:=C hc0_10
 (try clear hr0_10);(try clear hc0_10)
 have HB:=C (Below.refl w.heap.size w)
 have H:=h
 unfold laws_heldMachine.f at H
 clear h
 obtain⟨t1,A1,H⟩:=bnd H
 by_cases c1:t1<0
 ·rw[if_pos c1]at H
  replace c1:=decide_eq_true c1
  obtain rfl:=si H
  exact laws_heldMachine.W1
 rw[if_neg c1]at H
 replace c1:=decide_eq_false c1
 obtain⟨t2,A2,H⟩:=bnd H
 by_cases c2:t2<0
 ·rw[if_pos c2]at H
  replace c2:=decide_eq_true c2
  obtain rfl:=si H
  exact laws_heldMachine.W1
 rw[if_neg c2]at H
 replace c2:=decide_eq_false c2
 obtain rfl:=si H
 go_enter func23,ntmps23
 go_wp2_with (first|((with_reducible refine gate_dst (N:=2) rfl ?_);refine Fix.be 2 #[L A0_0 l0_0.length c0_0,V I a0_1,V I a0_2,V I a0_3,O a0_4,V I a0_5,O a0_6,V I a0_7,V I a0_8,L A0_9 l0_9.length c0_9,L A0_10 l0_10.length c0_10,V I a0_11,O a0_12,V I a0_13] 36 ?_;intro gb1 hg w1 BK1 hb;have GW1:=gE (w:=w) hg;replace HB:=eB hb;clear hb hg;have h_:=d14 BK1.out;(repeat(obtain⟨_,h_⟩:=h_)))|((with_reducible refine F (f:=79) rfl ?_);refine gl 79 (some 8) func79 #[L A0_0 l0_0.length c0_0,V I a1] ?_;(with_reducible refine(laws_heldJobS.calls k _ _ l0_0 a1 t1 _ ?side1 HC1_0.out A1.out).mono ?_);(case side1=>exact uZ HR1_0);rintro e w' ⟨rfl,⟨nd,rfl⟩⟩;refine⟨_,rfl,?_⟩)|((with_reducible refine F (f:=80) rfl ?_);refine gl 80 (some 14) func80 #[.agg #[V I a0_7,V I a0_8,L A0_9 l0_9.length c0_9,L A0_10 l0_10.length c0_10,V I a0_11,O a0_12],V I t1] ?_;(with_reducible refine(laws_heldLine.calls k a0_7 a0_8 _ _ l0_9 _ _ l0_10 a0_11 a0_12 t1 t2 _ ?side1 HC1_9.out ?side3 HC1_10.out A2.out).mono ?_);(case side1=>exact uC (Kd.C_below HR1_9.out uB));(case side3=>exact uC (Kd.C_below HR1_10.out uB));rintro e w2 ⟨rfl,hb⟩;refine⟨_,rfl,?_⟩;replace BK1:=eK BK1 hb;replace HB:=eB hb;clear hb))
 go_ret
 exact⟨rE,uB⟩
end Go.Proofs.Ytblceimapaenlaa.PFnExactDoAct
