/- Calls do what plain Lean functions say (FnPrinted). No condition. -/
import Derived.Test.YtaceidiookkocaaQFnPrinted0
namespace Go.Proofs.Ytaceidiookkocaa.PFnPrinted
open Go.RowKit Go.Proofs.YtaceidiookkocaaW.PrintWords Go.Proofs.YtaceidiookkocaaW.PrintLast Go.Proofs.YtaceidiookkocaaW.PrintMore
open Try
open Fix (b1 bA bK bN bnd d4 d6 dn1 eB eK eR fR fS gE gK gl gy nG nL nf nm np nt oL oT pj qm qn rE rS si tR uB uC uH uK uR uS)
open Go.Value renaming int→V,slice→L
open Go.IntKind renaming i64→I
open Go.Proofs.YtaceidiookkocaaW.PrintWords.Aside0 renaming mk→C
open Go.Proofs.YtaceidiookkocaaW.PrintWords renaming Aside0→D,gate_callee→F,gate_dst→J
open Go.Proofs.YtaceidiookkocaaW.PrintWords.Kd renaming R_mono→X,R_types→Y
attribute [local go_sem] max2_int min2_int max_two min_two max_three min_three max_four min_four
attribute [local go_sem] Fix.isSome_setCell
set_option linter.unusedVariables false
set_option maxHeartbeats 40000000
set_option maxRecDepth 100000
set_option linter.unusedSimpArgs false
def laws_big.f (l0:List Int):Option (Bool):=some (decide ((l0.length:Int) >1048576))
theorem laws_big.calls (A0:Option Addr) (c0:Nat) (l0:List Int) (r:Bool) (w:World) (hr0:Kd.C (Kd.int .u8) w A0 l0.length l0) (hc0:l0.length≤c0) (h:laws_big.f l0=some r):
 Calls prog 18 #[L A0 l0.length c0] w fun e w'=>e=.returned (.bool r)∧Drawn0 w w':=by
 have HR1:=C hr0
 have HC1:=C hc0
 (try clear hr0);(try clear hc0)
 have H:=h
 unfold laws_big.f at H
 clear h
 obtain rfl:=si H
 go_enter func18,ntmps18
 go_wp2
 go_ret
 exact⟨by first|rfl|(simp;done)|(simp[*];done),by repeat(first|exact Drawn0.refl _|apply Drawn0.step)⟩
def IsS89 (w0 W:World) (g:Nat) (f0:List Int) (f1:Int) (f2:Int):Prop:=∃A0 c0,W.heap[g]? =some (.cells #[L A0 f0.length c0,V I f1,V I f2] 89 (0,0))∧w0.heap.size≤g∧Kd.C (Kd.int .u8) w0 A0 f0.length f0
theorem IsS89.grown {w0 W:World} {g:Nat} {f0:List Int} {f1:Int} {f2:Int} {W1:World} {row:Option Nat} (h:IsS89 w0 W g f0 f1 f2) (hw:W.grownBy W1 row) (hne:some g≠row):IsS89 w0 W1 g f0 f1 f2:=by
 obtain⟨A0,c0,hb,hg,hr0⟩:=h
 exact⟨A0,c0,blk_grown hb hw hne,hg,hr0⟩
theorem IsS89.own_neN {w0 W:World} {g:Nat} {f0:List Int} {f1:Int} {f2:Int} {α:Type} {d:Kd α} {e:Nat} {base:Nat} {ok:Nat→Prop} {v:Value} {xs:List α} (h:IsS89 w0 W g f0 f1 f2) (ho:Kd.N d e W base ok v xs) (ht:e≠89):some g≠v.ownBlock:=by
 obtain⟨A0,c0,hb,hg,hr0⟩:=h
 exact Kd.N_ne ho hb ht
theorem IsS89.fresh {w0 W:World} {g:Nat} {f0:List Int} {f1:Int} {f2:Int} (h:IsS89 w0 W g f0 f1 f2):∀k,W.heap.size≤k→k≠g:=by
 obtain⟨A0,c0,hb,hg,hr0⟩:=h
 exact Kd.freshB hb
theorem IsS89.kept {w0 W:World} {g:Nat} {f0:List Int} {f1:Int} {f2:Int} {W1:World} {S:Nat→Prop} (h:IsS89 w0 W g f0 f1 f2) (hk:Kept W W1 S) (hne:¬S g):IsS89 w0 W1 g f0 f1 f2:=by
 obtain⟨A0,c0,hb,hg,hr0⟩:=h
 exact⟨A0,c0,blk_kept hb hk hne,hg,hr0⟩
theorem IsS89.below {w0 W:World} {g:Nat} {f0:List Int} {f1:Int} {f2:Int} {W1:World} (h:IsS89 w0 W g f0 f1 f2) (hw:Below W.heap.size W W1):IsS89 w0 W1 g f0 f1 f2:=h.grown (grown_of_below hw none) (by simp)
theorem IsS89.alloc {w0 W:World} {g:Nat} {f0:List Int} {f1:Int} {f2:Int} (h:IsS89 w0 W g f0 f1 f2) (o:Obj):IsS89 w0 (W.alloc o) g f0 f1 f2:=h.below (below_alloc (Below.refl _ _) o)
theorem IsS89.drewN {w0 W:World} {g:Nat} {f0:List Int} {f1:Int} {f2:Int} (h:IsS89 w0 W g f0 f1 f2) (m:Nat):IsS89 w0 (W.drewN m) g f0 f1 f2:=h
theorem IsS89.drew {w0 W:World} {g:Nat} {f0:List Int} {f1:Int} {f2:Int} (h:IsS89 w0 W g f0 f1 f2):IsS89 w0 W.drew g f0 f1 f2:=h
theorem IsS89.at_ {w0 W:World} {g:Nat} {f0:List Int} {f1:Int} {f2:Int} {w':World} {m:Nat} (hq:W.drewN m=w') (h:IsS89 w0 W g f0 f1 f2):IsS89 w0 w' g f0 f1 f2:=by subst hq;exact IsS89.drewN h m
theorem IsS89.apart {w0 W:World} {g:Nat} {f0:List Int} {f1:Int} {f2:Int} {α:Type} {d:Kd α} {e:Nat} {base:Nat} {ok:Nat→Prop} {v:Value} {xs:List α} (h:IsS89 w0 W g f0 f1 f2) (ho:d.R e W base ok v xs) (ht:∀q,q ∈ e::d.E→q≠89):d.R e W base (fun k=>ok k∧k≠g) v xs:=by
 obtain⟨A0,c0,hb,hg,hr0⟩:=h
 exact Y ho hb ht
theorem IsS89.own_ne {w0 W:World} {g:Nat} {f0:List Int} {f1:Int} {f2:Int} {α:Type} {d:Kd α} {e:Nat} {base:Nat} {ok:Nat→Prop} {v:Value} {xs:List α} (h:IsS89 w0 W g f0 f1 f2) (ho:d.R e W base ok v xs) (ht:e≠89):some g≠v.ownBlock:=by
 obtain⟨A0,c0,hb,hg,hr0⟩:=h
 exact Kd.R_ne ho hb ht
theorem IsS89.apartQ {w0 W:World} {g:Nat} {f0:List Int} {f1:Int} {f2:Int} {α:Type} {d:Kd α} {e:Nat} {base:Nat} {ok:Nat→Prop} {v:Value} {xs:List α} (h:IsS89 w0 W g f0 f1 f2) (ho:d.Q e W base ok v xs) (ht:∀q,q ∈ e::d.E→q≠89):d.Q e W base (fun k=>ok k∧k≠g) v xs:=by
 obtain⟨A0,c0,hb,hg,hr0⟩:=h
 exact Kd.Q_types ho hb ht
theorem IsS89.own_neQ {w0 W:World} {g:Nat} {f0:List Int} {f1:Int} {f2:Int} {α:Type} {d:Kd α} {e:Nat} {base:Nat} {ok:Nat→Prop} {v:Value} {xs:List α} (h:IsS89 w0 W g f0 f1 f2) (ho:d.Q e W base ok v xs) (ht:e≠89):some g≠v.ownBlock:=by
 obtain⟨A0,c0,hb,hg,hr0⟩:=h
 exact Kd.Q_ne ho hb ht
theorem IsS89.apartS {w0 W:World} {g:Nat} {f0:List Int} {f1:Int} {f2:Int} {α:Type} {d:Kd α} {e:Nat} {base:Nat} {ok:Nat→Prop} {v:Value} {xs:List α} (h:IsS89 w0 W g f0 f1 f2) (ho:d.S e W base ok v xs) (ht:∀q,q ∈ e::d.E→q≠89):d.S e W base (fun k=>ok k∧k≠g) v xs:=by
 obtain⟨A0,c0,hb,hg,hr0⟩:=h
 exact Kd.S_types ho hb ht
theorem IsS89.own_neS {w0 W:World} {g:Nat} {f0:List Int} {f1:Int} {f2:Int} {α:Type} {d:Kd α} {e:Nat} {base:Nat} {ok:Nat→Prop} {v:Value} {xs:List α} (h:IsS89 w0 W g f0 f1 f2) (ho:d.S e W base ok v xs) (ht:e≠89):some g≠v.ownBlock:=by
 obtain⟨A0,c0,hb,hg,hr0⟩:=h
 exact Kd.S_ne ho hb ht
theorem IsS89.lt {w0 W:World} {g:Nat} {f0:List Int} {f1:Int} {f2:Int} (h:IsS89 w0 W g f0 f1 f2):g<W.heap.size:=by
 obtain⟨A0,c0,hb,hg,hr0⟩:=h
 exact blk_lt hb
theorem IsS89.ge {w0 W:World} {g:Nat} {f0:List Int} {f1:Int} {f2:Int} (h:IsS89 w0 W g f0 f1 f2):w0.heap.size≤g:=by
 obtain⟨A0,c0,hb,hg,hr0⟩:=h
 exact hg
theorem IsS89.ne_blk {w0 W:World} {g:Nat} {f0:List Int} {f1:Int} {f2:Int} {a:Nat} {cs:Array Value} {t:TypeId} {fr:Nat×Nat} (h:IsS89 w0 W g f0 f1 f2) (hb2:W.heap[a]? =some (.cells cs t fr)) (ht:t≠89):g≠a:=by
 obtain⟨A0,c0,hb,hg,hr0⟩:=h
 rintro rfl
 rw[hb]at hb2
 injection hb2 with hb2
 injection hb2 with _ ht2
 exact ht ht2.symm
theorem IsS89.far {w0 W:World} {g:Nat} {f0:List Int} {f1:Int} {f2:Int} {p:Addr} (h:IsS89 w0 W g f0 f1 f2) (hne:g≠p.block) (u:Value):IsS89 w0 (W.setCell p u) g f0 f1 f2:=by
 obtain⟨A0,c0,hb,hg,hr0⟩:=h
 exact⟨A0,c0,blk_far hb hne u,hg,hr0⟩
theorem cellS89_0 {W:World} {g:Nat} {A0:Option Addr} {c0:Nat} {f0:List Int} {f1:Int} {f2:Int} (h:W.heap[g]? =some (.cells #[L A0 f0.length c0,V I f1,V I f2] 89 (0,0))):W.cell? ⟨g,0,none⟩=some (L A0 f0.length c0):=(blk_cell h 0).trans rfl
theorem cellS89_1 {W:World} {g:Nat} {A0:Option Addr} {c0:Nat} {f0:List Int} {f1:Int} {f2:Int} (h:W.heap[g]? =some (.cells #[L A0 f0.length c0,V I f1,V I f2] 89 (0,0))):W.cell? ⟨g,1,none⟩=some (V I f1):=(blk_cell h 1).trans rfl
theorem IsS89.set_1 {w0 W:World} {g:Nat} {f0:List Int} {f1:Int} {f2:Int} (h:IsS89 w0 W g f0 f1 f2) (x:Int):IsS89 w0 (W.setCell ⟨g,1,none⟩ (V I x)) g f0 x f2:=by
 obtain⟨A0,c0,hb,hg,hr0⟩:=h
 exact⟨A0,c0,by simpa using blk_set hb 1 (V I x),hg,hr0⟩
theorem cellS89_2 {W:World} {g:Nat} {A0:Option Addr} {c0:Nat} {f0:List Int} {f1:Int} {f2:Int} (h:W.heap[g]? =some (.cells #[L A0 f0.length c0,V I f1,V I f2] 89 (0,0))):W.cell? ⟨g,2,none⟩=some (V I f2):=(blk_cell h 2).trans rfl
theorem IsS89.set_2 {w0 W:World} {g:Nat} {f0:List Int} {f1:Int} {f2:Int} (h:IsS89 w0 W g f0 f1 f2) (x:Int):IsS89 w0 (W.setCell ⟨g,2,none⟩ (V I x)) g f0 f1 x:=by
 obtain⟨A0,c0,hb,hg,hr0⟩:=h
 exact⟨A0,c0,by simpa using blk_set hb 2 (V I x),hg,hr0⟩
theorem IsS89.new (w0 W:World) (A0:Option Addr) (c0:Nat) (f0:List Int) (f1:Int) (f2:Int) (hB:Below w0.heap.size w0 W) (hr0:Kd.C (Kd.int .u8) w0 A0 f0.length f0):IsS89 w0 (W.alloc (.cells #[L A0 f0.length c0,V I f1,V I f2] 89)) W.heap.size f0 f1 f2:=⟨A0,c0,by simpa using heap_alloc_new W _,hB.size,hr0⟩
def spec_l01New.l0:Nat→List Int→Int→Int→Option (List Int×Int×Int)
 |0,_,_,_=>none
 |k+1,x0,x3,x4=>if x4<(x0.length:Int) then(if x4<4000 then(if 0≤x4 then(spec_l01New.l0 k x0 (Go.bits .and .i64 (wrap64 ((wrap64 ((wrap64 (x3 * 131))+(wrap64 (rd x0 x4))))+7)) 1073741823) (wrap64 (x4+1))) else(none)) else(some (x0,0,x3))) else(some (x0,0,x3))
def spec_l01New.f (k:Nat) (l0:List Int):Option (List Int×Int×Int):=spec_l01New.l0 k l0 (wrap64 (98729+(l0.length:Int))) 0
theorem spec_l01New.W1 {p:Prop} (h:p:=by
 go_wp2_with (first|((with_reducible refine J (N:=31) rfl ?_);refine Fix.be 31 #[L A0 l0.length c0,V I 0,V I x1_1] 89 ?_;intro gb1 hg w1 BK1 hb;have GW1:=C ((by rw[hg];exact(below_size (by repeat(first|(with_reducible first|exact HBW.out|apply bA|apply bN|apply b1)|exact HBW.out))):w.heap.size≤gb1));have GE1:=C ((Nat.le_trans HW1.out (by rw[hg];exact(below_size (by repeat(first|(with_reducible first|exact HBW.out|apply bA|apply bN|apply b1)|exact HBW.out))):w.heap.size≤gb1):w0.heap.size≤gb1));replace HBW:=C (below_step HBW.out hb);replace HB:=eB hb;clear hb hg))
 go_ret
 exact⟨_,rfl,(show IsS89 w0 _ gb1 l0 0 x1_1 from⟨_,_,by exact bK BK1.out,GE1.out,HR1.out⟩),uB,by repeat(first|(with_reducible first|exact HBW.out|apply bA|apply bN|apply b1|refine below_set ?_ GW1.out)|exact HBW.out)⟩):p:=h
theorem spec_l01New.calls (k:Nat) (A0:Option Addr) (c0:Nat) (l0:List Int) (r1:List Int) (r2:Int) (r3:Int) (w0 w:World) (hB:Below w0.heap.size w0 w) (hr0:Kd.C (Kd.int .u8) w0 A0 l0.length l0) (hc0:l0.length≤c0) (h:spec_l01New.f k l0=some (r1,r2,r3)):
 Calls prog 42 #[L A0 l0.length c0] w fun e w'=>∃g_:Nat,e=.returned (.pointer (some ⟨g_,0,none⟩))∧IsS89 w0 w' g_ r1 r2 r3∧Below w0.heap.size w0 w'∧Below w.heap.size w w':=by
 have hu1:=underlying89
 have HR1:=C hr0
 have HC1:=C hc0
 (try clear hr0);(try clear hc0)
 have HBW:=C (Below.refl w.heap.size w)
 have HW1:=C hB.size
 have HB:=C hB
 clear hB
 have H:=h
 unfold spec_l01New.f at H
 clear h
 have H':=C H
 clear H
 go_enter func42,ntmps42
 go_wp2
 go_loopg [3,4] k (fun kq v3 v4 w'=>∃(x1_1:Int) (x2_1:Int),v3=V I x1_1∧v4=V I x2_1∧D (spec_l01New.l0 kq l0 x1_1 x2_1=some (r1,r2,r3))∧D (kq≤k)∧D (Below w0.heap.size w0 w')∧D (Below w.heap.size w w'))
 case atStart=>exact⟨(wrap64 (98729+(l0.length:Int))),(0),rS,rS,H',⟨Nat.le_refl _⟩,⟨uB⟩,⟨by repeat(first|(with_reducible first|exact HBW.out|apply bA|apply bN|apply b1)|exact HBW.out)⟩⟩
 case round=>
  clear H'
  obtain⟨x1_1,x2_1,rfl,rfl,HA,HK1,HB,HBW⟩:=hrel
  cases gk with
  |zero=>exact absurd HA.out (by simp[spec_l01New.l0])
  |succ k1=>
   have H:=HA.out
   clear HA
   simp only[spec_l01New.l0]at H
   by_cases c1:x2_1<(l0.length:Int)
   rotate_left
   ·rw[if_neg c1]at H
    replace c1:=decide_eq_false c1
    simp only[Option.some.injEq,Prod.mk.injEq]at H
    obtain⟨rfl,rfl,rfl⟩:=H
    exact spec_l01New.W1
   rw[if_pos c1]at H
   replace c1:=decide_eq_true c1
   by_cases c2:x2_1<4000
   rotate_left
   ·rw[if_neg c2]at H
    replace c2:=decide_eq_false c2
    simp only[Option.some.injEq,Prod.mk.injEq]at H
    obtain⟨rfl,rfl,rfl⟩:=H
    exact spec_l01New.W1
   rw[if_pos c2]at H
   replace c2:=decide_eq_true c2
   obtain⟨c3,H⟩:=np H
   replace c3:=decide_eq_true c3
   have H':=C H
   clear H
   have p1:0≤(x2_1:Int):=oT
   have q1:x2_1<(l0.length:Int):=oT
   obtain⟨ad1,e1,hx1_0⟩:=Kd.at_int HR1.out x2_1 p1 q1
   cases e1
   replace hx1_0:=pw_cell_below HB.out hx1_0
   replace p1:=eq_true p1
   replace q1:=eq_true q1
   go_wp2
   go_roundg k1
   case measure=>have:=HK1.out;omega
   case rel=>exact⟨(Go.bits .and .i64 (wrap64 ((wrap64 ((wrap64 (x1_1 * 131))+(wrap64 (rd l0 x2_1))))+7)) 1073741823),(wrap64 (x2_1+1)),rS,rS,H',⟨by have:=HK1.out;omega⟩,⟨uB⟩,⟨by repeat(first|(with_reducible first|exact HBW.out|apply bA|apply bN|apply b1)|exact HBW.out)⟩⟩
def spec_l01Byte.f (s0_0:List Int) (s0_1:Int) (s0_2:Int):Option (Int×Int×Int):=if s0_1<(s0_0.length:Int) then(if 0≤s0_1 then(some (Go.bits .and .i64 (wrap64 ((Go.bits .and .i64 (Go.bits .xor .i64 ((wrap64 ((wrap64 (s0_2 * 6364136223846793005))+1442695040888963407)) / 8589934592) ((wrap64 ((wrap64 (s0_2 * 6364136223846793005))+1442695040888963407)) / 35184372088832)) 255)+(wrap64 (rd s0_0 s0_1)))) 255,wrap64 (s0_1+1),wrap64 ((wrap64 (s0_2 * 6364136223846793005))+1442695040888963407))) else(none)) else(some (Go.bits .and .i64 (Go.bits .xor .i64 ((wrap64 ((wrap64 (s0_2 * 6364136223846793005))+1442695040888963407)) / 8589934592) ((wrap64 ((wrap64 (s0_2 * 6364136223846793005))+1442695040888963407)) / 35184372088832)) 255,s0_1,wrap64 ((wrap64 (s0_2 * 6364136223846793005))+1442695040888963407)))
theorem spec_l01Byte.W1 {p:Prop} (h:p:=by
 go_enter func96,ntmps96
 go_wp2
 repeat(go_quiet (fail);try go_wp2)
 go_ret
 exact⟨rE,by repeat(first|(with_reducible first|exact HI1.out|apply IsS89.alloc|apply IsS89.drewN|apply IsS89.drew|apply IsS89.set_1|apply IsS89.set_2)|exact HI1.out),by repeat(first|(with_reducible first|exact HB.out|apply bA|apply bN|apply b1|refine below_set ?_ (IsS89.ge HI1.out))|exact HB.out),uH⟩):p:=h
theorem spec_l01Byte.calls (g:Nat) (s0_0:List Int) (s0_1:Int) (s0_2:Int) (r1:Int) (r2:Int) (r3:Int) (w0 w:World) (hI:IsS89 w0 w g s0_0 s0_1 s0_2) (hB:Below w0.heap.size w0 w) (h:spec_l01Byte.f s0_0 s0_1 s0_2=some (r1,r2,r3)):
 Calls prog 96 #[.pointer (some ⟨g,0,none⟩)] w fun e w'=>e=.returned (V I r1)∧IsS89 w0 w' g s0_0 r2 r3∧Below w0.heap.size w0 w'∧KeepBut w w' g none:=by
 have HI1:=C hI
 have HK:=C (KeepBut.refl w g none)
 have HL:=C hB.size
 clear hI
 have HW1:=C hB.size
 have HB:=C hB
 clear hB
 have H:=h
 unfold spec_l01Byte.f at H
 clear h
 by_cases c1:s0_1<(s0_0.length:Int)
 rotate_left
 ·rw[if_neg c1]at H
  replace c1:=decide_eq_false c1
  simp only[Option.some.injEq,Prod.mk.injEq]at H
  obtain⟨rfl,rfl,rfl⟩:=H
  obtain⟨ASz1_0,cSz1_0,HGz1,hgz1,HSz1_0⟩:=HI1.out
  have hcz1_0:=cellS89_0 HGz1
  have hcz1_1:=cellS89_1 HGz1
  have hcz1_2:=cellS89_2 HGz1
  have hfz1_1:=blk_frozen HGz1 1
  have hfz1_2:=blk_frozen HGz1 2
  clear HGz1 hgz1
  exact spec_l01Byte.W1
 rw[if_pos c1]at H
 replace c1:=decide_eq_true c1
 obtain⟨c2,H⟩:=np H
 replace c2:=decide_eq_true c2
 simp only[Option.some.injEq,Prod.mk.injEq]at H
 obtain⟨rfl,rfl,rfl⟩:=H
 obtain⟨ASz1_0,cSz1_0,HGz1,hgz1,HSz1_0⟩:=HI1.out
 have hcz1_0:=cellS89_0 HGz1
 have hcz1_1:=cellS89_1 HGz1
 have hcz1_2:=cellS89_2 HGz1
 have hfz1_1:=blk_frozen HGz1 1
 have hfz1_2:=blk_frozen HGz1 2
 clear HGz1 hgz1
 have p1:0≤(s0_1:Int):=oT
 have q1:s0_1<(s0_0.length:Int):=oT
 obtain⟨ad1,e1,hx1_0⟩:=Kd.at_int HSz1_0 s0_1 p1 q1
 cases e1
 have hn1_0:ad1.block≠g:=Nat.ne_of_lt (Nat.lt_of_lt_of_le (by have:=World.block_lt_of_cell? _ _ hx1_0;first|rwa [add_block]at this|exact this) (IsS89.ge HI1.out))
 replace hx1_0:=pw_cell_below HB.out hx1_0
 replace hx1_0:=(cell_far (p:=⟨g,2,none⟩) (nm hn1_0) (V I (wrap64 ((wrap64 (s0_2 * 6364136223846793005))+1442695040888963407)))).trans hx1_0
 (try have hy1_0:=dn1 hx1_0)
 clear hn1_0
 replace p1:=eq_true p1
 replace q1:=eq_true q1
 exact spec_l01Byte.W1
def spec_l01Below.f (s0_0:List Int) (s0_1:Int) (s0_2:Int) (a1:Int):Option (Int×Int×Int):=if a1≤0 then(some (0,s0_1,s0_2)) else(if a1≤256 then((spec_l01Byte.f s0_0 s0_1 s0_2).bind fun bt105=>(if a1=0 then(none) else(some (Int.tmod bt105.1 a1,bt105.2.1,bt105.2.2)))) else((spec_l01Byte.f s0_0 s0_1 s0_2).bind fun bt108=>((spec_l01Byte.f s0_0 bt108.2.1 bt108.2.2).bind fun bt111=>((spec_l01Byte.f s0_0 bt111.2.1 bt111.2.2).bind fun bt114=>((spec_l01Byte.f s0_0 bt114.2.1 bt114.2.2).bind fun bt117=>(if a1=0 then(none) else(some (Int.tmod (wrap64 ((wrap64 ((wrap64 ((wrap64 (bt108.1 * 16777216))+(wrap64 (bt111.1 * 65536))))+(wrap64 (bt114.1 * 256))))+bt117.1)) a1,bt117.2.1,bt117.2.2))))))))
theorem spec_l01Below.calls (g:Nat) (s0_0:List Int) (s0_1:Int) (s0_2:Int) (a1:Int) (r1:Int) (r2:Int) (r3:Int) (w0 w:World) (hI:IsS89 w0 w g s0_0 s0_1 s0_2) (hB:Below w0.heap.size w0 w) (h:spec_l01Below.f s0_0 s0_1 s0_2 a1=some (r1,r2,r3)):
 Calls prog 73 #[.pointer (some ⟨g,0,none⟩),V I a1] w fun e w'=>e=.returned (V I r1)∧IsS89 w0 w' g s0_0 r2 r3∧Below w0.heap.size w0 w'∧KeepBut w w' g none:=by
 have HI1:=C hI
 have HK:=C (KeepBut.refl w g none)
 have HL:=C hB.size
 clear hI
 have HW1:=C hB.size
 have HB:=C hB
 clear hB
 have H:=h
 unfold spec_l01Below.f at H
 clear h
 by_cases c1:a1≤0
 ·rw[if_pos c1]at H
  replace c1:=decide_eq_true c1
  simp only[Option.some.injEq,Prod.mk.injEq]at H
  obtain⟨rfl,rfl,rfl⟩:=H
  go_enter func73,ntmps73
  go_wp2
  go_ret
  exact⟨rE,by repeat(first|(with_reducible first|exact HI1.out|apply IsS89.alloc|apply IsS89.drewN|apply IsS89.drew|apply IsS89.set_1|apply IsS89.set_2)|exact HI1.out),by repeat(first|(with_reducible first|exact HB.out|apply bA|apply bN|apply b1|refine below_set ?_ (IsS89.ge HI1.out))|exact HB.out),uH⟩
 rw[if_neg c1]at H
 replace c1:=decide_eq_false c1
 by_cases c2:a1≤256
 ·rw[if_pos c2]at H
  replace c2:=decide_eq_true c2
  obtain⟨⟨t1,t2,t3⟩,A1,H⟩:=bnd H
  dsimp only at H
  by_cases c3:a1=0
  ·rw[if_pos c3]at H
   exact absurd H (by simp)
  rw[if_neg c3]at H
  have c3b0:(a1==0)=false:=beq_eq_false_iff_ne.mpr c3
  have c3b1:(a1 !=0)=true:=bne_iff_ne.mpr c3
  simp only[Option.some.injEq,Prod.mk.injEq]at H
  obtain⟨rfl,rfl,rfl⟩:=H
  go_enter func73,ntmps73
  go_wp2_with (first|((with_reducible refine F (f:=96) rfl ?_);refine gl 96 (some 14) func96 #[.pointer (some ⟨g,0,none⟩)] ?_;(with_reducible refine(spec_l01Byte.calls g s0_0 s0_1 s0_2 t1 t2 t3 w0 _ ?side1 ?side2 A1.out).mono ?_);(case side1=>repeat(first|(with_reducible first|exact HI1.out|apply IsS89.alloc|apply IsS89.drewN|apply IsS89.drew|apply IsS89.set_1|apply IsS89.set_2)|exact HI1.out));(case side2=>repeat(first|(with_reducible first|exact HB.out|apply bA|apply bN|apply b1|refine below_set ?_ (IsS89.ge HI1.out))|exact HB.out));rintro e w1 ⟨rfl,hi,hb,hk⟩;refine⟨_,rfl,?_⟩;replace HK:=C (KeepBut.trans (show KeepBut w _ _ _ from uH) hk (.inl rfl));replace HB:=C (hb);replace HI1:=C (hi);clear hb hi hk))
  go_ret
  exact⟨rE,by repeat(first|(with_reducible first|exact HI1.out|apply IsS89.alloc|apply IsS89.drewN|apply IsS89.drew|apply IsS89.set_1|apply IsS89.set_2)|exact HI1.out),by repeat(first|(with_reducible first|exact HB.out|apply bA|apply bN|apply b1|refine below_set ?_ (IsS89.ge HI1.out))|exact HB.out),uH⟩
 rw[if_neg c2]at H
 replace c2:=decide_eq_false c2
 obtain⟨⟨t1,t2,t3⟩,A1,H⟩:=bnd H
 dsimp only at H
 obtain⟨⟨t4,t5,t6⟩,A2,H⟩:=bnd H
 dsimp only at H
 obtain⟨⟨t7,t8,t9⟩,A3,H⟩:=bnd H
 dsimp only at H
 obtain⟨⟨t10,t11,t12⟩,A4,H⟩:=bnd H
 dsimp only at H
 by_cases c3:a1=0
 ·rw[if_pos c3]at H
  exact absurd H (by simp)
 rw[if_neg c3]at H
 have c3b0:(a1==0)=false:=beq_eq_false_iff_ne.mpr c3
 have c3b1:(a1 !=0)=true:=bne_iff_ne.mpr c3
 simp only[Option.some.injEq,Prod.mk.injEq]at H
 obtain⟨rfl,rfl,rfl⟩:=H
 go_enter func73,ntmps73
 go_wp2_with (first|((with_reducible refine F (f:=96) rfl ?_);refine gl 96 (some 18) func96 #[.pointer (some ⟨g,0,none⟩)] ?_;(with_reducible refine(spec_l01Byte.calls g s0_0 s0_1 s0_2 t1 t2 t3 w0 _ ?side1 ?side2 A1.out).mono ?_);(case side1=>repeat(first|(with_reducible first|exact HI1.out|apply IsS89.alloc|apply IsS89.drewN|apply IsS89.drew|apply IsS89.set_1|apply IsS89.set_2)|exact HI1.out));(case side2=>repeat(first|(with_reducible first|exact HB.out|apply bA|apply bN|apply b1|refine below_set ?_ (IsS89.ge HI1.out))|exact HB.out));rintro e w1 ⟨rfl,hi,hb,hk⟩;refine⟨_,rfl,?_⟩;replace HK:=C (KeepBut.trans (show KeepBut w _ _ _ from uH) hk (.inl rfl));replace HB:=C (hb);replace HI1:=C (hi);clear hb hi hk)|((with_reducible refine F (f:=96) rfl ?_);refine gl 96 (some 20) func96 #[.pointer (some ⟨g,0,none⟩)] ?_;(with_reducible refine(spec_l01Byte.calls g s0_0 t2 t3 t4 t5 t6 w0 _ ?side1 ?side2 A2.out).mono ?_);(case side1=>repeat(first|(with_reducible first|exact HI1.out|apply IsS89.alloc|apply IsS89.drewN|apply IsS89.drew|apply IsS89.set_1|apply IsS89.set_2)|exact HI1.out));(case side2=>repeat(first|(with_reducible first|exact HB.out|apply bA|apply bN|apply b1|refine below_set ?_ (IsS89.ge HI1.out))|exact HB.out));rintro e w2 ⟨rfl,hi,hb,hk⟩;refine⟨_,rfl,?_⟩;replace HK:=C (KeepBut.trans (show KeepBut w _ _ _ from uH) hk (.inl rfl));replace HB:=C (hb);replace HI1:=C (hi);clear hb hi hk)|((with_reducible refine F (f:=96) rfl ?_);refine gl 96 (some 22) func96 #[.pointer (some ⟨g,0,none⟩)] ?_;(with_reducible refine(spec_l01Byte.calls g s0_0 t5 t6 t7 t8 t9 w0 _ ?side1 ?side2 A3.out).mono ?_);(case side1=>repeat(first|(with_reducible first|exact HI1.out|apply IsS89.alloc|apply IsS89.drewN|apply IsS89.drew|apply IsS89.set_1|apply IsS89.set_2)|exact HI1.out));(case side2=>repeat(first|(with_reducible first|exact HB.out|apply bA|apply bN|apply b1|refine below_set ?_ (IsS89.ge HI1.out))|exact HB.out));rintro e w3 ⟨rfl,hi,hb,hk⟩;refine⟨_,rfl,?_⟩;replace HK:=C (KeepBut.trans (show KeepBut w _ _ _ from uH) hk (.inl rfl));replace HB:=C (hb);replace HI1:=C (hi);clear hb hi hk)|((with_reducible refine F (f:=96) rfl ?_);refine gl 96 (some 24) func96 #[.pointer (some ⟨g,0,none⟩)] ?_;(with_reducible refine(spec_l01Byte.calls g s0_0 t8 t9 t10 t11 t12 w0 _ ?side1 ?side2 A4.out).mono ?_);(case side1=>repeat(first|(with_reducible first|exact HI1.out|apply IsS89.alloc|apply IsS89.drewN|apply IsS89.drew|apply IsS89.set_1|apply IsS89.set_2)|exact HI1.out));(case side2=>repeat(first|(with_reducible first|exact HB.out|apply bA|apply bN|apply b1|refine below_set ?_ (IsS89.ge HI1.out))|exact HB.out));rintro e w4 ⟨rfl,hi,hb,hk⟩;refine⟨_,rfl,?_⟩;replace HK:=C (KeepBut.trans (show KeepBut w _ _ _ from uH) hk (.inl rfl));replace HB:=C (hb);replace HI1:=C (hi);clear hb hi hk))
 go_ret
 exact⟨rE,by repeat(first|(with_reducible first|exact HI1.out|apply IsS89.alloc|apply IsS89.drewN|apply IsS89.drew|apply IsS89.set_1|apply IsS89.set_2)|exact HI1.out),by repeat(first|(with_reducible first|exact HB.out|apply bA|apply bN|apply b1|refine below_set ?_ (IsS89.ge HI1.out))|exact HB.out),uH⟩
def spec_l01Once.f (s0_0:List Int) (s0_1:Int) (s0_2:Int) (a1:Int):Option (Bool×Int×Int):=(spec_l01Below.f s0_0 s0_1 s0_2 a1).bind fun bt120=>(some ((bt120.1==0),bt120.2.1,bt120.2.2))
theorem spec_l01Once.calls (g:Nat) (s0_0:List Int) (s0_1:Int) (s0_2:Int) (a1:Int) (r1:Bool) (r2:Int) (r3:Int) (w0 w:World) (hI:IsS89 w0 w g s0_0 s0_1 s0_2) (hB:Below w0.heap.size w0 w) (h:spec_l01Once.f s0_0 s0_1 s0_2 a1=some (r1,r2,r3)):
 Calls prog 74 #[.pointer (some ⟨g,0,none⟩),V I a1] w fun e w'=>e=.returned (.bool r1)∧IsS89 w0 w' g s0_0 r2 r3∧Below w0.heap.size w0 w'∧KeepBut w w' g none:=by
 have HI1:=C hI
 have HK:=C (KeepBut.refl w g none)
 have HL:=C hB.size
 clear hI
 have HW1:=C hB.size
 have HB:=C hB
 clear hB
 have H:=h
 unfold spec_l01Once.f at H
 clear h
 obtain⟨⟨t1,t2,t3⟩,A1,H⟩:=bnd H
 dsimp only at H
 simp only[Option.some.injEq,Prod.mk.injEq]at H
 obtain⟨rfl,rfl,rfl⟩:=H
 go_enter func74,ntmps74
 go_wp2_with (first|((with_reducible refine F (f:=73) rfl ?_);refine gl 73 (some 7) func73 #[.pointer (some ⟨g,0,none⟩),V I a1] ?_;(with_reducible refine(spec_l01Below.calls g s0_0 s0_1 s0_2 a1 t1 t2 t3 w0 _ ?side1 ?side2 A1.out).mono ?_);(case side1=>repeat(first|(with_reducible first|exact HI1.out|apply IsS89.alloc|apply IsS89.drewN|apply IsS89.drew|apply IsS89.set_1|apply IsS89.set_2)|exact HI1.out));(case side2=>repeat(first|(with_reducible first|exact HB.out|apply bA|apply bN|apply b1|refine below_set ?_ (IsS89.ge HI1.out))|exact HB.out));rintro e w1 ⟨rfl,hi,hb,hk⟩;refine⟨_,rfl,?_⟩;replace HK:=C (KeepBut.trans (show KeepBut w _ _ _ from uH) hk (.inl rfl));replace HB:=C (hb);replace HI1:=C (hi);clear hb hi hk))
 go_ret
 exact⟨rE,by repeat(first|(with_reducible first|exact HI1.out|apply IsS89.alloc|apply IsS89.drewN|apply IsS89.drew|apply IsS89.set_1|apply IsS89.set_2)|exact HI1.out),by repeat(first|(with_reducible first|exact HB.out|apply bA|apply bN|apply b1|refine below_set ?_ (IsS89.ge HI1.out))|exact HB.out),uH⟩
def spec_l01PickInt.f (s0_0:List Int) (s0_1:Int) (s0_2:Int) (l1:List Int):Option (Int×Int×Int):=(spec_l01Below.f s0_0 s0_1 s0_2 (l1.length:Int)).bind fun bt123=>(if 0≤bt123.1 then(if bt123.1<(l1.length:Int) then(some (rd l1 bt123.1,bt123.2.1,bt123.2.2)) else(none)) else(none))
theorem spec_l01PickInt.calls (g:Nat) (s0_0:List Int) (s0_1:Int) (s0_2:Int) (A1:Option Addr) (c1:Nat) (l1:List Int) (r1:Int) (r2:Int) (r3:Int) (w0 w:World) (hI:IsS89 w0 w g s0_0 s0_1 s0_2) (hB:Below w0.heap.size w0 w) (hr1:Kd.C (Kd.int .i64) w A1 l1.length l1) (hc1:l1.length≤c1) (hf1:∀ad,A1=some ad→0<l1.length→ad.block≠g) (h:spec_l01PickInt.f s0_0 s0_1 s0_2 l1=some (r1,r2,r3)):
 Calls prog 75 #[.pointer (some ⟨g,0,none⟩),L A1 l1.length c1] w fun e w'=>e=.returned (V I r1)∧IsS89 w0 w' g s0_0 r2 r3∧Below w0.heap.size w0 w'∧KeepBut w w' g none:=by
 have HR1:=C hr1
 have HC1:=C hc1
 (try clear hr1);(try clear hc1)
 have HI1:=C hI
 have HK:=C (KeepBut.refl w g none)
 have HL:=C hB.size
 clear hI
 have HW1:=C hB.size
 have HB:=C hB
 clear hB
 have H:=h
 unfold spec_l01PickInt.f at H
 clear h
 obtain⟨⟨t1,t2,t3⟩,A1,H⟩:=bnd H
 dsimp only at H
 obtain⟨c1,H⟩:=np H
 replace c1:=decide_eq_true c1
 obtain⟨c2,H⟩:=np H
 replace c2:=decide_eq_true c2
 simp only[Option.some.injEq,Prod.mk.injEq]at H
 obtain⟨rfl,rfl,rfl⟩:=H
 go_enter func75,ntmps75
 go_wp2_with (first|((with_reducible refine F (f:=73) rfl ?_);refine gl 73 (some 9) func73 #[.pointer (some ⟨g,0,none⟩),V I (l1.length:Int)] ?_;(with_reducible refine(spec_l01Below.calls g s0_0 s0_1 s0_2 (l1.length:Int) t1 t2 t3 w0 _ ?side1 ?side2 A1.out).mono ?_);(case side1=>repeat(first|(with_reducible first|exact HI1.out|apply IsS89.alloc|apply IsS89.drewN|apply IsS89.drew|apply IsS89.set_1|apply IsS89.set_2)|exact HI1.out));(case side2=>repeat(first|(with_reducible first|exact HB.out|apply bA|apply bN|apply b1|refine below_set ?_ (IsS89.ge HI1.out))|exact HB.out));rintro e w1 ⟨rfl,hi,hb,hk⟩;refine⟨_,rfl,?_⟩;replace HK:=C (KeepBut.trans (show KeepBut w _ _ _ from uH) hk (.inl rfl));replace HB:=C (hb);replace HI1:=C (hi);clear hb hi hk;have p1:0≤(t1:Int):=oT;have q1:t1<(l1.length:Int):=oT;obtain⟨ad1,e1,hx1_0⟩:=Kd.at_int HR1.out t1 p1 q1;cases e1;replace hx1_0:=keep_cell HK.out hx1_0 (by first|(rw[add_block];exact hf1 _ rfl (by omega))|exact hf1 _ rfl (by omega)|exact hf1 ad1 rfl (by omega));replace p1:=eq_true p1;replace q1:=eq_true q1))
 go_ret
 exact⟨rE,by repeat(first|(with_reducible first|exact HI1.out|apply IsS89.alloc|apply IsS89.drewN|apply IsS89.drew|apply IsS89.set_1|apply IsS89.set_2)|exact HI1.out),by repeat(first|(with_reducible first|exact HB.out|apply bA|apply bN|apply b1|refine below_set ?_ (IsS89.ge HI1.out))|exact HB.out),uH⟩
def spec_l02Point.f (s0_0:List Int) (s0_1:Int) (s0_2:Int):Option (Int×Int×Int×Int):=(spec_l01Below.f s0_0 s0_1 s0_2 33).bind fun bt128=>((spec_l01Below.f s0_0 bt128.2.1 bt128.2.2 41).bind fun bt131=>((spec_l01PickInt.f s0_0 bt131.2.1 bt131.2.2 (([0,32,bt128.1,wrap64 (bt131.1 - 4)]:List Int))).bind fun bt137=>((spec_l01Below.f s0_0 bt137.2.1 bt137.2.2 33).bind fun bt140=>((spec_l01Below.f s0_0 bt140.2.1 bt140.2.2 41).bind fun bt143=>((spec_l01PickInt.f s0_0 bt143.2.1 bt143.2.2 (([0,32,bt140.1,wrap64 (bt143.1 - 4)]:List Int))).bind fun bt149=>(some (bt137.1,bt149.1,bt149.2.1,bt149.2.2)))))))
theorem spec_l02Point.calls (g:Nat) (s0_0:List Int) (s0_1:Int) (s0_2:Int) (r1:Int) (r2:Int) (r3:Int) (r4:Int) (w0 w:World) (hI:IsS89 w0 w g s0_0 s0_1 s0_2) (hB:Below w0.heap.size w0 w) (h:spec_l02Point.f s0_0 s0_1 s0_2=some (r1,r2,r3,r4)):
 Calls prog 119 #[.pointer (some ⟨g,0,none⟩)] w fun e w'=>e=.returned (.agg #[V I r1,V I r2])∧IsS89 w0 w' g s0_0 r3 r4∧Below w0.heap.size w0 w'∧KeepBut w w' g none:=by
 have hu1:=underlying126
 have HI1:=C hI
 have HK:=C (KeepBut.refl w g none)
 have HL:=C hB.size
 clear hI
 have HW1:=C hB.size
 have HB:=C hB
 clear hB
 have H:=h
 unfold spec_l02Point.f at H
 clear h
 obtain⟨⟨t1,t2,t3⟩,A1,H⟩:=bnd H
 dsimp only at H
 obtain⟨⟨t4,t5,t6⟩,A2,H⟩:=bnd H
 dsimp only at H
 obtain⟨y1,hy1⟩:∃y_:List Int,y_=(([0,32,t1,wrap64 (t4 - 4)]:List Int)):=⟨_,rfl⟩
 replace H:((spec_l01PickInt.f s0_0 t5 t6 y1).bind fun bt137=>((spec_l01Below.f s0_0 bt137.2.1 bt137.2.2 33).bind fun bt140=>((spec_l01Below.f s0_0 bt140.2.1 bt140.2.2 41).bind fun bt143=>((spec_l01PickInt.f s0_0 bt143.2.1 bt143.2.2 (([0,32,bt140.1,wrap64 (bt143.1 - 4)]:List Int))).bind fun bt149=>(some (bt137.1,bt149.1,bt149.2.1,bt149.2.2))))))=some (r1,r2,r3,r4):=gy hy1 H
 have Ny1:=C hy1
 clear hy1
 obtain⟨⟨t7,t8,t9⟩,A3,H⟩:=bnd H
 dsimp only at H
 obtain⟨⟨t10,t11,t12⟩,A4,H⟩:=bnd H
 dsimp only at H
 obtain⟨⟨t13,t14,t15⟩,A5,H⟩:=bnd H
 dsimp only at H
 obtain⟨y2,hy2⟩:∃y_:List Int,y_=(([0,32,t10,wrap64 (t13 - 4)]:List Int)):=⟨_,rfl⟩
 replace H:((spec_l01PickInt.f s0_0 t14 t15 y2).bind fun bt149=>(some (t7,bt149.1,bt149.2.1,bt149.2.2)))=some (r1,r2,r3,r4):=gy hy2 H
 have Ny2:=C hy2
 clear hy2
 obtain⟨⟨t16,t17,t18⟩,A6,H⟩:=bnd H
 dsimp only at H
 simp only[Option.some.injEq,Prod.mk.injEq]at H
 obtain⟨rfl,rfl,rfl,rfl⟩:=H
 go_enter func119,ntmps119
 go_wp2_with (first|((with_reducible refine J (N:=2) rfl ?_);refine Fix.be 2 #[V I 0,V I 0] 126 ?_;intro gb1 hg w1 BK1 hb;have GW1:=C ((by rw[hg];exact(keep_size (w:=w) (g:=g) (row:=none) (show KeepBut w _ _ _ from uH)):w.heap.size≤gb1));have GE1:=C ((Nat.le_trans HW1.out (by rw[hg];exact(keep_size (w:=w) (g:=g) (row:=none) (show KeepBut w _ _ _ from uH)):w.heap.size≤gb1):w0.heap.size≤gb1));have n0:=C ((by rw[hg];exact Nat.ne_of_lt (IsS89.lt (show IsS89 w0 _ g s0_0 s0_1 s0_2 from by repeat(first|(with_reducible first|exact HI1.out|apply IsS89.alloc|apply IsS89.drewN|apply IsS89.drew|apply IsS89.set_1|apply IsS89.set_2)|exact HI1.out))):g≠gb1));have n1:=C ((by rw[hg];exact Nat.ne_of_gt (IsS89.lt (show IsS89 w0 _ g s0_0 s0_1 s0_2 from by repeat(first|(with_reducible first|exact HI1.out|apply IsS89.alloc|apply IsS89.drewN|apply IsS89.drew|apply IsS89.set_1|apply IsS89.set_2)|exact HI1.out))):gb1≠g));replace HK:=C (KeepBut.trans (show KeepBut w _ _ _ from uH) (KeepBut.of_below hb g none) (.inl rfl));replace HB:=C (below_step (by repeat(first|(with_reducible first|exact HB.out|apply bA|apply bN|apply b1|refine below_set ?_ (IsS89.ge HI1.out))|exact HB.out)) hb);replace HI1:=C (IsS89.below (by repeat(first|(with_reducible first|exact HI1.out|apply IsS89.alloc|apply IsS89.drewN|apply IsS89.drew|apply IsS89.set_1|apply IsS89.set_2)|exact HI1.out)) hb);clear hb hg)|((with_reducible refine F (f:=73) rfl ?_);refine gl 73 (some 5) func73 #[.pointer (some ⟨g,0,none⟩),V I 33] ?_;(with_reducible refine(spec_l01Below.calls g s0_0 s0_1 s0_2 33 t1 t2 t3 w0 _ ?side1 ?side2 A1.out).mono ?_);(case side1=>repeat(first|(with_reducible first|exact HI1.out|apply IsS89.alloc|apply IsS89.drewN|apply IsS89.drew|apply IsS89.set_1|apply IsS89.set_2|refine IsS89.far ?_ n0.out _)|exact HI1.out));(case side2=>repeat(first|(with_reducible first|exact HB.out|apply bA|apply bN|apply b1|refine below_set ?_ (IsS89.ge HI1.out)|refine below_set ?_ GE1.out)|exact HB.out));rintro e w2 ⟨rfl,hi,hb,hk⟩;refine⟨_,rfl,?_⟩;replace BK1:=C (KeepBut.blk hk (g':=gb1) (o:=.cells #[V I 0,V I 0] 126 (0,0)) (uK BK1.out) n1.out (by simp));replace HK:=C (KeepBut.trans (show KeepBut w _ _ _ from uH) hk (.inl rfl));replace HB:=C (hb);replace HI1:=C (hi);clear hb hi hk)|((with_reducible refine F (f:=73) rfl ?_);refine gl 73 (some 7) func73 #[.pointer (some ⟨g,0,none⟩),V I 41] ?_;(with_reducible refine(spec_l01Below.calls g s0_0 t2 t3 41 t4 t5 t6 w0 _ ?side1 ?side2 A2.out).mono ?_);(case side1=>repeat(first|(with_reducible first|exact HI1.out|apply IsS89.alloc|apply IsS89.drewN|apply IsS89.drew|apply IsS89.set_1|apply IsS89.set_2|refine IsS89.far ?_ n0.out _)|exact HI1.out));(case side2=>repeat(first|(with_reducible first|exact HB.out|apply bA|apply bN|apply b1|refine below_set ?_ (IsS89.ge HI1.out)|refine below_set ?_ GE1.out)|exact HB.out));rintro e w3 ⟨rfl,hi,hb,hk⟩;refine⟨_,rfl,?_⟩;replace BK1:=C (KeepBut.blk hk (g':=gb1) (o:=.cells #[V I 0,V I 0] 126 (0,0)) (uK BK1.out) n1.out (by simp));replace HK:=C (KeepBut.trans (show KeepBut w _ _ _ from uH) hk (.inl rfl));replace HB:=C (hb);replace HI1:=C (hi);clear hb hi hk)|((with_reducible refine J (N:=9) rfl ?_);refine Kd.R_lit (Kd.int .i64) _ 3 ?hg (N:=9) ?hd (xs:=([0,32,t1,wrap64 (t4 - 4)]:List Int)) (inner:= [V I 0,V I 32,V I t1,V I (wrap64 (t4 - 4))]) (ok:=fun _=>True) (okp:=fun _=>True) ?hr ?hp (fun _ hk=>hk) trivial (Below.refl _ _) (Nat.le_refl _) (by simp) ?_;(case hd=>rfl);(case hg=>rfl);(case hr=>exact Fix.hr);(case hp=>exact(Reps.one (show Kd.M (Kd.int .i64) _ _ _ 0 [V I 0] from rfl) (Reps.one (show Kd.M (Kd.int .i64) _ _ _ 32 [V I 32] from rfl) (Reps.one (show Kd.M (Kd.int .i64) _ _ _ t1 [V I t1] from rfl) (Reps.one (show Kd.M (Kd.int .i64) _ _ _ (wrap64 (t4 - 4)) [V I (wrap64 (t4 - 4))] from rfl) (Reps.none _ _))))));intro v1 w4 ho1 hb hg_ hnew_;clear hg_ hnew_;(first|rw[←Ny1.out]at ho1|(simp only[Int.reduceToNat]at ho1;rw[←Ny1.out]at ho1));have HO1:=C (Kd.R_lower ho1 (keep_size (w:=w) (g:=g) (row:=none) (show KeepBut w _ _ _ from uH)));replace BK1:=eK BK1 hb;replace HK:=C (KeepBut.trans (show KeepBut w _ _ _ from uH) (KeepBut.of_below hb g none) (.inl rfl));replace HB:=C (below_step (by repeat(first|(with_reducible first|exact HB.out|apply bA|apply bN|apply b1|refine below_set ?_ (IsS89.ge HI1.out)|refine below_set ?_ GE1.out)|exact HB.out)) hb);replace HI1:=C (IsS89.below (by repeat(first|(with_reducible first|exact HI1.out|apply IsS89.alloc|apply IsS89.drewN|apply IsS89.drew|apply IsS89.set_1|apply IsS89.set_2|refine IsS89.far ?_ n0.out _)|exact HI1.out)) hb);clear hb ho1;obtain⟨Ao1,co1,rfl⟩:=Kd.R_slice HO1.out)|((with_reducible refine F (f:=75) rfl ?_);refine gl 75 (some 10) func75 #[.pointer (some ⟨g,0,none⟩),L Ao1 y1.length co1] ?_;(with_reducible refine(spec_l01PickInt.calls g s0_0 t5 t6 _ _ y1 t7 t8 t9 w0 _ ?side1 ?side2 ?side3 ?side4 ?side5 A3.out).mono ?_);(case side1=>repeat(first|(with_reducible first|exact HI1.out|apply IsS89.alloc|apply IsS89.drewN|apply IsS89.drew|apply IsS89.set_1|apply IsS89.set_2|refine IsS89.far ?_ n0.out _)|exact HI1.out));(case side2=>repeat(first|(with_reducible first|exact HB.out|apply bA|apply bN|apply b1|refine below_set ?_ (IsS89.ge HI1.out)|refine below_set ?_ GE1.out)|exact HB.out));(case side3=>exact uC (Kd.R_reads' HO1.out).2.2);(case side4=>exact(Kd.R_reads' HO1.out).2.1);(case side5=>exact far_slice (IsS89.own_ne HI1.out HO1.out (by decide)));rintro e w5 ⟨rfl,hi,hb,hk⟩;refine⟨_,rfl,?_⟩;replace BK1:=C (KeepBut.blk hk (g':=gb1) (o:=.cells #[V I 0,V I 0] 126 (0,0)) (uK BK1.out) n1.out (by simp));replace HO1:=C (X (Kd.R_keep (IsS89.apart (show IsS89 w0 _ g s0_0 t5 t6 from by repeat(first|(with_reducible first|exact HI1.out|apply IsS89.alloc|apply IsS89.drewN|apply IsS89.drew|apply IsS89.set_1|apply IsS89.set_2|refine IsS89.far ?_ n0.out _)|exact HI1.out)) (uR HO1.out) (by decide)) hk (fun _ h=>h.2)) (fun _ h=>h.1));replace HK:=C (KeepBut.trans (show KeepBut w _ _ _ from uH) hk (.inl rfl));replace HB:=C (hb);replace HI1:=C (hi);clear hb hi hk)|((with_reducible refine F (f:=73) rfl ?_);refine gl 73 (some 13) func73 #[.pointer (some ⟨g,0,none⟩),V I 33] ?_;(with_reducible refine(spec_l01Below.calls g s0_0 t8 t9 33 t10 t11 t12 w0 _ ?side1 ?side2 A4.out).mono ?_);(case side1=>repeat(first|(with_reducible first|exact HI1.out|apply IsS89.alloc|apply IsS89.drewN|apply IsS89.drew|apply IsS89.set_1|apply IsS89.set_2|refine IsS89.far ?_ n0.out _)|exact HI1.out));(case side2=>repeat(first|(with_reducible first|exact HB.out|apply bA|apply bN|apply b1|refine below_set ?_ (IsS89.ge HI1.out)|refine below_set ?_ GE1.out)|exact HB.out));rintro e w6 ⟨rfl,hi,hb,hk⟩;refine⟨_,rfl,?_⟩;replace BK1:=C (KeepBut.blk hk (g':=gb1) (o:=.cells #[V I 0,V I 0] 126 (0,0)) (uK BK1.out) n1.out (by simp));replace HO1:=C (X (Kd.R_keep (IsS89.apart (show IsS89 w0 _ g s0_0 t8 t9 from by repeat(first|(with_reducible first|exact HI1.out|apply IsS89.alloc|apply IsS89.drewN|apply IsS89.drew|apply IsS89.set_1|apply IsS89.set_2|refine IsS89.far ?_ n0.out _)|exact HI1.out)) (uR HO1.out) (by decide)) hk (fun _ h=>h.2)) (fun _ h=>h.1));replace HK:=C (KeepBut.trans (show KeepBut w _ _ _ from uH) hk (.inl rfl));replace HB:=C (hb);replace HI1:=C (hi);clear hb hi hk)|((with_reducible refine F (f:=73) rfl ?_);refine gl 73 (some 15) func73 #[.pointer (some ⟨g,0,none⟩),V I 41] ?_;(with_reducible refine(spec_l01Below.calls g s0_0 t11 t12 41 t13 t14 t15 w0 _ ?side1 ?side2 A5.out).mono ?_);(case side1=>repeat(first|(with_reducible first|exact HI1.out|apply IsS89.alloc|apply IsS89.drewN|apply IsS89.drew|apply IsS89.set_1|apply IsS89.set_2|refine IsS89.far ?_ n0.out _)|exact HI1.out));(case side2=>repeat(first|(with_reducible first|exact HB.out|apply bA|apply bN|apply b1|refine below_set ?_ (IsS89.ge HI1.out)|refine below_set ?_ GE1.out)|exact HB.out));rintro e w7 ⟨rfl,hi,hb,hk⟩;refine⟨_,rfl,?_⟩;replace BK1:=C (KeepBut.blk hk (g':=gb1) (o:=.cells #[V I 0,V I 0] 126 (0,0)) (uK BK1.out) n1.out (by simp));replace HO1:=C (X (Kd.R_keep (IsS89.apart (show IsS89 w0 _ g s0_0 t11 t12 from by repeat(first|(with_reducible first|exact HI1.out|apply IsS89.alloc|apply IsS89.drewN|apply IsS89.drew|apply IsS89.set_1|apply IsS89.set_2|refine IsS89.far ?_ n0.out _)|exact HI1.out)) (uR HO1.out) (by decide)) hk (fun _ h=>h.2)) (fun _ h=>h.1));replace HK:=C (KeepBut.trans (show KeepBut w _ _ _ from uH) hk (.inl rfl));replace HB:=C (hb);replace HI1:=C (hi);clear hb hi hk)|((with_reducible refine J (N:=17) rfl ?_);refine Kd.R_lit (Kd.int .i64) _ 3 ?hg (N:=17) ?hd (xs:=([0,32,t10,wrap64 (t13 - 4)]:List Int)) (inner:= [V I 0,V I 32,V I t10,V I (wrap64 (t13 - 4))]) (ok:=fun _=>True) (okp:=fun _=>True) ?hr ?hp (fun _ hk=>hk) trivial (Below.refl _ _) (Nat.le_refl _) (by simp) ?_;(case hd=>rfl);(case hg=>rfl);(case hr=>exact Fix.hr);(case hp=>exact(Reps.one (show Kd.M (Kd.int .i64) _ _ _ 0 [V I 0] from rfl) (Reps.one (show Kd.M (Kd.int .i64) _ _ _ 32 [V I 32] from rfl) (Reps.one (show Kd.M (Kd.int .i64) _ _ _ t10 [V I t10] from rfl) (Reps.one (show Kd.M (Kd.int .i64) _ _ _ (wrap64 (t13 - 4)) [V I (wrap64 (t13 - 4))] from rfl) (Reps.none _ _))))));intro v2 w8 ho2 hb hg_ hnew_;clear hg_ hnew_;(first|rw[←Ny2.out]at ho2|(simp only[Int.reduceToNat]at ho2;rw[←Ny2.out]at ho2));have HO2:=C (Kd.R_lower (Kd.R_new' ho2 (Kd.R_lt (uR HO1.out))) (keep_size (w:=w) (g:=g) (row:=none) (show KeepBut w _ _ _ from uH)));replace HO1:=C (Kd.R_elder' (uR HO1.out) (Kd.R_base ho2) hb);replace BK1:=eK BK1 hb;replace HK:=C (KeepBut.trans (show KeepBut w _ _ _ from uH) (KeepBut.of_below hb g none) (.inl rfl));replace HB:=C (below_step (by repeat(first|(with_reducible first|exact HB.out|apply bA|apply bN|apply b1|refine below_set ?_ (IsS89.ge HI1.out)|refine below_set ?_ GE1.out)|exact HB.out)) hb);replace HI1:=C (IsS89.below (by repeat(first|(with_reducible first|exact HI1.out|apply IsS89.alloc|apply IsS89.drewN|apply IsS89.drew|apply IsS89.set_1|apply IsS89.set_2|refine IsS89.far ?_ n0.out _)|exact HI1.out)) hb);clear hb ho2;obtain⟨Ao2,co2,rfl⟩:=Kd.R_slice HO2.out)|((with_reducible refine F (f:=75) rfl ?_);refine gl 75 (some 18) func75 #[.pointer (some ⟨g,0,none⟩),L Ao2 y2.length co2] ?_;(with_reducible refine(spec_l01PickInt.calls g s0_0 t14 t15 _ _ y2 t16 t17 t18 w0 _ ?side1 ?side2 ?side3 ?side4 ?side5 A6.out).mono ?_);(case side1=>repeat(first|(with_reducible first|exact HI1.out|apply IsS89.alloc|apply IsS89.drewN|apply IsS89.drew|apply IsS89.set_1|apply IsS89.set_2|refine IsS89.far ?_ n0.out _)|exact HI1.out));(case side2=>repeat(first|(with_reducible first|exact HB.out|apply bA|apply bN|apply b1|refine below_set ?_ (IsS89.ge HI1.out)|refine below_set ?_ GE1.out)|exact HB.out));(case side3=>exact uC (Kd.R_reads' HO2.out).2.2);(case side4=>exact(Kd.R_reads' HO2.out).2.1);(case side5=>exact far_slice (IsS89.own_ne HI1.out HO2.out (by decide)));rintro e w9 ⟨rfl,hi,hb,hk⟩;refine⟨_,rfl,?_⟩;replace BK1:=C (KeepBut.blk hk (g':=gb1) (o:=.cells #[V I 0,V I 0] 126 (0,0)) (uK BK1.out) n1.out (by simp));replace HO1:=C (X (Kd.R_keep (IsS89.apart (show IsS89 w0 _ g s0_0 t14 t15 from by repeat(first|(with_reducible first|exact HI1.out|apply IsS89.alloc|apply IsS89.drewN|apply IsS89.drew|apply IsS89.set_1|apply IsS89.set_2|refine IsS89.far ?_ n0.out _)|exact HI1.out)) (uR HO1.out) (by decide)) hk (fun _ h=>h.2)) (fun _ h=>h.1));replace HO2:=C (X (Kd.R_keep (IsS89.apart (show IsS89 w0 _ g s0_0 t14 t15 from by repeat(first|(with_reducible first|exact HI1.out|apply IsS89.alloc|apply IsS89.drewN|apply IsS89.drew|apply IsS89.set_1|apply IsS89.set_2|refine IsS89.far ?_ n0.out _)|exact HI1.out)) (uR HO2.out) (by decide)) hk (fun _ h=>h.2)) (fun _ h=>h.1));replace HK:=C (KeepBut.trans (show KeepBut w _ _ _ from uH) hk (.inl rfl));replace HB:=C (hb);replace HI1:=C (hi);clear hb hi hk;have:=n1.out;have:=n0.out;have hcz1_0:w9.cell? ⟨gb1,0,none⟩=some (V I 0):=(blk_cell BK1.out 0).trans rfl;have hcz1_1:w9.cell? ⟨gb1,1,none⟩=some (V I 0):=(blk_cell BK1.out 1).trans rfl;have hfz1_0:=blk_frozen BK1.out 0;have hfz1_1:=blk_frozen BK1.out 1))
 refine bodyPost_ret (results_cell_row rfl _ _ gb1 126 #[V I t7,V I t16] (0,0) _ rfl (bK BK1.out) underlying126 rfl (by kernel_rfl)) rfl ?_
 exact⟨rE,by repeat(first|(with_reducible first|exact HI1.out|apply IsS89.alloc|apply IsS89.drewN|apply IsS89.drew|apply IsS89.set_1|apply IsS89.set_2|refine IsS89.far ?_ n0.out _)|exact HI1.out),by repeat(first|(with_reducible first|exact HB.out|apply bA|apply bN|apply b1|refine below_set ?_ (IsS89.ge HI1.out)|refine below_set ?_ GE1.out)|exact HB.out),uH⟩
def spec_l08Path.l0:Nat→List (S126)→Int→Int→List Int→Int→Int→Option ((List (S126))×Int×Int)
 |0,_,_,_,_,_,_=>none
 |k+1,x3,x4,x5,x1000,x1001,x1002=>if x5<x4 then((spec_l02Point.f x1000 x1001 x1002).bind fun bt158=>(if x3.length<8796093022208 then(spec_l08Path.l0 k (x3++ [(⟨bt158.1,bt158.2.1⟩:S126)]) x4 (wrap64 (x5+1)) x1000 bt158.2.2.1 bt158.2.2.2) else(none))) else(some (x3,x1001,x1002))
def spec_l08Path.f (k:Nat) (s0_0:List Int) (s0_1:Int) (s0_2:Int):Option ((List (S126))×Int×Int):=(spec_l01Below.f s0_0 s0_1 s0_2 4).bind fun bt155=>(spec_l08Path.l0 k (([]:List (S126))) (wrap64 (3+bt155.1)) 0 s0_0 bt155.2.1 bt155.2.2)
theorem spec_l08Path.calls (k:Nat) (g:Nat) (s0_0:List Int) (s0_1:Int) (s0_2:Int) (r1:List (S126)) (r2:Int) (r3:Int) (w0 w:World) (hI:IsS89 w0 w g s0_0 s0_1 s0_2) (hB:Below w0.heap.size w0 w) (h:spec_l08Path.f k s0_0 s0_1 s0_2=some (r1,r2,r3)):
 Calls prog 105 #[.pointer (some ⟨g,0,none⟩)] w fun e w'=>∃v0_:Value,e=.returned (v0_)∧Kd.R k126 126 w' w.heap.size (fun _=>True) v0_ r1∧IsS89 w0 w' g s0_0 r2 r3∧Below w0.heap.size w0 w'∧KeepBut w w' g none:=by
 have hu1:=underlying126
 have HI1:=C hI
 have HK:=C (KeepBut.refl w g none)
 have HL:=C hB.size
 clear hI
 have HW1:=C hB.size
 have HB:=C hB
 clear hB
 have H:=h
 unfold spec_l08Path.f at H
 clear h
 obtain⟨y1,hy1⟩:∃y_:List (S126),y_=(([]:List (S126))):=⟨_,rfl⟩
 replace H:((spec_l01Below.f s0_0 s0_1 s0_2 4).bind fun bt155=>(spec_l08Path.l0 k y1 (wrap64 (3+bt155.1)) 0 s0_0 bt155.2.1 bt155.2.2))=some (r1,r2,r3):=gy hy1 H
 have Ny1:=C hy1
 clear hy1
 obtain⟨⟨t1,t2,t3⟩,A1,H⟩:=bnd H
 dsimp only at H
 have H':=C H
 clear H
 go_enter func105,ntmps105
 go_wp2_with (first|((with_reducible refine J (N:=7) rfl ?_);refine Kd.R_lit k126 _ 126 ?hg (N:=7) ?hd (xs:=([]:List (S126))) (inner:= []) (ok:=fun _=>True) (okp:=fun _=>True) ?hr ?hp (fun _ hk=>hk) trivial (Below.refl _ _) (Nat.le_refl _) (by simp) ?_;(case hd=>rfl);(case hg=>rfl);(case hr=>exact Fix.hr);(case hp=>exact(Reps.none _ _));intro v1 w1 ho1 hb hg_ hnew_;clear hg_ hnew_;(first|rw[←Ny1.out]at ho1|(simp only[Int.reduceToNat]at ho1;rw[←Ny1.out]at ho1));have HO1:=C (Kd.R_lower ho1 (keep_size (w:=w) (g:=g) (row:=none) (show KeepBut w _ _ _ from uH)));replace HK:=C (KeepBut.trans (show KeepBut w _ _ _ from uH) (KeepBut.of_below hb g none) (.inl rfl));replace HB:=C (below_step (by repeat(first|(with_reducible first|exact HB.out|apply bA|apply bN|apply b1|refine below_set ?_ (IsS89.ge HI1.out))|exact HB.out)) hb);replace HI1:=C (IsS89.below (by repeat(first|(with_reducible first|exact HI1.out|apply IsS89.alloc|apply IsS89.drewN|apply IsS89.drew|apply IsS89.set_1|apply IsS89.set_2)|exact HI1.out)) hb);clear hb ho1)|((with_reducible refine F (f:=73) rfl ?_);refine gl 73 (some 9) func73 #[.pointer (some ⟨g,0,none⟩),V I 4] ?_;(with_reducible refine(spec_l01Below.calls g s0_0 s0_1 s0_2 4 t1 t2 t3 w0 _ ?side1 ?side2 A1.out).mono ?_);(case side1=>repeat(first|(with_reducible first|exact HI1.out|apply IsS89.alloc|apply IsS89.drewN|apply IsS89.drew|apply IsS89.set_1|apply IsS89.set_2)|exact HI1.out));(case side2=>repeat(first|(with_reducible first|exact HB.out|apply bA|apply bN|apply b1|refine below_set ?_ (IsS89.ge HI1.out))|exact HB.out));rintro e w2 ⟨rfl,hi,hb,hk⟩;refine⟨_,rfl,?_⟩;replace HO1:=C (X (Kd.R_keep (IsS89.apart (show IsS89 w0 _ g s0_0 s0_1 s0_2 from by repeat(first|(with_reducible first|exact HI1.out|apply IsS89.alloc|apply IsS89.drewN|apply IsS89.drew|apply IsS89.set_1|apply IsS89.set_2)|exact HI1.out)) (uR HO1.out) (by decide)) hk (fun _ h=>h.2)) (fun _ h=>h.1));replace HK:=C (KeepBut.trans (show KeepBut w _ _ _ from uH) hk (.inl rfl));replace HB:=C (hb);replace HI1:=C (hi);clear hb hi hk))
 go_loopg [3,5] k (fun kq v3 v5 w'=>∃(x1_1:List (S126)) (x2_1:Int) (x3_1:Int) (x4_1:Int),v5=V I x2_1∧D (spec_l08Path.l0 kq x1_1 (wrap64 (3+t1)) x2_1 s0_0 x3_1 x4_1=some (r1,r2,r3))∧D (kq≤k)∧D (Kd.R k126 126 w' w.heap.size (fun _=>True) v3 x1_1)∧D (IsS89 w0 w' g s0_0 x3_1 x4_1)∧D (KeepBut w w' g none)∧D (Below w0.heap.size w0 w'))
 case atStart=>exact⟨(y1),(0),(t2),(t3),rS,H',⟨Nat.le_refl _⟩,⟨fR HO1.out⟩,⟨by repeat(first|(with_reducible first|exact HI1.out|apply IsS89.alloc|apply IsS89.drewN|apply IsS89.drew|apply IsS89.set_1|apply IsS89.set_2)|exact HI1.out)⟩,⟨uH⟩,⟨by repeat(first|(with_reducible first|exact HB.out|apply bA|apply bN|apply b1|refine below_set ?_ (IsS89.ge HI1.out))|exact HB.out)⟩⟩
 case round=>
  clear H'
  obtain⟨x1_1,x2_1,x3_1,x4_1,rfl,HA,HK1,HO_1,HI1,HK,HB⟩:=hrel
  cases gk with
  |zero=>exact absurd HA.out (by simp[spec_l08Path.l0])
  |succ k1=>
   have H:=HA.out
   clear HA
   simp only[spec_l08Path.l0]at H
   by_cases c1:x2_1<(wrap64 (3+t1))
   rotate_left
   ·rw[if_neg c1]at H
    replace c1:=decide_eq_false c1
    simp only[Option.some.injEq,Prod.mk.injEq]at H
    obtain⟨rfl,rfl,rfl⟩:=H
    go_wp2
    go_ret
    exact⟨_,rE,fR HO_1.out,by repeat(first|(with_reducible first|exact HI1.out|apply IsS89.alloc|apply IsS89.drewN|apply IsS89.drew|apply IsS89.set_1|apply IsS89.set_2)|exact HI1.out),by repeat(first|(with_reducible first|exact HB.out|apply bA|apply bN|apply b1|refine below_set ?_ (IsS89.ge HI1.out))|exact HB.out),uH⟩
   rw[if_pos c1]at H
   replace c1:=decide_eq_true c1
   obtain⟨⟨t4,t5,t6,t7⟩,A2,H⟩:=bnd H
   dsimp only at H
   obtain⟨c2,H⟩:=np H
   have LMc1:=C c2
   clear c2
   obtain⟨y2,hy2⟩:∃y_:List (S126),y_=(x1_1++ [(⟨t4,t5⟩:S126)]):=⟨_,rfl⟩
   replace H:(spec_l08Path.l0 k1 y2 (wrap64 (3+t1)) (wrap64 (x2_1+1)) s0_0 t6 t7)=some (r1,r2,r3):=gy hy2 H
   have Ny2:=C hy2
   clear hy2
   have H':=C H
   clear H
   go_wp2_with (first|((with_reducible refine F (f:=119) rfl ?_);refine gl 119 (some 17) func119 #[.pointer (some ⟨g,0,none⟩)] ?_;(with_reducible refine(spec_l02Point.calls g s0_0 x3_1 x4_1 t4 t5 t6 t7 w0 _ ?side1 ?side2 A2.out).mono ?_);(case side1=>repeat(first|(with_reducible first|exact HI1.out|apply IsS89.alloc|apply IsS89.drewN|apply IsS89.drew|apply IsS89.set_1|apply IsS89.set_2)|exact HI1.out));(case side2=>repeat(first|(with_reducible first|exact HB.out|apply bA|apply bN|apply b1|refine below_set ?_ (IsS89.ge HI1.out))|exact HB.out));rintro e w3 ⟨rfl,hi,hb,hk⟩;refine⟨_,rfl,?_⟩;replace HO_1:=C (X (Kd.R_keep (IsS89.apart (show IsS89 w0 _ g s0_0 x3_1 x4_1 from by repeat(first|(with_reducible first|exact HI1.out|apply IsS89.alloc|apply IsS89.drewN|apply IsS89.drew|apply IsS89.set_1|apply IsS89.set_2)|exact HI1.out)) (uR HO_1.out) (by decide)) hk (fun _ h=>h.2)) (fun _ h=>h.1));replace HK:=C (KeepBut.trans (show KeepBut w _ _ _ from uH) hk (.inl rfl));replace HB:=C (hb);replace HI1:=C (hi);clear hb hi hk)|((with_reducible refine J (N:=6) rfl ?_);refine Fix.be 6 #[V I 0,V I 0] 126 ?_;intro gb1 hg w4 BK1 hb;have GW1:=C ((by rw[hg];exact(keep_size (w:=w) (g:=g) (row:=none) (show KeepBut w _ _ _ from uH)):w.heap.size≤gb1));have GE1:=C ((Nat.le_trans HW1.out (by rw[hg];exact(keep_size (w:=w) (g:=g) (row:=none) (show KeepBut w _ _ _ from uH)):w.heap.size≤gb1):w0.heap.size≤gb1));have n0:=C ((by rw[hg];exact Nat.ne_of_lt (IsS89.lt (show IsS89 w0 _ g s0_0 t6 t7 from by repeat(first|(with_reducible first|exact HI1.out|apply IsS89.alloc|apply IsS89.drewN|apply IsS89.drew|apply IsS89.set_1|apply IsS89.set_2)|exact HI1.out))):g≠gb1));have n1:=C ((by rw[hg];exact Nat.ne_of_gt (IsS89.lt (show IsS89 w0 _ g s0_0 t6 t7 from by repeat(first|(with_reducible first|exact HI1.out|apply IsS89.alloc|apply IsS89.drewN|apply IsS89.drew|apply IsS89.set_1|apply IsS89.set_2)|exact HI1.out))):gb1≠g));replace HO_1:=C (Kd.R_below (Kd.R_elderB (uR HO_1.out) gb1 (Nat.le_of_eq hg.symm)) hb);replace HK:=C (KeepBut.trans (show KeepBut w _ _ _ from uH) (KeepBut.of_below hb g none) (.inl rfl));replace HB:=C (below_step (by repeat(first|(with_reducible first|exact HB.out|apply bA|apply bN|apply b1|refine below_set ?_ (IsS89.ge HI1.out))|exact HB.out)) hb);replace HI1:=C (IsS89.below (by repeat(first|(with_reducible first|exact HI1.out|apply IsS89.alloc|apply IsS89.drewN|apply IsS89.drew|apply IsS89.set_1|apply IsS89.set_2)|exact HI1.out)) hb);clear hb hg;have:=n1.out;have:=n0.out;have hcz1_0:w4.cell? ⟨gb1,0,none⟩=some (V I 0):=(blk_cell BK1.out 0).trans rfl;have hcz1_1:w4.cell? ⟨gb1,1,none⟩=some (V I 0):=(blk_cell BK1.out 1).trans rfl;have hfz1_0:=blk_frozen BK1.out 0;have hfz1_1:=blk_frozen BK1.out 1)|((with_reducible refine gate_builtin (b:=.append) (xs:= #[.tmp 18,.tmp 20]) rfl ?_);at_builtin;refine Kd.R_append k126 w.heap.size rfl (.tmp 18) (.tmp 20) 73 126 (.agg #[(V I 0),(V I 0)]) 16 rfl underlying73 info126 rfl (by decide) (by omega) u3 x1_1 (⟨t4,t5⟩:S126) [V I t4,V I t5] (fun k_=>k_≠gb1) (fun _=>False) rfl (by first|(go_simp;done)|(go_simp;rfl)) ?aP (fun _ hk=>hk.elim) ?aF ?aO (Below.refl _ _) ?aS ?aL ?_;(case aP=>exact k126_mkM _ _ _ (⟨t4,t5⟩:S126));(case aF=>exact(fun k_ hk=>Kd.freshB (g:=gb1) (o:=.cells #[V I t4,V I t5] 126 (0,0)) (bK BK1.out) k_ hk));(case aO=>exact(X (fR (X HO_1.out (fun k_ hk=>(⟨hk,hk.2⟩:_∧k_≠gb1)))) (fun _ hk=>hk.1.2)));(case aS=>exact(keep_size (w:=w) (g:=g) (row:=none) (show KeepBut w _ _ _ from uH)));(case aL=>have:=LMc1.out;omega);intro v2 w5 ho hb hg hat;rw[←Ny2.out]at ho;have HO2:=C (ho);replace BK1:=C (blk_grown (g:=gb1) (o:=.cells #[V I t4,V I t5] 126 (0,0)) (bK BK1.out) hg (Kd.R_away HO_1.out (fun _ hk=>hk.2)));replace HB:=C (below_weaken (by repeat(first|(with_reducible first|exact HB.out|apply bA|apply bN|apply b1|refine below_set ?_ (IsS89.ge HI1.out)|refine below_set ?_ GE1.out)|exact HB.out)) HL.out hb);replace HI1:=C (IsS89.grown (show IsS89 w0 _ g s0_0 t6 t7 from by repeat(first|(with_reducible first|exact HI1.out|apply IsS89.alloc|apply IsS89.drewN|apply IsS89.drew|apply IsS89.set_1|apply IsS89.set_2|refine IsS89.far ?_ n0.out _)|exact HI1.out)) hg (IsS89.own_ne HI1.out HO_1.out (by decide)));replace HK:=C (KeepBut.trans (show KeepBut w _ _ _ from uH) (KeepBut.of_grown hg g) (Kd.R_base2 HO_1.out));clear HO_1;clear ho hb hg hat))
   go_roundg k1
   case measure=>have:=HK1.out;omega
   case rel=>exact⟨(y2),(wrap64 (x2_1+1)),(t6),(t7),rS,H',⟨by have:=HK1.out;omega⟩,⟨X (fR HO2.out) (fun _ hk=>trivial)⟩,⟨by repeat(first|(with_reducible first|exact HI1.out|apply IsS89.alloc|apply IsS89.drewN|apply IsS89.drew|apply IsS89.set_1|apply IsS89.set_2|refine IsS89.far ?_ n0.out _)|exact HI1.out)⟩,⟨uH⟩,⟨by repeat(first|(with_reducible first|exact HB.out|apply bA|apply bN|apply b1|refine below_set ?_ (IsS89.ge HI1.out)|refine below_set ?_ GE1.out)|exact HB.out)⟩⟩
def spec_l07Full.f:Option (Int×Int×Int×Int):=some (0,0,32,32)
theorem spec_l07Full.calls (r1:Int) (r2:Int) (r3:Int) (r4:Int) (w:World) (h:spec_l07Full.f=some (r1,r2,r3,r4)):
 Calls prog 106 #[] w fun e w'=>e=.returned (.agg #[V I r1,V I r2,V I r3,V I r4])∧Below w.heap.size w w':=by
 have hu1:=underlying75
 have HB:=C (Below.refl w.heap.size w)
 have H:=h
 unfold spec_l07Full.f at H
 clear h
 simp only[Option.some.injEq,Prod.mk.injEq]at H
 obtain⟨rfl,rfl,rfl,rfl⟩:=H
 go_enter func106,ntmps106
 go_wp2_with (first|((with_reducible refine J (N:=0) rfl ?_);refine Fix.be 0 #[V I 0,V I 0,V I 0,V I 0] 75 ?_;intro gb1 hg w1 BK1 hb;have GW1:=gE (w:=w) hg;replace HB:=eB hb;clear hb hg;obtain⟨_,_,_,_,_,_,_,_⟩:=d4 BK1.out))
 refine bodyPost_ret (results_cell_row rfl _ _ gb1 75 #[V I 0,V I 0,V I 32,V I 32] (0,0) _ rfl (bK BK1.out) underlying75 rfl (by kernel_rfl)) rfl ?_
 exact⟨rE,uB⟩
def spec_l02Box.f (s0_0:List Int) (s0_1:Int) (s0_2:Int):Option (Int×Int×Int×Int×Int×Int):=(spec_l02Point.f s0_0 s0_1 s0_2).bind fun bt168=>((spec_l02Point.f s0_0 bt168.2.2.1 bt168.2.2.2).bind fun bt173=>(some (mn bt168.1 bt173.1,mn bt168.2.1 bt173.2.1,mx bt168.1 bt173.1,mx bt168.2.1 bt173.2.1,bt173.2.2.1,bt173.2.2.2)))
theorem spec_l02Box.calls (g:Nat) (s0_0:List Int) (s0_1:Int) (s0_2:Int) (r1:Int) (r2:Int) (r3:Int) (r4:Int) (r5:Int) (r6:Int) (w0 w:World) (hI:IsS89 w0 w g s0_0 s0_1 s0_2) (hB:Below w0.heap.size w0 w) (h:spec_l02Box.f s0_0 s0_1 s0_2=some (r1,r2,r3,r4,r5,r6)):
 Calls prog 107 #[.pointer (some ⟨g,0,none⟩)] w fun e w'=>e=.returned (.agg #[V I r1,V I r2,V I r3,V I r4])∧IsS89 w0 w' g s0_0 r5 r6∧Below w0.heap.size w0 w'∧KeepBut w w' g none:=by
 have hu1:=underlying75
 have hu2:=underlying126
 have HI1:=C hI
 have HK:=C (KeepBut.refl w g none)
 have HL:=C hB.size
 clear hI
 have HW1:=C hB.size
 have HB:=C hB
 clear hB
 have H:=h
 unfold spec_l02Box.f at H
 clear h
 obtain⟨⟨t1,t2,t3,t4⟩,A1,H⟩:=bnd H
 dsimp only at H
 obtain⟨⟨t5,t6,t7,t8⟩,A2,H⟩:=bnd H
 dsimp only at H
 obtain⟨ji1,hji1⟩:∃j_:Int,(mn t1 t5)=j_:=⟨_,rfl⟩
 replace H:(some (ji1,mn t2 t6,mx t1 t5,mx t2 t6,t7,t8))=some (r1,r2,r3,r4,r5,r6):=by first|(rw[hji1]at H;exact H)|(simp only[hji1]at H ⊢;exact H)
 (try rw[hji1]at A1)
 (try rw[hji1]at A2)
 have hji1_:(if t5<t1 then t5 else t1)=ji1:=hji1
 obtain⟨ji2,hji2⟩:∃j_:Int,(mn t2 t6)=j_:=⟨_,rfl⟩
 replace H:(some (ji1,ji2,mx t1 t5,mx t2 t6,t7,t8))=some (r1,r2,r3,r4,r5,r6):=by first|(rw[hji2]at H;exact H)|(simp only[hji2]at H ⊢;exact H)
 (try rw[hji2]at A1)
 (try rw[hji2]at A2)
 have hji2_:(if t6<t2 then t6 else t2)=ji2:=hji2
 obtain⟨ji3,hji3⟩:∃j_:Int,(mx t1 t5)=j_:=⟨_,rfl⟩
 replace H:(some (ji1,ji2,ji3,mx t2 t6,t7,t8))=some (r1,r2,r3,r4,r5,r6):=by first|(rw[hji3]at H;exact H)|(simp only[hji3]at H ⊢;exact H)
 (try rw[hji3]at A1)
 (try rw[hji3]at A2)
 have hji3_:(if t1<t5 then t5 else t1)=ji3:=hji3
 obtain⟨ji4,hji4⟩:∃j_:Int,(mx t2 t6)=j_:=⟨_,rfl⟩
 replace H:(some (ji1,ji2,ji3,ji4,t7,t8))=some (r1,r2,r3,r4,r5,r6):=by first|(rw[hji4]at H;exact H)|(simp only[hji4]at H ⊢;exact H)
 (try rw[hji4]at A1)
 (try rw[hji4]at A2)
 have hji4_:(if t2<t6 then t6 else t2)=ji4:=hji4
 simp only[Option.some.injEq,Prod.mk.injEq]at H
 obtain⟨rfl,rfl,rfl,rfl,rfl,rfl⟩:=H
 go_enter func107,ntmps107
 go_wp2_with (first|((with_reducible refine J (N:=2) rfl ?_);refine Fix.be 2 #[V I 0,V I 0,V I 0,V I 0] 75 ?_;intro gb1 hg w1 BK1 hb;have GW1:=C ((by rw[hg];exact(keep_size (w:=w) (g:=g) (row:=none) (show KeepBut w _ _ _ from uH)):w.heap.size≤gb1));have GE1:=C ((Nat.le_trans HW1.out (by rw[hg];exact(keep_size (w:=w) (g:=g) (row:=none) (show KeepBut w _ _ _ from uH)):w.heap.size≤gb1):w0.heap.size≤gb1));have n0:=C ((by rw[hg];exact Nat.ne_of_lt (IsS89.lt (show IsS89 w0 _ g s0_0 s0_1 s0_2 from by repeat(first|(with_reducible first|exact HI1.out|apply IsS89.alloc|apply IsS89.drewN|apply IsS89.drew|apply IsS89.set_1|apply IsS89.set_2)|exact HI1.out))):g≠gb1));have n1:=C ((by rw[hg];exact Nat.ne_of_gt (IsS89.lt (show IsS89 w0 _ g s0_0 s0_1 s0_2 from by repeat(first|(with_reducible first|exact HI1.out|apply IsS89.alloc|apply IsS89.drewN|apply IsS89.drew|apply IsS89.set_1|apply IsS89.set_2)|exact HI1.out))):gb1≠g));replace HK:=C (KeepBut.trans (show KeepBut w _ _ _ from uH) (KeepBut.of_below hb g none) (.inl rfl));replace HB:=C (below_step (by repeat(first|(with_reducible first|exact HB.out|apply bA|apply bN|apply b1|refine below_set ?_ (IsS89.ge HI1.out))|exact HB.out)) hb);replace HI1:=C (IsS89.below (by repeat(first|(with_reducible first|exact HI1.out|apply IsS89.alloc|apply IsS89.drewN|apply IsS89.drew|apply IsS89.set_1|apply IsS89.set_2)|exact HI1.out)) hb);clear hb hg)|((with_reducible refine F (f:=119) rfl ?_);refine gl 119 (some 6) func119 #[.pointer (some ⟨g,0,none⟩)] ?_;(with_reducible refine(spec_l02Point.calls g s0_0 s0_1 s0_2 t1 t2 t3 t4 w0 _ ?side1 ?side2 A1.out).mono ?_);(case side1=>repeat(first|(with_reducible first|exact HI1.out|apply IsS89.alloc|apply IsS89.drewN|apply IsS89.drew|apply IsS89.set_1|apply IsS89.set_2|refine IsS89.far ?_ n0.out _)|exact HI1.out));(case side2=>repeat(first|(with_reducible first|exact HB.out|apply bA|apply bN|apply b1|refine below_set ?_ (IsS89.ge HI1.out)|refine below_set ?_ GE1.out)|exact HB.out));rintro e w2 ⟨rfl,hi,hb,hk⟩;refine⟨_,rfl,?_⟩;replace BK1:=C (KeepBut.blk hk (g':=gb1) (o:=.cells #[V I 0,V I 0,V I 0,V I 0] 75 (0,0)) (uK BK1.out) n1.out (by simp));replace HK:=C (KeepBut.trans (show KeepBut w _ _ _ from uH) hk (.inl rfl));replace HB:=C (hb);replace HI1:=C (hi);clear hb hi hk)|((with_reducible refine J (N:=3) rfl ?_);refine Fix.be 3 #[V I 0,V I 0] 126 ?_;intro gb2 hg w3 BK2 hb;have GW2:=C ((by rw[hg];exact(keep_size (w:=w) (g:=g) (row:=none) (show KeepBut w _ _ _ from uH)):w.heap.size≤gb2));have GE2:=C ((Nat.le_trans HW1.out (by rw[hg];exact(keep_size (w:=w) (g:=g) (row:=none) (show KeepBut w _ _ _ from uH)):w.heap.size≤gb2):w0.heap.size≤gb2));have n2:=nL hg BK1;have n3:=nG hg BK1;have n4:=C ((by rw[hg];exact Nat.ne_of_lt (IsS89.lt (show IsS89 w0 _ g s0_0 t3 t4 from by repeat(first|(with_reducible first|exact HI1.out|apply IsS89.alloc|apply IsS89.drewN|apply IsS89.drew|apply IsS89.set_1|apply IsS89.set_2|refine IsS89.far ?_ n0.out _)|exact HI1.out))):g≠gb2));have n5:=C ((by rw[hg];exact Nat.ne_of_gt (IsS89.lt (show IsS89 w0 _ g s0_0 t3 t4 from by repeat(first|(with_reducible first|exact HI1.out|apply IsS89.alloc|apply IsS89.drewN|apply IsS89.drew|apply IsS89.set_1|apply IsS89.set_2|refine IsS89.far ?_ n0.out _)|exact HI1.out))):gb2≠g));replace BK1:=eK BK1 hb;replace HK:=C (KeepBut.trans (show KeepBut w _ _ _ from uH) (KeepBut.of_below hb g none) (.inl rfl));replace HB:=C (below_step (by repeat(first|(with_reducible first|exact HB.out|apply bA|apply bN|apply b1|refine below_set ?_ (IsS89.ge HI1.out)|refine below_set ?_ GE1.out)|exact HB.out)) hb);replace HI1:=C (IsS89.below (by repeat(first|(with_reducible first|exact HI1.out|apply IsS89.alloc|apply IsS89.drewN|apply IsS89.drew|apply IsS89.set_1|apply IsS89.set_2|refine IsS89.far ?_ n0.out _)|exact HI1.out)) hb);clear hb hg;have:=n3.out;have:=n2.out;have:=n5.out;have:=n4.out;have hcz1_0:w3.cell? ⟨gb2,0,none⟩=some (V I 0):=(blk_cell BK2.out 0).trans rfl;have hcz1_1:w3.cell? ⟨gb2,1,none⟩=some (V I 0):=(blk_cell BK2.out 1).trans rfl;have hfz1_0:=blk_frozen BK2.out 0;have hfz1_1:=blk_frozen BK2.out 1)|((with_reducible refine F (f:=119) rfl ?_);refine gl 119 (some 8) func119 #[.pointer (some ⟨g,0,none⟩)] ?_;(with_reducible refine(spec_l02Point.calls g s0_0 t3 t4 t5 t6 t7 t8 w0 _ ?side1 ?side2 A2.out).mono ?_);(case side1=>repeat(first|(with_reducible first|exact HI1.out|apply IsS89.alloc|apply IsS89.drewN|apply IsS89.drew|apply IsS89.set_1|apply IsS89.set_2|refine IsS89.far ?_ n0.out _|refine IsS89.far ?_ n4.out _)|exact HI1.out));(case side2=>repeat(first|(with_reducible first|exact HB.out|apply bA|apply bN|apply b1|refine below_set ?_ (IsS89.ge HI1.out)|refine below_set ?_ GE1.out|refine below_set ?_ GE2.out)|exact HB.out));rintro e w4 ⟨rfl,hi,hb,hk⟩;refine⟨_,rfl,?_⟩;replace BK1:=C (KeepBut.blk hk (g':=gb1) (o:=.cells #[V I 0,V I 0,V I 0,V I 0] 75 (0,0)) (bK BK1.out) n1.out (by simp));replace BK2:=C (KeepBut.blk hk (g':=gb2) (o:=.cells #[V I t1,V I t2] 126 (0,0)) (bK BK2.out) n5.out (by simp));replace HK:=C (KeepBut.trans (show KeepBut w _ _ _ from uH) hk (.inl rfl));replace HB:=C (hb);replace HI1:=C (hi);clear hb hi hk)|((with_reducible refine J (N:=4) rfl ?_);refine Fix.be 4 #[V I 0,V I 0] 126 ?_;intro gb3 hg w5 BK3 hb;have GW3:=C ((by rw[hg];exact(keep_size (w:=w) (g:=g) (row:=none) (show KeepBut w _ _ _ from uH)):w.heap.size≤gb3));have GE3:=C ((Nat.le_trans HW1.out (by rw[hg];exact(keep_size (w:=w) (g:=g) (row:=none) (show KeepBut w _ _ _ from uH)):w.heap.size≤gb3):w0.heap.size≤gb3));have n6:=nL hg BK1;have n7:=nG hg BK1;have n8:=nL hg BK2;have n9:=nG hg BK2;have n10:=C ((by rw[hg];exact Nat.ne_of_lt (IsS89.lt (show IsS89 w0 _ g s0_0 t7 t8 from by repeat(first|(with_reducible first|exact HI1.out|apply IsS89.alloc|apply IsS89.drewN|apply IsS89.drew|apply IsS89.set_1|apply IsS89.set_2|refine IsS89.far ?_ n0.out _|refine IsS89.far ?_ n4.out _)|exact HI1.out))):g≠gb3));have n11:=C ((by rw[hg];exact Nat.ne_of_gt (IsS89.lt (show IsS89 w0 _ g s0_0 t7 t8 from by repeat(first|(with_reducible first|exact HI1.out|apply IsS89.alloc|apply IsS89.drewN|apply IsS89.drew|apply IsS89.set_1|apply IsS89.set_2|refine IsS89.far ?_ n0.out _|refine IsS89.far ?_ n4.out _)|exact HI1.out))):gb3≠g));replace BK1:=eK BK1 hb;replace BK2:=eK BK2 hb;replace HK:=C (KeepBut.trans (show KeepBut w _ _ _ from uH) (KeepBut.of_below hb g none) (.inl rfl));replace HB:=C (below_step (by repeat(first|(with_reducible first|exact HB.out|apply bA|apply bN|apply b1|refine below_set ?_ (IsS89.ge HI1.out)|refine below_set ?_ GE1.out|refine below_set ?_ GE2.out)|exact HB.out)) hb);replace HI1:=C (IsS89.below (by repeat(first|(with_reducible first|exact HI1.out|apply IsS89.alloc|apply IsS89.drewN|apply IsS89.drew|apply IsS89.set_1|apply IsS89.set_2|refine IsS89.far ?_ n0.out _|refine IsS89.far ?_ n4.out _)|exact HI1.out)) hb);clear hb hg;have:=n7.out;have:=n6.out;have:=n9.out;have:=n8.out;have:=n11.out;have:=n10.out;have hcz2_0:w5.cell? ⟨gb3,0,none⟩=some (V I 0):=(blk_cell BK3.out 0).trans rfl;have hcz2_1:w5.cell? ⟨gb3,1,none⟩=some (V I 0):=(blk_cell BK3.out 1).trans rfl;have hfz2_0:=blk_frozen BK3.out 0;have hfz2_1:=blk_frozen BK3.out 1;have hcz3_0:w5.cell? ⟨gb2,0,none⟩=some (V I t1):=(blk_cell BK2.out 0).trans rfl;have hcz3_1:w5.cell? ⟨gb2,1,none⟩=some (V I t2):=(blk_cell BK2.out 1).trans rfl;have hfz3_0:=blk_frozen BK2.out 0;have hfz3_1:=blk_frozen BK2.out 1;have:=n1.out;have:=n0.out;obtain⟨_,_,_,_,_,_,_,_⟩:=d4 BK1.out))
 refine bodyPost_ret (results_cell_row rfl _ _ gb1 75 #[V I ji1,V I ji2,V I ji3,V I ji4] (0,0) _ rfl (bK BK1.out) underlying75 rfl (by kernel_rfl)) rfl ?_
 exact⟨by first|rfl|(simp[errW_none,errW_some]<;>rfl)|(simp only[←hji1,←hji2,←hji3,←hji4];first|rfl|(simp[errW_none,errW_some]<;>rfl))|(simp[*,errW_none,errW_some]<;>rfl),by repeat(first|(with_reducible first|exact HI1.out|apply IsS89.alloc|apply IsS89.drewN|apply IsS89.drew|apply IsS89.set_1|apply IsS89.set_2|refine IsS89.far ?_ n0.out _|refine IsS89.far ?_ n4.out _|refine IsS89.far ?_ n10.out _)|exact HI1.out),by repeat(first|(with_reducible first|exact HB.out|apply bA|apply bN|apply b1|refine below_set ?_ (IsS89.ge HI1.out)|refine below_set ?_ GE1.out|refine below_set ?_ GE2.out|refine below_set ?_ GE3.out)|exact HB.out),uH⟩
def spec_l10Object.j0:Nat→List Int→Int→Int→List (S126)→Int→Int→Int→Int→Int→Option ((List (S126))×Int×Int×Int×Int×Int×Int×Int)
 |0,_,_,_,_,_,_,_,_,_=>none
 |k+1,x1000,x1001,x1002,x198000,x198001,x198002,x198003,x198004,x198005=>(spec_l01Once.f x1000 x1001 x1002 3).bind fun bt207=>(if bt207.1=true then((spec_l02Box.f x1000 bt207.2.1 bt207.2.2).bind fun bt210=>(some ((([(⟨bt210.1,bt210.2.1⟩:S126),(⟨bt210.2.2.1,bt210.2.1⟩:S126),(⟨bt210.2.2.1,bt210.2.2.2.1⟩:S126),(⟨bt210.1,bt210.2.2.2.1⟩:S126)]:List (S126))),x198001,x198002,x198003,x198004,x198005,bt210.2.2.2.2.1,bt210.2.2.2.2.2))) else(some (x198000,x198001,x198002,x198003,x198004,x198005,bt207.2.1,bt207.2.2)))
def spec_l10Object.f (k:Nat) (s0_0:List Int) (s0_1:Int) (s0_2:Int):Option ((List (S126))×Int×Int×Int×Int×Int×Int×Int):=(spec_l08Path.f k s0_0 s0_1 s0_2).bind fun bt179=>((spec_l01Below.f s0_0 bt179.2.1 bt179.2.2 256).bind fun bt184=>((spec_l01PickInt.f s0_0 bt184.2.1 bt184.2.2 (([0,255,128,bt184.1]:List Int))).bind fun bt190=>((spec_l07Full.f).bind fun bt193=>((spec_l01Once.f s0_0 bt190.2.1 bt190.2.2 3).bind fun bt198=>(if bt198.1=true then((spec_l02Box.f s0_0 bt198.2.1 bt198.2.2).bind fun bt201=>(spec_l10Object.j0 k s0_0 bt201.2.2.2.2.1 bt201.2.2.2.2.2 bt179.1 bt190.1 bt201.1 bt201.2.1 bt201.2.2.1 bt201.2.2.2.1)) else(spec_l10Object.j0 k s0_0 bt198.2.1 bt198.2.2 bt179.1 bt190.1 bt193.1 bt193.2.1 bt193.2.2.1 bt193.2.2.2))))))
theorem spec_l10Object.calls (k:Nat) (g:Nat) (s0_0:List Int) (s0_1:Int) (s0_2:Int) (r1:List (S126)) (r2:Int) (r3:Int) (r4:Int) (r5:Int) (r6:Int) (r7:Int) (r8:Int) (w0 w:World) (hI:IsS89 w0 w g s0_0 s0_1 s0_2) (hB:Below w0.heap.size w0 w) (h:spec_l10Object.f k s0_0 s0_1 s0_2=some (r1,r2,r3,r4,r5,r6,r7,r8)):
 Calls prog 85 #[.pointer (some ⟨g,0,none⟩)] w fun e w'=>∃v0_:Value,e=.returned (.agg #[v0_,V I r2,V I r3,V I r4,V I r5,V I r6])∧Kd.R k126 126 w' w.heap.size (fun _=>True) v0_ r1∧IsS89 w0 w' g s0_0 r7 r8∧Below w0.heap.size w0 w'∧KeepBut w w' g none:=by
 have hu1:=underlying77
 have hu2:=underlying75
 have hu3:=underlying126
 have HI1:=C hI
 have HK:=C (KeepBut.refl w g none)
 have HL:=C hB.size
 clear hI
 have HW1:=C hB.size
 have HB:=C hB
 clear hB
 have H:=h
 unfold spec_l10Object.f at H
 clear h
 obtain⟨⟨t1,t2,t3⟩,A1,H⟩:=bnd H
 dsimp only at H
 obtain⟨⟨t4,t5,t6⟩,A2,H⟩:=bnd H
 dsimp only at H
 obtain⟨y1,hy1⟩:∃y_:List Int,y_=(([0,255,128,t4]:List Int)):=⟨_,rfl⟩
 replace H:((spec_l01PickInt.f s0_0 t5 t6 y1).bind fun bt190=>((spec_l07Full.f).bind fun bt193=>((spec_l01Once.f s0_0 bt190.2.1 bt190.2.2 3).bind fun bt198=>(if bt198.1=true then((spec_l02Box.f s0_0 bt198.2.1 bt198.2.2).bind fun bt201=>(spec_l10Object.j0 k s0_0 bt201.2.2.2.2.1 bt201.2.2.2.2.2 t1 bt190.1 bt201.1 bt201.2.1 bt201.2.2.1 bt201.2.2.2.1)) else(spec_l10Object.j0 k s0_0 bt198.2.1 bt198.2.2 t1 bt190.1 bt193.1 bt193.2.1 bt193.2.2.1 bt193.2.2.2)))))=some (r1,r2,r3,r4,r5,r6,r7,r8):=gy hy1 H
 have Ny1:=C hy1
 clear hy1
 obtain⟨⟨t7,t8,t9⟩,A3,H⟩:=bnd H
 dsimp only at H
 obtain⟨⟨t10,t11,t12,t13⟩,A4,H⟩:=bnd H
 dsimp only at H
 obtain⟨⟨t14,t15,t16⟩,A5,H⟩:=bnd H
 dsimp only at H
 have HC1:=C H
 clear H
 go_enter func85,ntmps85
 go_upto_if 15 with(first|((with_reducible refine J (N:=2) rfl ?_);refine Fix.be 2 #[L none 0 0,V I 0,V I 0,V I 0,V I 0,V I 0] 77 ?_;intro gb1 hg w1 BK1 hb;have GW1:=C ((by rw[hg];exact(keep_size (w:=w) (g:=g) (row:=none) (show KeepBut w _ _ _ from uH)):w.heap.size≤gb1));have GE1:=C ((Nat.le_trans HW1.out (by rw[hg];exact(keep_size (w:=w) (g:=g) (row:=none) (show KeepBut w _ _ _ from uH)):w.heap.size≤gb1):w0.heap.size≤gb1));have n0:=C ((by rw[hg];exact Nat.ne_of_lt (IsS89.lt (show IsS89 w0 _ g s0_0 s0_1 s0_2 from by repeat(first|(with_reducible first|exact HI1.out|apply IsS89.alloc|apply IsS89.drewN|apply IsS89.drew|apply IsS89.set_1|apply IsS89.set_2)|exact HI1.out))):g≠gb1));have n1:=C ((by rw[hg];exact Nat.ne_of_gt (IsS89.lt (show IsS89 w0 _ g s0_0 s0_1 s0_2 from by repeat(first|(with_reducible first|exact HI1.out|apply IsS89.alloc|apply IsS89.drewN|apply IsS89.drew|apply IsS89.set_1|apply IsS89.set_2)|exact HI1.out))):gb1≠g));replace HK:=C (KeepBut.trans (show KeepBut w _ _ _ from uH) (KeepBut.of_below hb g none) (.inl rfl));replace HB:=C (below_step (by repeat(first|(with_reducible first|exact HB.out|apply bA|apply bN|apply b1|refine below_set ?_ (IsS89.ge HI1.out))|exact HB.out)) hb);replace HI1:=C (IsS89.below (by repeat(first|(with_reducible first|exact HI1.out|apply IsS89.alloc|apply IsS89.drewN|apply IsS89.drew|apply IsS89.set_1|apply IsS89.set_2)|exact HI1.out)) hb);clear hb hg)|((with_reducible refine F (f:=105) rfl ?_);refine gl 105 (some 6) func105 #[.pointer (some ⟨g,0,none⟩)] ?_;(with_reducible refine(spec_l08Path.calls k g s0_0 s0_1 s0_2 t1 t2 t3 w0 _ ?side1 ?side2 A1.out).mono ?_);(case side1=>repeat(first|(with_reducible first|exact HI1.out|apply IsS89.alloc|apply IsS89.drewN|apply IsS89.drew|apply IsS89.set_1|apply IsS89.set_2|refine IsS89.far ?_ n0.out _)|exact HI1.out));(case side2=>repeat(first|(with_reducible first|exact HB.out|apply bA|apply bN|apply b1|refine below_set ?_ (IsS89.ge HI1.out)|refine below_set ?_ GE1.out)|exact HB.out));rintro e w2 ⟨v1,rfl,ho1,hi,hb,hk⟩;refine⟨_,rfl,?_⟩;have HO1:=C (Kd.R_lower ho1 (keep_size (w:=w) (g:=g) (row:=none) (show KeepBut w _ _ _ from uH)));replace BK1:=C (KeepBut.blk hk (g':=gb1) (o:=.cells #[L none 0 0,V I 0,V I 0,V I 0,V I 0,V I 0] 77 (0,0)) (uK BK1.out) n1.out (by simp));replace HK:=C (KeepBut.trans (show KeepBut w _ _ _ from uH) hk (.inl rfl));replace HB:=C (hb);replace HI1:=C (hi);clear hb hi hk ho1)|((with_reducible refine F (f:=73) rfl ?_);refine gl 73 (some 9) func73 #[.pointer (some ⟨g,0,none⟩),V I 256] ?_;(with_reducible refine(spec_l01Below.calls g s0_0 t2 t3 256 t4 t5 t6 w0 _ ?side1 ?side2 A2.out).mono ?_);(case side1=>repeat(first|(with_reducible first|exact HI1.out|apply IsS89.alloc|apply IsS89.drewN|apply IsS89.drew|apply IsS89.set_1|apply IsS89.set_2|refine IsS89.far ?_ n0.out _)|exact HI1.out));(case side2=>repeat(first|(with_reducible first|exact HB.out|apply bA|apply bN|apply b1|refine below_set ?_ (IsS89.ge HI1.out)|refine below_set ?_ GE1.out)|exact HB.out));rintro e w3 ⟨rfl,hi,hb,hk⟩;refine⟨_,rfl,?_⟩;replace BK1:=C (KeepBut.blk hk (g':=gb1) (o:=.cells #[L none 0 0,V I 0,V I 0,V I 0,V I 0,V I 0] 77 (0,0)) (uK BK1.out) n1.out (by simp));replace HO1:=C (X (Kd.R_keep (IsS89.apart (show IsS89 w0 _ g s0_0 t2 t3 from by repeat(first|(with_reducible first|exact HI1.out|apply IsS89.alloc|apply IsS89.drewN|apply IsS89.drew|apply IsS89.set_1|apply IsS89.set_2|refine IsS89.far ?_ n0.out _)|exact HI1.out)) (uR HO1.out) (by decide)) hk (fun _ h=>h.2)) (fun _ h=>h.1));replace HK:=C (KeepBut.trans (show KeepBut w _ _ _ from uH) hk (.inl rfl));replace HB:=C (hb);replace HI1:=C (hi);clear hb hi hk)|((with_reducible refine J (N:=10) rfl ?_);refine Kd.R_lit (Kd.int .i64) _ 3 ?hg (N:=10) ?hd (xs:=([0,255,128,t4]:List Int)) (inner:= [V I 0,V I 255,V I 128,V I t4]) (ok:=fun _=>True) (okp:=fun _=>True) ?hr ?hp (fun _ hk=>hk) trivial (Below.refl _ _) (Nat.le_refl _) (by simp) ?_;(case hd=>rfl);(case hg=>rfl);(case hr=>exact Fix.hr);(case hp=>exact(Reps.one (show Kd.M (Kd.int .i64) _ _ _ 0 [V I 0] from rfl) (Reps.one (show Kd.M (Kd.int .i64) _ _ _ 255 [V I 255] from rfl) (Reps.one (show Kd.M (Kd.int .i64) _ _ _ 128 [V I 128] from rfl) (Reps.one (show Kd.M (Kd.int .i64) _ _ _ t4 [V I t4] from rfl) (Reps.none _ _))))));intro v2 w4 ho2 hb hg_ hnew_;clear hg_ hnew_;(first|rw[←Ny1.out]at ho2|(simp only[Int.reduceToNat]at ho2;rw[←Ny1.out]at ho2));have HO2:=C (Kd.R_lower ho2 (keep_size (w:=w) (g:=g) (row:=none) (show KeepBut w _ _ _ from uH)));replace HO1:=eR HO1 hb;replace BK1:=eK BK1 hb;replace HK:=C (KeepBut.trans (show KeepBut w _ _ _ from uH) (KeepBut.of_below hb g none) (.inl rfl));replace HB:=C (below_step (by repeat(first|(with_reducible first|exact HB.out|apply bA|apply bN|apply b1|refine below_set ?_ (IsS89.ge HI1.out)|refine below_set ?_ GE1.out)|exact HB.out)) hb);replace HI1:=C (IsS89.below (by repeat(first|(with_reducible first|exact HI1.out|apply IsS89.alloc|apply IsS89.drewN|apply IsS89.drew|apply IsS89.set_1|apply IsS89.set_2|refine IsS89.far ?_ n0.out _)|exact HI1.out)) hb);clear hb ho2;obtain⟨Ao1,co1,rfl⟩:=Kd.R_slice HO2.out)|((with_reducible refine F (f:=75) rfl ?_);refine gl 75 (some 11) func75 #[.pointer (some ⟨g,0,none⟩),L Ao1 y1.length co1] ?_;(with_reducible refine(spec_l01PickInt.calls g s0_0 t5 t6 _ _ y1 t7 t8 t9 w0 _ ?side1 ?side2 ?side3 ?side4 ?side5 A3.out).mono ?_);(case side1=>repeat(first|(with_reducible first|exact HI1.out|apply IsS89.alloc|apply IsS89.drewN|apply IsS89.drew|apply IsS89.set_1|apply IsS89.set_2|refine IsS89.far ?_ n0.out _)|exact HI1.out));(case side2=>repeat(first|(with_reducible first|exact HB.out|apply bA|apply bN|apply b1|refine below_set ?_ (IsS89.ge HI1.out)|refine below_set ?_ GE1.out)|exact HB.out));(case side3=>exact uC (Kd.R_reads' HO2.out).2.2);(case side4=>exact(Kd.R_reads' HO2.out).2.1);(case side5=>exact far_slice (IsS89.own_ne HI1.out HO2.out (by decide)));rintro e w5 ⟨rfl,hi,hb,hk⟩;refine⟨_,rfl,?_⟩;replace BK1:=C (KeepBut.blk hk (g':=gb1) (o:=.cells #[L none 0 0,V I 0,V I 0,V I 0,V I 0,V I 0] 77 (0,0)) (uK BK1.out) n1.out (by simp));replace HO1:=C (X (Kd.R_keep (IsS89.apart (show IsS89 w0 _ g s0_0 t5 t6 from by repeat(first|(with_reducible first|exact HI1.out|apply IsS89.alloc|apply IsS89.drewN|apply IsS89.drew|apply IsS89.set_1|apply IsS89.set_2|refine IsS89.far ?_ n0.out _)|exact HI1.out)) (uR HO1.out) (by decide)) hk (fun _ h=>h.2)) (fun _ h=>h.1));replace HO2:=C (X (Kd.R_keep (IsS89.apart (show IsS89 w0 _ g s0_0 t5 t6 from by repeat(first|(with_reducible first|exact HI1.out|apply IsS89.alloc|apply IsS89.drewN|apply IsS89.drew|apply IsS89.set_1|apply IsS89.set_2|refine IsS89.far ?_ n0.out _)|exact HI1.out)) (uR HO2.out) (by decide)) hk (fun _ h=>h.2)) (fun _ h=>h.1));replace HK:=C (KeepBut.trans (show KeepBut w _ _ _ from uH) hk (.inl rfl));replace HB:=C (hb);replace HI1:=C (hi);clear hb hi hk)|((with_reducible refine F (f:=106) rfl ?_);refine gl 106 (some 12) func106 #[] ?_;(with_reducible refine(spec_l07Full.calls t10 t11 t12 t13 _ A4.out).mono ?_);rintro e w6 ⟨rfl,hb⟩;refine⟨_,rfl,?_⟩;replace HO1:=eR HO1 hb;replace HO2:=eR HO2 hb;replace BK1:=eK BK1 hb;replace HK:=C (KeepBut.trans (show KeepBut w _ _ _ from uH) (KeepBut.of_below hb g none) (.inl rfl));replace HB:=C (below_step (by repeat(first|(with_reducible first|exact HB.out|apply bA|apply bN|apply b1|refine below_set ?_ (IsS89.ge HI1.out)|refine below_set ?_ GE1.out)|exact HB.out)) hb);replace HI1:=C (IsS89.below (by repeat(first|(with_reducible first|exact HI1.out|apply IsS89.alloc|apply IsS89.drewN|apply IsS89.drew|apply IsS89.set_1|apply IsS89.set_2|refine IsS89.far ?_ n0.out _)|exact HI1.out)) hb);clear hb;obtain⟨Ao2,co2,rfl⟩:=Kd.R_slice HO1.out)|((with_reducible refine J (N:=3) rfl ?_);refine Fix.be 3 #[L none 0 0,V I 0,V I 0,V I 0,V I 0,V I 0] 77 ?_;intro gb2 hg w7 BK2 hb;have GW2:=C ((by rw[hg];exact(keep_size (w:=w) (g:=g) (row:=none) (show KeepBut w _ _ _ from uH)):w.heap.size≤gb2));have GE2:=C ((Nat.le_trans HW1.out (by rw[hg];exact(keep_size (w:=w) (g:=g) (row:=none) (show KeepBut w _ _ _ from uH)):w.heap.size≤gb2):w0.heap.size≤gb2));have n2:=nL hg BK1;have n3:=nG hg BK1;have n4:=C ((by rw[hg];exact Nat.ne_of_lt (IsS89.lt (show IsS89 w0 _ g s0_0 t8 t9 from by repeat(first|(with_reducible first|exact HI1.out|apply IsS89.alloc|apply IsS89.drewN|apply IsS89.drew|apply IsS89.set_1|apply IsS89.set_2|refine IsS89.far ?_ n0.out _)|exact HI1.out))):g≠gb2));have n5:=C ((by rw[hg];exact Nat.ne_of_gt (IsS89.lt (show IsS89 w0 _ g s0_0 t8 t9 from by repeat(first|(with_reducible first|exact HI1.out|apply IsS89.alloc|apply IsS89.drewN|apply IsS89.drew|apply IsS89.set_1|apply IsS89.set_2|refine IsS89.far ?_ n0.out _)|exact HI1.out))):gb2≠g));replace HO1:=eR HO1 hb;replace HO2:=eR HO2 hb;replace BK1:=eK BK1 hb;replace HK:=C (KeepBut.trans (show KeepBut w _ _ _ from uH) (KeepBut.of_below hb g none) (.inl rfl));replace HB:=C (below_step (by repeat(first|(with_reducible first|exact HB.out|apply bA|apply bN|apply b1|refine below_set ?_ (IsS89.ge HI1.out)|refine below_set ?_ GE1.out)|exact HB.out)) hb);replace HI1:=C (IsS89.below (by repeat(first|(with_reducible first|exact HI1.out|apply IsS89.alloc|apply IsS89.drewN|apply IsS89.drew|apply IsS89.set_1|apply IsS89.set_2|refine IsS89.far ?_ n0.out _)|exact HI1.out)) hb);clear hb hg;have:=n3.out;have:=n2.out;have:=n5.out;have:=n4.out;obtain⟨_,_,_,_,_,_,_,_,_,_,_,_⟩:=d6 BK2.out)|((with_reducible refine F (f:=74) rfl ?_);refine gl 74 (some 15) func74 #[.pointer (some ⟨g,0,none⟩),V I 3] ?_;(with_reducible refine(spec_l01Once.calls g s0_0 t8 t9 3 t14 t15 t16 w0 _ ?side1 ?side2 A5.out).mono ?_);(case side1=>repeat(first|(with_reducible first|exact HI1.out|apply IsS89.alloc|apply IsS89.drewN|apply IsS89.drew|apply IsS89.set_1|apply IsS89.set_2|refine IsS89.far ?_ n0.out _|refine IsS89.far ?_ n4.out _)|exact HI1.out));(case side2=>repeat(first|(with_reducible first|exact HB.out|apply bA|apply bN|apply b1|refine below_set ?_ (IsS89.ge HI1.out)|refine below_set ?_ GE1.out|refine below_set ?_ GE2.out)|exact HB.out));rintro e w8 ⟨rfl,hi,hb,hk⟩;refine⟨_,rfl,?_⟩;replace BK1:=C (KeepBut.blk hk (g':=gb1) (o:=.cells #[L none 0 0,V I 0,V I 0,V I 0,V I 0,V I 0] 77 (0,0)) (bK BK1.out) n1.out (by simp));replace HO1:=C (X (Kd.R_keep (IsS89.apart (show IsS89 w0 _ g s0_0 t8 t9 from by repeat(first|(with_reducible first|exact HI1.out|apply IsS89.alloc|apply IsS89.drewN|apply IsS89.drew|apply IsS89.set_1|apply IsS89.set_2|refine IsS89.far ?_ n0.out _|refine IsS89.far ?_ n4.out _)|exact HI1.out)) (X (fR (Y HO1.out BK2.out (by decide))) (fun _ h_=>h_.1)) (by decide)) hk (fun _ h=>h.2)) (fun _ h=>h.1));replace HO2:=C (X (Kd.R_keep (IsS89.apart (show IsS89 w0 _ g s0_0 t8 t9 from by repeat(first|(with_reducible first|exact HI1.out|apply IsS89.alloc|apply IsS89.drewN|apply IsS89.drew|apply IsS89.set_1|apply IsS89.set_2|refine IsS89.far ?_ n0.out _|refine IsS89.far ?_ n4.out _)|exact HI1.out)) (X (fR (Y HO2.out BK2.out (by decide))) (fun _ h_=>h_.1)) (by decide)) hk (fun _ h=>h.2)) (fun _ h=>h.1));replace BK2:=C (KeepBut.blk hk (g':=gb2) (o:=.cells #[L Ao2 t1.length co2,V I t7,V I t10,V I t11,V I t12,V I t13] 77 (0,0)) (bK BK2.out) n5.out (by simp));replace HK:=C (KeepBut.trans (show KeepBut w _ _ _ from uH) hk (.inl rfl));replace HB:=C (hb);replace HI1:=C (hi);clear hb hi hk))
 (try simp only[Act.put,List.setIfInBounds_toArray,List.set_cons_zero,List.set_cons_succ])
 go_cut [] (fun wc=>∃(kq:Nat) (x1_6:Int) (x2_6:Int) (x3_6:Int) (x4_6:Int) (x5_6:Int) (x6_6:Int),D (spec_l10Object.j0 kq s0_0 x1_6 x2_6 t1 t7 x3_6 x4_6 x5_6 x6_6=some (r1,r2,r3,r4,r5,r6,r7,r8))∧D (kq≤k)∧D (Kd.R k126 126 wc w.heap.size (fun _=>True) (L Ao2 t1.length co2) t1)∧D (wc.heap[gb1]? =some (.cells #[(L none 0 0),V I 0,V I 0,V I 0,V I 0,V I 0] 77 (0,0)))∧D (wc.heap[gb2]? =some (.cells #[(L Ao2 t1.length co2),V I t7,V I x3_6,V I x4_6,V I x5_6,V I x6_6] 77 (0,0)))∧D (IsS89 w0 wc g s0_0 x1_6 x2_6)∧D (KeepBut w wc g none)∧D (Below w0.heap.size w0 wc))
 case first=>
  have H:=HC1.out
  clear HC1
  by_cases c1:t14=true
  rotate_left
  ·obtain rfl:=nt c1
   replace H:=nf H
   have H':=C H
   clear H
   go_wp2
   go_meet
   case rel=>exact⟨_,(t15),(t16),(t10),(t11),(t12),(t13),H',⟨oL⟩,⟨fR HO1.out⟩,⟨bK BK1.out⟩,⟨bK BK2.out⟩,⟨by repeat(first|(with_reducible first|exact HI1.out|apply IsS89.alloc|apply IsS89.drewN|apply IsS89.drew|apply IsS89.set_1|apply IsS89.set_2|refine IsS89.far ?_ n0.out _|refine IsS89.far ?_ n4.out _)|exact HI1.out)⟩,⟨uH⟩,⟨by repeat(first|(with_reducible first|exact HB.out|apply bA|apply bN|apply b1|refine below_set ?_ (IsS89.ge HI1.out)|refine below_set ?_ GE1.out|refine below_set ?_ GE2.out)|exact HB.out)⟩⟩
  subst c1
  rw[if_pos rfl]at H
  obtain⟨⟨t17,t18,t19,t20,t21,t22⟩,A6,H⟩:=bnd H
  dsimp only at H
  have H':=C H
  clear H
  go_wp2_with (first|((with_reducible refine F (f:=107) rfl ?_);refine gl 107 (some 17) func107 #[.pointer (some ⟨g,0,none⟩)] ?_;(with_reducible refine(spec_l02Box.calls g s0_0 t15 t16 t17 t18 t19 t20 t21 t22 w0 _ ?side1 ?side2 A6.out).mono ?_);(case side1=>repeat(first|(with_reducible first|exact HI1.out|apply IsS89.alloc|apply IsS89.drewN|apply IsS89.drew|apply IsS89.set_1|apply IsS89.set_2|refine IsS89.far ?_ n0.out _|refine IsS89.far ?_ n4.out _)|exact HI1.out));(case side2=>repeat(first|(with_reducible first|exact HB.out|apply bA|apply bN|apply b1|refine below_set ?_ (IsS89.ge HI1.out)|refine below_set ?_ GE1.out|refine below_set ?_ GE2.out)|exact HB.out));rintro e w9 ⟨rfl,hi,hb,hk⟩;refine⟨_,rfl,?_⟩;replace BK1:=C (KeepBut.blk hk (g':=gb1) (o:=.cells #[L none 0 0,V I 0,V I 0,V I 0,V I 0,V I 0] 77 (0,0)) (uK BK1.out) n1.out (by simp));replace HO1:=C (X (Kd.R_keep (IsS89.apart (show IsS89 w0 _ g s0_0 t15 t16 from by repeat(first|(with_reducible first|exact HI1.out|apply IsS89.alloc|apply IsS89.drewN|apply IsS89.drew|apply IsS89.set_1|apply IsS89.set_2|refine IsS89.far ?_ n0.out _|refine IsS89.far ?_ n4.out _)|exact HI1.out)) (uR HO1.out) (by decide)) hk (fun _ h=>h.2)) (fun _ h=>h.1));replace HO2:=C (X (Kd.R_keep (IsS89.apart (show IsS89 w0 _ g s0_0 t15 t16 from by repeat(first|(with_reducible first|exact HI1.out|apply IsS89.alloc|apply IsS89.drewN|apply IsS89.drew|apply IsS89.set_1|apply IsS89.set_2|refine IsS89.far ?_ n0.out _|refine IsS89.far ?_ n4.out _)|exact HI1.out)) (uR HO2.out) (by decide)) hk (fun _ h=>h.2)) (fun _ h=>h.1));replace BK2:=C (KeepBut.blk hk (g':=gb2) (o:=.cells #[L Ao2 t1.length co2,V I t7,V I t10,V I t11,V I t12,V I t13] 77 (0,0)) (uK BK2.out) n5.out (by simp));replace HK:=C (KeepBut.trans (show KeepBut w _ _ _ from uH) hk (.inl rfl));replace HB:=C (hb);replace HI1:=C (hi);clear hb hi hk;have:=n3.out;have:=n2.out;have:=n5.out;have:=n4.out;obtain⟨_,_,_,_,_,_,_,_,_,_,_,_⟩:=d6 BK2.out))
  go_meet
  case rel=>exact⟨_,(t21),(t22),(t17),(t18),(t19),(t20),H',⟨oL⟩,⟨X (fR (Y HO1.out BK2.out (by decide))) (fun _ hk=>trivial)⟩,⟨bK BK1.out⟩,⟨bK BK2.out⟩,⟨by repeat(first|(with_reducible first|exact HI1.out|apply IsS89.alloc|apply IsS89.drewN|apply IsS89.drew|apply IsS89.set_1|apply IsS89.set_2|refine IsS89.far ?_ n0.out _|refine IsS89.far ?_ n4.out _)|exact HI1.out)⟩,⟨uH⟩,⟨by repeat(first|(with_reducible first|exact HB.out|apply bA|apply bN|apply b1|refine below_set ?_ (IsS89.ge HI1.out)|refine below_set ?_ GE1.out|refine below_set ?_ GE2.out)|exact HB.out)⟩⟩
 case rest=>
  clear HC1
  obtain⟨kq,x1_6,x2_6,x3_6,x4_6,x5_6,x6_6,HA,HJ1,HO_1,BK1,BK2,HI1,HK,HB⟩:=hcut
  cases kq with
  |zero=>exact absurd HA.out (by simp[spec_l10Object.j0])
  |succ kj6=>
   have H:=HA.out
   clear HA
   simp only[spec_l10Object.j0]at H
   obtain⟨⟨t17,t18,t19⟩,A6,H⟩:=bnd H
   dsimp only at H
   by_cases c1:t17=true
   rotate_left
   ·obtain rfl:=nt c1
    replace H:=nf H
    simp only[Option.some.injEq,Prod.mk.injEq]at H
    obtain⟨rfl,rfl,rfl,rfl,rfl,rfl,rfl,rfl⟩:=H
    go_wp2_with (first|((with_reducible refine F (f:=74) rfl ?_);refine gl 74 (some 20) func74 #[.pointer (some ⟨g,0,none⟩),V I 3] ?_;(with_reducible refine(spec_l01Once.calls g s0_0 x1_6 x2_6 3 false t18 t19 w0 _ ?side1 ?side2 A6.out).mono ?_);(case side1=>repeat(first|(with_reducible first|exact HI1.out|apply IsS89.alloc|apply IsS89.drewN|apply IsS89.drew|apply IsS89.set_1|apply IsS89.set_2|refine IsS89.far ?_ n0.out _|refine IsS89.far ?_ n4.out _)|exact HI1.out));(case side2=>repeat(first|(with_reducible first|exact HB.out|apply bA|apply bN|apply b1|refine below_set ?_ (IsS89.ge HI1.out)|refine below_set ?_ GE1.out|refine below_set ?_ GE2.out)|exact HB.out));rintro e w9 ⟨rfl,hi,hb,hk⟩;refine⟨_,rfl,?_⟩;replace HO_1:=C (X (Kd.R_keep (IsS89.apart (show IsS89 w0 _ g s0_0 x1_6 x2_6 from by repeat(first|(with_reducible first|exact HI1.out|apply IsS89.alloc|apply IsS89.drewN|apply IsS89.drew|apply IsS89.set_1|apply IsS89.set_2|refine IsS89.far ?_ n0.out _|refine IsS89.far ?_ n4.out _)|exact HI1.out)) (uR HO_1.out) (by decide)) hk (fun _ h=>h.2)) (fun _ h=>h.1));replace BK1:=C (KeepBut.blk hk (g':=gb1) (o:=.cells #[L none 0 0,V I 0,V I 0,V I 0,V I 0,V I 0] 77 (0,0)) (uK BK1.out) n1.out (by simp));replace BK2:=C (KeepBut.blk hk (g':=gb2) (o:=.cells #[L Ao2 t1.length co2,V I t7,V I x3_6,V I x4_6,V I x5_6,V I x6_6] 77 (0,0)) (uK BK2.out) n5.out (by simp));replace HK:=C (KeepBut.trans (show KeepBut w _ _ _ from uH) hk (.inl rfl));replace HB:=C (hb);replace HI1:=C (hi);clear hb hi hk;have:=n3.out;have:=n2.out;have:=n5.out;have:=n4.out;obtain⟨_,_,_,_,_,_,_,_,_,_,_,_⟩:=d6 BK2.out;have:=n1.out;have:=n0.out;obtain⟨_,_,_,_,_,_,_,_,_,_,_,_⟩:=d6 BK1.out))
    refine bodyPost_ret (results_cell_row rfl _ _ gb1 77 #[L Ao2 t1.length co2,V I t7,V I x3_6,V I x4_6,V I x5_6,V I x6_6] (0,0) _ rfl (bK BK1.out) underlying77 rfl (by kernel_rfl)) rfl ?_
    exact⟨_,rE,X (fR (Y HO_1.out BK1.out (by decide))) (fun _ hk=>trivial),by repeat(first|(with_reducible first|exact HI1.out|apply IsS89.alloc|apply IsS89.drewN|apply IsS89.drew|apply IsS89.set_1|apply IsS89.set_2|refine IsS89.far ?_ n0.out _|refine IsS89.far ?_ n4.out _)|exact HI1.out),by repeat(first|(with_reducible first|exact HB.out|apply bA|apply bN|apply b1|refine below_set ?_ (IsS89.ge HI1.out)|refine below_set ?_ GE1.out|refine below_set ?_ GE2.out)|exact HB.out),uH⟩
   subst c1
   rw[if_pos rfl]at H
   obtain⟨⟨t20,t21,t22,t23,t24,t25⟩,A7,H⟩:=bnd H
   dsimp only at H
   obtain⟨y2,hy2⟩:∃y_:List (S126),y_=(([(⟨t20,t21⟩:S126),(⟨t22,t21⟩:S126),(⟨t22,t23⟩:S126),(⟨t20,t23⟩:S126)]:List (S126))):=⟨_,rfl⟩
   replace H:(some (y2,t7,x3_6,x4_6,x5_6,x6_6,t24,t25))=some (r1,r2,r3,r4,r5,r6,r7,r8):=gy hy2 H
   have Ny2:=C hy2
   clear hy2
   simp only[Option.some.injEq,Prod.mk.injEq]at H
   obtain⟨rfl,rfl,rfl,rfl,rfl,rfl,rfl,rfl⟩:=H
   go_wp2_with (first|((with_reducible refine F (f:=74) rfl ?_);refine gl 74 (some 20) func74 #[.pointer (some ⟨g,0,none⟩),V I 3] ?_;(with_reducible refine(spec_l01Once.calls g s0_0 x1_6 x2_6 3 true t18 t19 w0 _ ?side1 ?side2 A6.out).mono ?_);(case side1=>repeat(first|(with_reducible first|exact HI1.out|apply IsS89.alloc|apply IsS89.drewN|apply IsS89.drew|apply IsS89.set_1|apply IsS89.set_2|refine IsS89.far ?_ n0.out _|refine IsS89.far ?_ n4.out _)|exact HI1.out));(case side2=>repeat(first|(with_reducible first|exact HB.out|apply bA|apply bN|apply b1|refine below_set ?_ (IsS89.ge HI1.out)|refine below_set ?_ GE1.out|refine below_set ?_ GE2.out)|exact HB.out));rintro e w9 ⟨rfl,hi,hb,hk⟩;refine⟨_,rfl,?_⟩;replace HO_1:=C (X (Kd.R_keep (IsS89.apart (show IsS89 w0 _ g s0_0 x1_6 x2_6 from by repeat(first|(with_reducible first|exact HI1.out|apply IsS89.alloc|apply IsS89.drewN|apply IsS89.drew|apply IsS89.set_1|apply IsS89.set_2|refine IsS89.far ?_ n0.out _|refine IsS89.far ?_ n4.out _)|exact HI1.out)) (uR HO_1.out) (by decide)) hk (fun _ h=>h.2)) (fun _ h=>h.1));replace BK1:=C (KeepBut.blk hk (g':=gb1) (o:=.cells #[L none 0 0,V I 0,V I 0,V I 0,V I 0,V I 0] 77 (0,0)) (uK BK1.out) n1.out (by simp));replace BK2:=C (KeepBut.blk hk (g':=gb2) (o:=.cells #[L Ao2 t1.length co2,V I t7,V I x3_6,V I x4_6,V I x5_6,V I x6_6] 77 (0,0)) (uK BK2.out) n5.out (by simp));replace HK:=C (KeepBut.trans (show KeepBut w _ _ _ from uH) hk (.inl rfl));replace HB:=C (hb);replace HI1:=C (hi);clear hb hi hk)|((with_reducible refine F (f:=107) rfl ?_);refine gl 107 (some 22) func107 #[.pointer (some ⟨g,0,none⟩)] ?_;(with_reducible refine(spec_l02Box.calls g s0_0 t18 t19 t20 t21 t22 t23 t24 t25 w0 _ ?side1 ?side2 A7.out).mono ?_);(case side1=>repeat(first|(with_reducible first|exact HI1.out|apply IsS89.alloc|apply IsS89.drewN|apply IsS89.drew|apply IsS89.set_1|apply IsS89.set_2|refine IsS89.far ?_ n0.out _|refine IsS89.far ?_ n4.out _)|exact HI1.out));(case side2=>repeat(first|(with_reducible first|exact HB.out|apply bA|apply bN|apply b1|refine below_set ?_ (IsS89.ge HI1.out)|refine below_set ?_ GE1.out|refine below_set ?_ GE2.out)|exact HB.out));rintro e w10 ⟨rfl,hi,hb,hk⟩;refine⟨_,rfl,?_⟩;replace HO_1:=C (X (Kd.R_keep (IsS89.apart (show IsS89 w0 _ g s0_0 t18 t19 from by repeat(first|(with_reducible first|exact HI1.out|apply IsS89.alloc|apply IsS89.drewN|apply IsS89.drew|apply IsS89.set_1|apply IsS89.set_2|refine IsS89.far ?_ n0.out _|refine IsS89.far ?_ n4.out _)|exact HI1.out)) (uR HO_1.out) (by decide)) hk (fun _ h=>h.2)) (fun _ h=>h.1));replace BK1:=C (KeepBut.blk hk (g':=gb1) (o:=.cells #[L none 0 0,V I 0,V I 0,V I 0,V I 0,V I 0] 77 (0,0)) (uK BK1.out) n1.out (by simp));replace BK2:=C (KeepBut.blk hk (g':=gb2) (o:=.cells #[L Ao2 t1.length co2,V I t7,V I x3_6,V I x4_6,V I x5_6,V I x6_6] 77 (0,0)) (uK BK2.out) n5.out (by simp));replace HK:=C (KeepBut.trans (show KeepBut w _ _ _ from uH) hk (.inl rfl));replace HB:=C (hb);replace HI1:=C (hi);clear hb hi hk)|((with_reducible refine J (N:=4) rfl ?_);refine Fix.be 4 #[V I 0,V I 0,V I 0,V I 0] 75 ?_;intro gb3 hg w11 BK3 hb;have GW3:=C ((by rw[hg];exact(keep_size (w:=w) (g:=g) (row:=none) (show KeepBut w _ _ _ from uH)):w.heap.size≤gb3));have GE3:=C ((Nat.le_trans HW1.out (by rw[hg];exact(keep_size (w:=w) (g:=g) (row:=none) (show KeepBut w _ _ _ from uH)):w.heap.size≤gb3):w0.heap.size≤gb3));have n6:=nL hg BK1;have n7:=nG hg BK1;have n8:=nL hg BK2;have n9:=nG hg BK2;have n10:=C ((by rw[hg];exact Nat.ne_of_lt (IsS89.lt (show IsS89 w0 _ g s0_0 t24 t25 from by repeat(first|(with_reducible first|exact HI1.out|apply IsS89.alloc|apply IsS89.drewN|apply IsS89.drew|apply IsS89.set_1|apply IsS89.set_2|refine IsS89.far ?_ n0.out _|refine IsS89.far ?_ n4.out _)|exact HI1.out))):g≠gb3));have n11:=C ((by rw[hg];exact Nat.ne_of_gt (IsS89.lt (show IsS89 w0 _ g s0_0 t24 t25 from by repeat(first|(with_reducible first|exact HI1.out|apply IsS89.alloc|apply IsS89.drewN|apply IsS89.drew|apply IsS89.set_1|apply IsS89.set_2|refine IsS89.far ?_ n0.out _|refine IsS89.far ?_ n4.out _)|exact HI1.out))):gb3≠g));replace HO_1:=eR HO_1 hb;replace BK1:=eK BK1 hb;replace BK2:=eK BK2 hb;replace HK:=C (KeepBut.trans (show KeepBut w _ _ _ from uH) (KeepBut.of_below hb g none) (.inl rfl));replace HB:=C (below_step (by repeat(first|(with_reducible first|exact HB.out|apply bA|apply bN|apply b1|refine below_set ?_ (IsS89.ge HI1.out)|refine below_set ?_ GE1.out|refine below_set ?_ GE2.out)|exact HB.out)) hb);replace HI1:=C (IsS89.below (by repeat(first|(with_reducible first|exact HI1.out|apply IsS89.alloc|apply IsS89.drewN|apply IsS89.drew|apply IsS89.set_1|apply IsS89.set_2|refine IsS89.far ?_ n0.out _|refine IsS89.far ?_ n4.out _)|exact HI1.out)) hb);clear hb hg;have:=n7.out;have:=n6.out;have:=n9.out;have:=n8.out;have:=n11.out;have:=n10.out;obtain⟨_,_,_,_,_,_,_,_⟩:=d4 BK3.out)|((with_reducible refine J (N:=43) rfl ?_);refine Kd.R_lit k126 _ 126 ?hg (N:=43) ?hd (xs:=([(⟨t20,t21⟩:S126),(⟨t22,t21⟩:S126),(⟨t22,t23⟩:S126),(⟨t20,t23⟩:S126)]:List (S126))) (inner:= [V I t20,V I t21,V I t22,V I t21,V I t22,V I t23,V I t20,V I t23]) (ok:=fun _=>True) (okp:=fun _=>True) ?hr ?hp (fun _ hk=>hk) trivial (Below.refl _ _) (Nat.le_refl _) (by simp) ?_;(case hd=>rfl);(case hg=>rfl);(case hr=>exact Fix.hr);(case hp=>exact(Reps.c2 (show Kd.M k126 _ _ _ (⟨t20,t21⟩:S126) [V I t20,V I t21] from(k126_mkM _ _ _ (⟨t20,t21⟩:S126))) (Reps.c2 (show Kd.M k126 _ _ _ (⟨t22,t21⟩:S126) [V I t22,V I t21] from(k126_mkM _ _ _ (⟨t22,t21⟩:S126))) (Reps.c2 (show Kd.M k126 _ _ _ (⟨t22,t23⟩:S126) [V I t22,V I t23] from(k126_mkM _ _ _ (⟨t22,t23⟩:S126))) (Reps.c2 (show Kd.M k126 _ _ _ (⟨t20,t23⟩:S126) [V I t20,V I t23] from(k126_mkM _ _ _ (⟨t20,t23⟩:S126))) (Reps.none _ _))))));intro v3 w12 ho3 hb hg_ hnew_;clear hg_ hnew_;(first|rw[←Ny2.out]at ho3|(simp only[Int.reduceToNat]at ho3;rw[←Ny2.out]at ho3));have HO3:=C (Kd.R_lower (Kd.R_new' ho3 (Kd.R_lt (X (fR (Y HO_1.out BK3.out (by decide))) (fun _ h_=>h_.1)))) (keep_size (w:=w) (g:=g) (row:=none) (show KeepBut w _ _ _ from uH)));replace HO_1:=C (Kd.R_elder' (X (fR (Y HO_1.out BK3.out (by decide))) (fun _ h_=>h_.1)) (Kd.R_base ho3) hb);replace BK1:=eK BK1 hb;replace BK2:=eK BK2 hb;replace BK3:=C (blk_below (g:=gb3) (o:=.cells #[V I t20,V I t21,V I t22,V I t23] 75 (0,0)) (bK BK3.out) hb);replace HK:=C (KeepBut.trans (show KeepBut w _ _ _ from uH) (KeepBut.of_below hb g none) (.inl rfl));replace HB:=C (below_step (by repeat(first|(with_reducible first|exact HB.out|apply bA|apply bN|apply b1|refine below_set ?_ (IsS89.ge HI1.out)|refine below_set ?_ GE1.out|refine below_set ?_ GE2.out|refine below_set ?_ GE3.out)|exact HB.out)) hb);replace HI1:=C (IsS89.below (show IsS89 w0 ((((w11.setCell ⟨gb3,0,none⟩ (V I t20)).setCell ⟨gb3,1,none⟩ (V I t21)).setCell ⟨gb3,2,none⟩ (V I t22)).setCell ⟨gb3,3,none⟩ (V I t23)) g s0_0 t24 t25 from by repeat(first|(with_reducible first|exact HI1.out|apply IsS89.alloc|apply IsS89.drewN|apply IsS89.drew|apply IsS89.set_1|apply IsS89.set_2|refine IsS89.far ?_ n0.out _|refine IsS89.far ?_ n4.out _|refine IsS89.far ?_ n10.out _)|exact HI1.out)) hb);clear hb ho3;obtain⟨Ao3,co3,rfl⟩:=Kd.R_slice HO3.out;have:=n3.out;have:=n2.out;have:=n5.out;have:=n4.out;obtain⟨_,_,_,_,_,_,_,_,_,_,_,_⟩:=d6 BK2.out;have:=n1.out;have:=n0.out;obtain⟨_,_,_,_,_,_,_,_,_,_,_,_⟩:=d6 BK1.out))
   refine bodyPost_ret (results_cell_row rfl _ _ gb1 77 #[L Ao3 y2.length co3,V I t7,V I x3_6,V I x4_6,V I x5_6,V I x6_6] (0,0) _ rfl (bK BK1.out) underlying77 rfl (by kernel_rfl)) rfl ?_
   exact⟨_,rE,X (fR (Y (Y HO3.out BK2.out (by decide)) BK1.out (by decide))) (fun _ hk=>trivial),by repeat(first|(with_reducible first|exact HI1.out|apply IsS89.alloc|apply IsS89.drewN|apply IsS89.drew|apply IsS89.set_1|apply IsS89.set_2|refine IsS89.far ?_ n0.out _|refine IsS89.far ?_ n4.out _|refine IsS89.far ?_ n10.out _)|exact HI1.out),by repeat(first|(with_reducible first|exact HB.out|apply bA|apply bN|apply b1|refine below_set ?_ (IsS89.ge HI1.out)|refine below_set ?_ GE1.out|refine below_set ?_ GE2.out|refine below_set ?_ GE3.out)|exact HB.out),uH⟩
def spec_l10List.l0:Nat→List (S77)→Int→Int→List Int→Int→Int→Option ((List (S77))×Int×Int)
 |0,_,_,_,_,_,_=>none
 |k+1,x3,x4,x5,x1000,x1001,x1002=>if x5<x4 then((spec_l10Object.f k x1000 x1001 x1002).bind fun bt226=>(if x3.length<2199023255552 then(spec_l10List.l0 k (x3++ [(⟨bt226.1,bt226.2.1,(⟨bt226.2.2.1,bt226.2.2.2.1,bt226.2.2.2.2.1,bt226.2.2.2.2.2.1⟩:S75)⟩:S77)]) x4 (wrap64 (x5+1)) x1000 bt226.2.2.2.2.2.2.1 bt226.2.2.2.2.2.2.2) else(none))) else(some (x3,x1001,x1002))
def spec_l10List.f (k:Nat) (s0_0:List Int) (s0_1:Int) (s0_2:Int):Option ((List (S77))×Int×Int):=(spec_l01Below.f s0_0 s0_1 s0_2 6).bind fun bt223=>(spec_l10List.l0 k (([]:List (S77))) bt223.1 0 s0_0 bt223.2.1 bt223.2.2)
theorem spec_l10List.calls (k:Nat) (g:Nat) (s0_0:List Int) (s0_1:Int) (s0_2:Int) (r1:List (S77)) (r2:Int) (r3:Int) (w0 w:World) (hI:IsS89 w0 w g s0_0 s0_1 s0_2) (hB:Below w0.heap.size w0 w) (h:spec_l10List.f k s0_0 s0_1 s0_2=some (r1,r2,r3)):
 Calls prog 57 #[.pointer (some ⟨g,0,none⟩)] w fun e w'=>∃v0_:Value,e=.returned (v0_)∧Kd.S k77 77 w' w.heap.size (fun _=>True) v0_ r1∧IsS89 w0 w' g s0_0 r2 r3∧Below w0.heap.size w0 w'∧KeepBut w w' g none:=by
 have hu1:=underlying77
 have HI1:=C hI
 have HK:=C (KeepBut.refl w g none)
 have HL:=C hB.size
 clear hI
 have HW1:=C hB.size
 have HB:=C hB
 clear hB
 have H:=h
 unfold spec_l10List.f at H
 clear h
 obtain⟨y1,hy1⟩:∃y_:List (S77),y_=(([]:List (S77))):=⟨_,rfl⟩
 replace H:((spec_l01Below.f s0_0 s0_1 s0_2 6).bind fun bt223=>(spec_l10List.l0 k y1 bt223.1 0 s0_0 bt223.2.1 bt223.2.2))=some (r1,r2,r3):=gy hy1 H
 have Ny1:=C hy1
 clear hy1
 obtain⟨⟨t1,t2,t3⟩,A1,H⟩:=bnd H
 dsimp only at H
 have H':=C H
 clear H
 go_enter func57,ntmps57
 go_wp2_with (first|((with_reducible refine J (N:=7) rfl ?_);refine Kd.S_lit k77 _ 77 ?hg (N:=7) ?hd (xs:=([]:List (S77))) (inner:= []) (ok:=fun _=>True) (okp:=fun _=>True) ?hr ?hp (fun _ hk=>hk) trivial (Below.refl _ _) (Nat.le_refl _) (by simp) ?_;(case hd=>rfl);(case hg=>rfl);(case hr=>exact Fix.hr);(case hp=>exact(Reps.none _ _));intro v1 w2 ho1 hb hg_ hnew_;clear hg_ hnew_;(first|rw[←Ny1.out]at ho1|(simp only[Int.reduceToNat]at ho1;rw[←Ny1.out]at ho1));have HO1:=C (Kd.S_lower ho1 (keep_size (w:=w) (g:=g) (row:=none) (show KeepBut w _ _ _ from uH)));replace HK:=C (KeepBut.trans (show KeepBut w _ _ _ from uH) (KeepBut.of_below hb g none) (.inl rfl));replace HB:=C (below_step (by repeat(first|(with_reducible first|exact HB.out|apply bA|apply bN|apply b1|refine below_set ?_ (IsS89.ge HI1.out))|exact HB.out)) hb);replace HI1:=C (IsS89.below (by repeat(first|(with_reducible first|exact HI1.out|apply IsS89.alloc|apply IsS89.drewN|apply IsS89.drew|apply IsS89.set_1|apply IsS89.set_2)|exact HI1.out)) hb);clear hb ho1)|((with_reducible refine F (f:=73) rfl ?_);refine gl 73 (some 9) func73 #[.pointer (some ⟨g,0,none⟩),V I 6] ?_;(with_reducible refine(spec_l01Below.calls g s0_0 s0_1 s0_2 6 t1 t2 t3 w0 _ ?side1 ?side2 A1.out).mono ?_);(case side1=>repeat(first|(with_reducible first|exact HI1.out|apply IsS89.alloc|apply IsS89.drewN|apply IsS89.drew|apply IsS89.set_1|apply IsS89.set_2)|exact HI1.out));(case side2=>repeat(first|(with_reducible first|exact HB.out|apply bA|apply bN|apply b1|refine below_set ?_ (IsS89.ge HI1.out))|exact HB.out));rintro e w3 ⟨rfl,hi,hb,hk⟩;refine⟨_,rfl,?_⟩;replace HO1:=C (Kd.S_mono (Kd.S_keep (IsS89.apartS (show IsS89 w0 _ g s0_0 s0_1 s0_2 from by repeat(first|(with_reducible first|exact HI1.out|apply IsS89.alloc|apply IsS89.drewN|apply IsS89.drew|apply IsS89.set_1|apply IsS89.set_2)|exact HI1.out)) (uS HO1.out) (by decide)) hk (fun _ h=>h.2)) (fun _ h=>h.1));replace HK:=C (KeepBut.trans (show KeepBut w _ _ _ from uH) hk (.inl rfl));replace HB:=C (hb);replace HI1:=C (hi);clear hb hi hk))
 go_loopg [3,5] k (fun kq v3 v5 w'=>∃(x1_1:List (S77)) (x2_1:Int) (x3_1:Int) (x4_1:Int),v5=V I x2_1∧D (spec_l10List.l0 kq x1_1 t1 x2_1 s0_0 x3_1 x4_1=some (r1,r2,r3))∧D (kq≤k)∧D (Kd.S k77 77 w' w.heap.size (fun _=>True) v3 x1_1)∧D (IsS89 w0 w' g s0_0 x3_1 x4_1)∧D (KeepBut w w' g none)∧D (Below w0.heap.size w0 w'))
 case atStart=>exact⟨(y1),(0),(t2),(t3),rS,H',⟨Nat.le_refl _⟩,⟨fS HO1.out⟩,⟨by repeat(first|(with_reducible first|exact HI1.out|apply IsS89.alloc|apply IsS89.drewN|apply IsS89.drew|apply IsS89.set_1|apply IsS89.set_2)|exact HI1.out)⟩,⟨uH⟩,⟨by repeat(first|(with_reducible first|exact HB.out|apply bA|apply bN|apply b1|refine below_set ?_ (IsS89.ge HI1.out))|exact HB.out)⟩⟩
 case round=>
  clear H'
  obtain⟨x1_1,x2_1,x3_1,x4_1,rfl,HA,HK1,HO_1,HI1,HK,HB⟩:=hrel
  cases gk with
  |zero=>exact absurd HA.out (by simp[spec_l10List.l0])
  |succ k1=>
   have H:=HA.out
   clear HA
   simp only[spec_l10List.l0]at H
   by_cases c1:x2_1<t1
   rotate_left
   ·rw[if_neg c1]at H
    replace c1:=decide_eq_false c1
    simp only[Option.some.injEq,Prod.mk.injEq]at H
    obtain⟨rfl,rfl,rfl⟩:=H
    go_wp2
    go_ret
    exact⟨_,rE,fS HO_1.out,by repeat(first|(with_reducible first|exact HI1.out|apply IsS89.alloc|apply IsS89.drewN|apply IsS89.drew|apply IsS89.set_1|apply IsS89.set_2)|exact HI1.out),by repeat(first|(with_reducible first|exact HB.out|apply bA|apply bN|apply b1|refine below_set ?_ (IsS89.ge HI1.out))|exact HB.out),uH⟩
   rw[if_pos c1]at H
   replace c1:=decide_eq_true c1
   obtain⟨⟨t4,t5,t6,t7,t8,t9,t10,t11⟩,A2,H⟩:=bnd H
   dsimp only at H
   obtain⟨c2,H⟩:=np H
   have LMc1:=C c2
   clear c2
   obtain⟨y2,hy2⟩:∃y_:List (S77),y_=(x1_1++ [(⟨t4,t5,(⟨t6,t7,t8,t9⟩:S75)⟩:S77)]):=⟨_,rfl⟩
   replace H:(spec_l10List.l0 k1 y2 t1 (wrap64 (x2_1+1)) s0_0 t10 t11)=some (r1,r2,r3):=gy hy2 H
   have Ny2:=C hy2
   clear hy2
   have H':=C H
   clear H
   go_wp2_with (first|((with_reducible refine F (f:=85) rfl ?_);refine gl 85 (some 16) func85 #[.pointer (some ⟨g,0,none⟩)] ?_;(with_reducible refine(spec_l10Object.calls k1 g s0_0 x3_1 x4_1 t4 t5 t6 t7 t8 t9 t10 t11 w0 _ ?side1 ?side2 A2.out).mono ?_);(case side1=>repeat(first|(with_reducible first|exact HI1.out|apply IsS89.alloc|apply IsS89.drewN|apply IsS89.drew|apply IsS89.set_1|apply IsS89.set_2)|exact HI1.out));(case side2=>repeat(first|(with_reducible first|exact HB.out|apply bA|apply bN|apply b1|refine below_set ?_ (IsS89.ge HI1.out))|exact HB.out));rintro e w4 ⟨v2,rfl,ho2,hi,hb,hk⟩;refine⟨_,rfl,?_⟩;have HO2:=C (Kd.R_lower ho2 (keep_size (w:=w) (g:=g) (row:=none) (show KeepBut w _ _ _ from uH)));replace HO_1:=C (Kd.S_mono (Kd.S_told (Kd.S_oldK (IsS89.apartS (show IsS89 w0 _ g s0_0 x3_1 x4_1 from by repeat(first|(with_reducible first|exact HI1.out|apply IsS89.alloc|apply IsS89.drewN|apply IsS89.drew|apply IsS89.set_1|apply IsS89.set_2)|exact HI1.out)) (uS HO_1.out) (by decide)) hk) (Kd.R_base ho2)) (fun _ h_=>h_.1));replace HK:=C (KeepBut.trans (show KeepBut w _ _ _ from uH) hk (.inl rfl));replace HB:=C (hb);replace HI1:=C (hi);clear hb hi hk ho2)|((with_reducible refine J (N:=6) rfl ?_);refine Fix.be 6 #[L none 0 0,V I 0,V I 0,V I 0,V I 0,V I 0] 77 ?_;intro gb1 hg w5 BK1 hb;have GW1:=C ((by rw[hg];exact(keep_size (w:=w) (g:=g) (row:=none) (show KeepBut w _ _ _ from uH)):w.heap.size≤gb1));have GE1:=C ((Nat.le_trans HW1.out (by rw[hg];exact(keep_size (w:=w) (g:=g) (row:=none) (show KeepBut w _ _ _ from uH)):w.heap.size≤gb1):w0.heap.size≤gb1));have n0:=C ((by rw[hg];exact Nat.ne_of_lt (IsS89.lt (show IsS89 w0 _ g s0_0 t10 t11 from by repeat(first|(with_reducible first|exact HI1.out|apply IsS89.alloc|apply IsS89.drewN|apply IsS89.drew|apply IsS89.set_1|apply IsS89.set_2)|exact HI1.out))):g≠gb1));have n1:=C ((by rw[hg];exact Nat.ne_of_gt (IsS89.lt (show IsS89 w0 _ g s0_0 t10 t11 from by repeat(first|(with_reducible first|exact HI1.out|apply IsS89.alloc|apply IsS89.drewN|apply IsS89.drew|apply IsS89.set_1|apply IsS89.set_2)|exact HI1.out))):gb1≠g));replace HO_1:=C (Kd.S_below (Kd.S_elderB (uS HO_1.out) gb1 (Nat.le_of_eq hg.symm)) hb);replace HO2:=eR HO2 hb;replace HK:=C (KeepBut.trans (show KeepBut w _ _ _ from uH) (KeepBut.of_below hb g none) (.inl rfl));replace HB:=C (below_step (by repeat(first|(with_reducible first|exact HB.out|apply bA|apply bN|apply b1|refine below_set ?_ (IsS89.ge HI1.out))|exact HB.out)) hb);replace HI1:=C (IsS89.below (by repeat(first|(with_reducible first|exact HI1.out|apply IsS89.alloc|apply IsS89.drewN|apply IsS89.drew|apply IsS89.set_1|apply IsS89.set_2)|exact HI1.out)) hb);clear hb hg;obtain⟨Ao1,co1,rfl⟩:=Kd.R_slice HO2.out;have:=n1.out;have:=n0.out;obtain⟨_,_,_,_,_,_,_,_,_,_,_,_⟩:=d6 BK1.out)|((with_reducible refine gate_store (t:=77) (p:=6) rfl ?_);refine store_event (t:=77) (p:=6) (v:= ?vo_w1) (w1:=((((((w5.setCell ⟨gb1,0,none⟩ (L Ao1 t4.length co1)).setCell ⟨gb1,1,none⟩ (V I t5)).setCell ⟨gb1,2,none⟩ (V I t6)).setCell ⟨gb1,3,none⟩ (V I t7)).setCell ⟨gb1,4,none⟩ (V I t8)).setCell ⟨gb1,5,none⟩ (V I t9))) ?hg ?ho ?hn ?hr ?_;(case ho=>rfl);(case hg=>rfl);(case hn=>rfl);(case hr=>exact Fix.hr);intro w6 hw;replace HO_1:D (Kd.S k77 77 w6 w.heap.size (fun k_=>qn k_ Ao1 t4.length co1∧k_≠gb1) u3 x1_1):=⟨(by rw[hw];exact(Kd.S_mono (fS (Kd.S_mono HO_1.out (fun k_ hk=>(⟨hk,hk.2⟩:_∧k_≠gb1)))) pj))⟩;replace HO2:D (Kd.R _ _ _ _ (fun _=>True) _ _):=tR hw (Y HO2.out BK1.out (by decide)) (fun _ hk=>trivial);replace BK1:D (w6.heap[gb1]? =some (.cells #[L Ao1 t4.length co1,V I t5,V I t6,V I t7,V I t8,V I t9] 77 (0,0))):=⟨(by rw[hw];exact(bK BK1.out))⟩;replace HK:D (KeepBut w w6 g none):=⟨(by rw[hw];exact(show KeepBut w _ _ _ from uH))⟩;replace HB:D (Below w0.heap.size w0 w6):=⟨(by rw[hw];exact(by repeat(first|(with_reducible first|exact HB.out|apply bA|apply bN|apply b1|refine below_set ?_ (IsS89.ge HI1.out)|refine below_set ?_ GE1.out)|exact HB.out)))⟩;replace HI1:D (IsS89 w0 w6 g s0_0 t10 t11):=⟨(by rw[hw];exact(by repeat(first|(with_reducible first|exact HI1.out|apply IsS89.alloc|apply IsS89.drewN|apply IsS89.drew|apply IsS89.set_1|apply IsS89.set_2|refine IsS89.far ?_ n0.out _)|exact HI1.out)))⟩;clear hw;obtain⟨_,_,_,_,_,_,_,_,_,_,_,_⟩:=d6 BK1.out)|((with_reducible refine gate_builtin (b:=.append) (xs:= #[.tmp 17,.tmp 19]) rfl ?_);at_builtin;refine Kd.S_append k77 w.heap.size rfl (.tmp 17) (.tmp 19) 42 77 (.agg #[(L none 0 0),(V I 0),(V I 0),(V I 0),(V I 0),(V I 0)]) 64 rfl underlying42 info77 rfl (by decide) (by omega) u3 x1_1 (⟨t4,t5,(⟨t6,t7,t8,t9⟩:S75)⟩:S77) [L Ao1 t4.length co1,V I t5,V I t6,V I t7,V I t8,V I t9] (fun k_=>k_≠gb1) (fun k_=>some k_=(L Ao1 t4.length co1:Value).ownBlock) rfl rfl ?aP (fun k_ hk_=>((X (ok':=fun k_=>((fun k_=>k_≠gb1)) k_∧qm k_ u3) (Y (Kd.R_apart' (HO2.out) (Kd.S_typed HO_1.out) (by decide)) BK1.out (by decide)) (fun k_ hk=>⟨hk.2,hk.1.2⟩))).1 k_ hk_.symm) ?aF ?aO (Below.refl _ _) ?aS ?aL ?_;(case aP=>exact k77_mkM _ _ _ (⟨t4,t5,(⟨t6,t7,t8,t9⟩:S75)⟩:S77) (X (Kd.R_tight rfl (X (ok':=fun k_=>((fun k_=>k_≠gb1)) k_∧qm k_ u3) (Y (Kd.R_apart' (HO2.out) (Kd.S_typed HO_1.out) (by decide)) BK1.out (by decide)) (fun k_ hk=>⟨hk.2,hk.1.2⟩))) (fun _ h_=>h_)));(case aF=>exact(fun k_ hk=>Kd.freshB (g:=gb1) (o:=.cells #[L Ao1 t4.length co1,V I t5,V I t6,V I t7,V I t8,V I t9] 77 (0,0)) (uK BK1.out) k_ hk));(case aO=>exact(Kd.S_mono (fS HO_1.out) (fun k_ hk=>⟨hk.2,fun e_=>hk.1 e_⟩)));(case aS=>exact(keep_size (w:=w) (g:=g) (row:=none) (show KeepBut w _ _ _ from uH)));(case aL=>have:=LMc1.out;omega);intro v4 w7 ho hb hg hat;rw[←Ny2.out]at ho;have HO3:=C (ho);replace BK1:=gK BK1 hg (Kd.S_away HO_1.out (fun _ hk=>hk.2));replace HB:=C (below_weaken (by repeat(first|(with_reducible first|exact HB.out|apply bA|apply bN|apply b1|refine below_set ?_ (IsS89.ge HI1.out)|refine below_set ?_ GE1.out)|exact HB.out)) HL.out hb);replace HI1:=C (IsS89.grown (show IsS89 w0 _ g s0_0 t10 t11 from by repeat(first|(with_reducible first|exact HI1.out|apply IsS89.alloc|apply IsS89.drewN|apply IsS89.drew|apply IsS89.set_1|apply IsS89.set_2|refine IsS89.far ?_ n0.out _)|exact HI1.out)) hg (IsS89.own_neS HI1.out HO_1.out (by decide)));replace HK:=C (KeepBut.trans (show KeepBut w _ _ _ from uH) (KeepBut.of_grown hg g) (Kd.S_base2 HO_1.out));clear HO_1;clear HO2;clear ho hb hg hat))
   go_roundg k1
   case measure=>have:=HK1.out;omega
   case rel=>exact⟨(y2),(wrap64 (x2_1+1)),(t10),(t11),rS,H',⟨by have:=HK1.out;omega⟩,⟨Kd.S_mono (fS HO3.out) (fun _ hk=>trivial)⟩,⟨by repeat(first|(with_reducible first|exact HI1.out|apply IsS89.alloc|apply IsS89.drewN|apply IsS89.drew|apply IsS89.set_1|apply IsS89.set_2|refine IsS89.far ?_ n0.out _)|exact HI1.out)⟩,⟨uH⟩,⟨by repeat(first|(with_reducible first|exact HB.out|apply bA|apply bN|apply b1|refine below_set ?_ (IsS89.ge HI1.out)|refine below_set ?_ GE1.out)|exact HB.out)⟩⟩
def spec_DrawList.f (k:Nat) (l0:List Int):Option ((List (S77))):=(spec_l01New.f k l0).bind fun bt240=>((spec_l10List.f k bt240.1 bt240.2.1 bt240.2.2).bind fun bt244=>(some bt244.1))
theorem spec_DrawList.calls (k:Nat) (A0:Option Addr) (c0:Nat) (l0:List Int) (r:List (S77)) (w:World) (hr0:Kd.C (Kd.int .u8) w A0 l0.length l0) (hc0:l0.length≤c0) (h:spec_DrawList.f k l0=some r):
 Calls prog 27 #[L A0 l0.length c0] w fun e w'=>∃v0_:Value,e=.returned (v0_)∧Kd.S k77 77 w' w.heap.size (fun _=>True) v0_ r∧Below w.heap.size w w':=by
 have HR1:=C hr0
 have HC1:=C hc0
 (try clear hr0);(try clear hc0)
 have HB:=C (Below.refl w.heap.size w)
 have H:=h
 unfold spec_DrawList.f at H
 clear h
 obtain⟨⟨t1,t2,t3⟩,A1,H⟩:=bnd H
 dsimp only at H
 obtain⟨⟨t4,t5,t6⟩,A2,H⟩:=bnd H
 dsimp only at H
 obtain rfl:=si H
 go_enter func27,ntmps27
 go_wp2_with (first|((with_reducible refine F (f:=42) rfl ?_);refine gl 42 (some 4) func42 #[L A0 l0.length c0] ?_;(with_reducible refine(spec_l01New.calls k _ _ l0 t1 t2 t3 w _ ?side1 ?side2 HC1.out A1.out).mono ?_);(case side1=>exact uB);(case side2=>exact HR1.out);rintro e w1 ⟨g1,rfl,hi,hb,hb1⟩;refine⟨_,rfl,?_⟩;have HI1:=C (hi);replace HB:=C (hb);clear hb hb1 hi)|((with_reducible refine F (f:=57) rfl ?_);refine gl 57 (some 5) func57 #[.pointer (some ⟨g1,0,none⟩)] ?_;(with_reducible refine(spec_l10List.calls k g1 t1 t2 t3 t4 t5 t6 w _ ?side1 ?side2 A2.out).mono ?_);(case side1=>repeat(first|(with_reducible first|exact HI1.out|apply IsS89.alloc|apply IsS89.drewN|apply IsS89.drew|apply IsS89.set_1|apply IsS89.set_2)|exact HI1.out));(case side2=>repeat(first|(with_reducible first|exact HB.out|apply bA|apply bN|apply b1|refine below_set ?_ (IsS89.ge HI1.out))|exact HB.out));rintro e w2 ⟨v1,rfl,ho1,hi,hb,hk⟩;refine⟨_,rfl,?_⟩;have HO1:=C (Kd.S_lower ho1 (below_size (by repeat(first|(with_reducible first|exact HB.out|apply bA|apply bN|apply b1|refine below_set ?_ (IsS89.ge HI1.out))|exact HB.out))));replace HB:=C (hb);replace HI1:=C (hi);clear hb hi hk ho1))
 go_ret
 exact⟨_,rE,fS HO1.out,by repeat(first|(with_reducible first|exact HB.out|apply bA|apply bN|apply b1|refine below_set ?_ (IsS89.ge HI1.out))|exact HB.out)⟩
def spec_l12Height.f (s0_0:List Int) (s0_1:Int) (s0_2:Int):Option (Int×Int×Int):=(spec_l01PickInt.f s0_0 s0_1 s0_2 (([1,2,4,8,8,16,32]:List Int))).bind fun bt252=>(some (bt252.1,bt252.2.1,bt252.2.2))
theorem spec_l12Height.calls (g:Nat) (s0_0:List Int) (s0_1:Int) (s0_2:Int) (r1:Int) (r2:Int) (r3:Int) (w0 w:World) (hI:IsS89 w0 w g s0_0 s0_1 s0_2) (hB:Below w0.heap.size w0 w) (h:spec_l12Height.f s0_0 s0_1 s0_2=some (r1,r2,r3)):
 Calls prog 58 #[.pointer (some ⟨g,0,none⟩)] w fun e w'=>e=.returned (V I r1)∧IsS89 w0 w' g s0_0 r2 r3∧Below w0.heap.size w0 w'∧KeepBut w w' g none:=by
 have HI1:=C hI
 have HK:=C (KeepBut.refl w g none)
 have HL:=C hB.size
 clear hI
 have HW1:=C hB.size
 have HB:=C hB
 clear hB
 have H:=h
 unfold spec_l12Height.f at H
 clear h
 obtain⟨y1,hy1⟩:∃y_:List Int,y_=(([1,2,4,8,8,16,32]:List Int)):=⟨_,rfl⟩
 replace H:((spec_l01PickInt.f s0_0 s0_1 s0_2 y1).bind fun bt252=>(some (bt252.1,bt252.2.1,bt252.2.2)))=some (r1,r2,r3):=gy hy1 H
 have Ny1:=C hy1
 clear hy1
 obtain⟨⟨t1,t2,t3⟩,A1,H⟩:=bnd H
 dsimp only at H
 simp only[Option.some.injEq,Prod.mk.injEq]at H
 obtain⟨rfl,rfl,rfl⟩:=H
 go_enter func58,ntmps58
 go_wp2_with (first|((with_reducible refine J (N:=4) rfl ?_);refine Kd.R_lit (Kd.int .i64) _ 3 ?hg (N:=4) ?hd (xs:=([1,2,4,8,8,16,32]:List Int)) (inner:= [V I 1,V I 2,V I 4,V I 8,V I 8,V I 16,V I 32]) (ok:=fun _=>True) (okp:=fun _=>True) ?hr ?hp (fun _ hk=>hk) trivial (Below.refl _ _) (Nat.le_refl _) (by simp) ?_;(case hd=>rfl);(case hg=>rfl);(case hr=>exact Fix.hr);(case hp=>exact(Reps.one (show Kd.M (Kd.int .i64) _ _ _ 1 [V I 1] from rfl) (Reps.one (show Kd.M (Kd.int .i64) _ _ _ 2 [V I 2] from rfl) (Reps.one (show Kd.M (Kd.int .i64) _ _ _ 4 [V I 4] from rfl) (Reps.one (show Kd.M (Kd.int .i64) _ _ _ 8 [V I 8] from rfl) (Reps.one (show Kd.M (Kd.int .i64) _ _ _ 8 [V I 8] from rfl) (Reps.one (show Kd.M (Kd.int .i64) _ _ _ 16 [V I 16] from rfl) (Reps.one (show Kd.M (Kd.int .i64) _ _ _ 32 [V I 32] from rfl) (Reps.none _ _)))))))));intro v1 w1 ho1 hb hg_ hnew_;clear hg_ hnew_;(first|rw[←Ny1.out]at ho1|(simp only[Int.reduceToNat]at ho1;rw[←Ny1.out]at ho1));have HO1:=C (Kd.R_lower ho1 (keep_size (w:=w) (g:=g) (row:=none) (show KeepBut w _ _ _ from uH)));replace HK:=C (KeepBut.trans (show KeepBut w _ _ _ from uH) (KeepBut.of_below hb g none) (.inl rfl));replace HB:=C (below_step (by repeat(first|(with_reducible first|exact HB.out|apply bA|apply bN|apply b1|refine below_set ?_ (IsS89.ge HI1.out))|exact HB.out)) hb);replace HI1:=C (IsS89.below (by repeat(first|(with_reducible first|exact HI1.out|apply IsS89.alloc|apply IsS89.drewN|apply IsS89.drew|apply IsS89.set_1|apply IsS89.set_2)|exact HI1.out)) hb);clear hb ho1;obtain⟨Ao1,co1,rfl⟩:=Kd.R_slice HO1.out)|((with_reducible refine F (f:=75) rfl ?_);refine gl 75 (some 5) func75 #[.pointer (some ⟨g,0,none⟩),L Ao1 y1.length co1] ?_;(with_reducible refine(spec_l01PickInt.calls g s0_0 s0_1 s0_2 _ _ y1 t1 t2 t3 w0 _ ?side1 ?side2 ?side3 ?side4 ?side5 A1.out).mono ?_);(case side1=>repeat(first|(with_reducible first|exact HI1.out|apply IsS89.alloc|apply IsS89.drewN|apply IsS89.drew|apply IsS89.set_1|apply IsS89.set_2)|exact HI1.out));(case side2=>repeat(first|(with_reducible first|exact HB.out|apply bA|apply bN|apply b1|refine below_set ?_ (IsS89.ge HI1.out))|exact HB.out));(case side3=>exact uC (Kd.R_reads' HO1.out).2.2);(case side4=>exact(Kd.R_reads' HO1.out).2.1);(case side5=>exact far_slice (IsS89.own_ne HI1.out HO1.out (by decide)));rintro e w2 ⟨rfl,hi,hb,hk⟩;refine⟨_,rfl,?_⟩;replace HO1:=C (X (Kd.R_keep (IsS89.apart (show IsS89 w0 _ g s0_0 s0_1 s0_2 from by repeat(first|(with_reducible first|exact HI1.out|apply IsS89.alloc|apply IsS89.drewN|apply IsS89.drew|apply IsS89.set_1|apply IsS89.set_2)|exact HI1.out)) (uR HO1.out) (by decide)) hk (fun _ h=>h.2)) (fun _ h=>h.1));replace HK:=C (KeepBut.trans (show KeepBut w _ _ _ from uH) hk (.inl rfl));replace HB:=C (hb);replace HI1:=C (hi);clear hb hi hk))
 go_ret
 exact⟨rE,by repeat(first|(with_reducible first|exact HI1.out|apply IsS89.alloc|apply IsS89.drewN|apply IsS89.drew|apply IsS89.set_1|apply IsS89.set_2)|exact HI1.out),by repeat(first|(with_reducible first|exact HB.out|apply bA|apply bN|apply b1|refine below_set ?_ (IsS89.ge HI1.out))|exact HB.out),uH⟩
def spec_DrawHeight.f (k:Nat) (l0:List Int):Option (Int):=(spec_l01New.f k l0).bind fun bt255=>((spec_l12Height.f bt255.1 bt255.2.1 bt255.2.2).bind fun bt259=>(some bt259.1))
theorem spec_DrawHeight.calls (k:Nat) (A0:Option Addr) (c0:Nat) (l0:List Int) (r:Int) (w:World) (hr0:Kd.C (Kd.int .u8) w A0 l0.length l0) (hc0:l0.length≤c0) (h:spec_DrawHeight.f k l0=some r):
 Calls prog 28 #[L A0 l0.length c0] w fun e w'=>e=.returned (V I r)∧Below w.heap.size w w':=by
 have HR1:=C hr0
 have HC1:=C hc0
 (try clear hr0);(try clear hc0)
 have HB:=C (Below.refl w.heap.size w)
 have H:=h
 unfold spec_DrawHeight.f at H
 clear h
 obtain⟨⟨t1,t2,t3⟩,A1,H⟩:=bnd H
 dsimp only at H
 obtain⟨⟨t4,t5,t6⟩,A2,H⟩:=bnd H
 dsimp only at H
 obtain rfl:=si H
 go_enter func28,ntmps28
 go_wp2_with (first|((with_reducible refine F (f:=42) rfl ?_);refine gl 42 (some 4) func42 #[L A0 l0.length c0] ?_;(with_reducible refine(spec_l01New.calls k _ _ l0 t1 t2 t3 w _ ?side1 ?side2 HC1.out A1.out).mono ?_);(case side1=>exact uB);(case side2=>exact HR1.out);rintro e w1 ⟨g1,rfl,hi,hb,hb1⟩;refine⟨_,rfl,?_⟩;have HI1:=C (hi);replace HB:=C (hb);clear hb hb1 hi)|((with_reducible refine F (f:=58) rfl ?_);refine gl 58 (some 5) func58 #[.pointer (some ⟨g1,0,none⟩)] ?_;(with_reducible refine(spec_l12Height.calls g1 t1 t2 t3 t4 t5 t6 w _ ?side1 ?side2 A2.out).mono ?_);(case side1=>repeat(first|(with_reducible first|exact HI1.out|apply IsS89.alloc|apply IsS89.drewN|apply IsS89.drew|apply IsS89.set_1|apply IsS89.set_2)|exact HI1.out));(case side2=>repeat(first|(with_reducible first|exact HB.out|apply bA|apply bN|apply b1|refine below_set ?_ (IsS89.ge HI1.out))|exact HB.out));rintro e w2 ⟨rfl,hi,hb,hk⟩;refine⟨_,rfl,?_⟩;replace HB:=C (hb);replace HI1:=C (hi);clear hb hi hk))
 go_ret
 exact⟨rE,by repeat(first|(with_reducible first|exact HB.out|apply bA|apply bN|apply b1|refine below_set ?_ (IsS89.ge HI1.out))|exact HB.out)⟩
def impl_within.f (a0:Int) (a1:Int) (a2:Int):Option (Bool):=if a0 ≥ a1 then(some (decide (a0≤a2))) else(some false)
theorem impl_within.W1 {p:Prop} (h:p:=by
 go_enter func49,ntmps49
 go_wp2
 go_ret
 exact⟨by first|rfl|(simp;done)|(simp[*];done),by repeat(first|exact Drawn0.refl _|apply Drawn0.step)⟩):p:=h
theorem impl_within.calls (a0:Int) (a1:Int) (a2:Int) (r:Bool) (w:World) (h:impl_within.f a0 a1 a2=some r):
 Calls prog 49 #[V I a0,V I a1,V I a2] w fun e w'=>e=.returned (.bool r)∧Drawn0 w w':=by
 have H:=h
 unfold impl_within.f at H
 clear h
 by_cases c1:a0 ≥ a1
 ·rw[if_pos c1]at H
  replace c1:=decide_eq_true c1
  obtain rfl:=si H
  exact impl_within.W1
 rw[if_neg c1]at H
 replace c1:=decide_eq_false c1
 obtain rfl:=si H
 exact impl_within.W1
def impl_coordOk.f (a0:Int):Option (Bool):=(impl_within.f a0 (-200) 200).bind fun t262=>(some t262)
theorem impl_coordOk.calls (a0:Int) (r:Bool) (w:World) (h:impl_coordOk.f a0=some r):
 Calls prog 121 #[V I a0] w fun e w'=>e=.returned (.bool r)∧Drawn0 w w':=by
 have H:=h
 unfold impl_coordOk.f at H
 clear h
 obtain⟨t1,A1,H⟩:=bnd H
 obtain rfl:=si H
 go_enter func121,ntmps121
 go_wp2_with (first|((with_reducible refine F (f:=49) rfl ?_);refine gl 49 (some 4) func49 #[V I a0,V I (-200),V I 200] ?_;(with_reducible refine(impl_within.calls a0 (-200) 200 t1 _ A1.out).mono ?_);rintro e w' ⟨rfl,⟨nd,rfl⟩⟩;refine⟨_,rfl,?_⟩))
 go_ret
 exact⟨by first|rfl|(simp;done)|(simp[*];done),by repeat(first|exact Drawn0.refl _|apply Drawn0.step)⟩
end Go.Proofs.Ytaceidiookkocaa.PFnPrinted
