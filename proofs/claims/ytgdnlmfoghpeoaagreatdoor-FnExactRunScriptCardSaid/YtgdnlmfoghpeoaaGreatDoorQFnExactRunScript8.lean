/- Calls do what plain Lean functions say (FnExactRunScript). No condition. -/
import Derived.Test.YtgdnlmfoghpeoaaGreatDoorQFnExactRunScript0
import Derived.Test.YtgdnlmfoghpeoaaGreatDoorQFnExactRunScript7
namespace Go.Proofs.YtgdnlmfoghpeoaaGreatDoor.PFnExactRunScript
open Go.RowKit Go.Proofs.YtgdnlmfoghpeoaaGreatDoorW.PrintWords Go.Proofs.YtgdnlmfoghpeoaaGreatDoorW.PrintLast Go.Proofs.YtgdnlmfoghpeoaaGreatDoorW.PrintMore
open Tryz
open Fix (bK bnd cl4 d14 d4 d6 dB dK dR eB eK eQ eR fQ fR gE gK gl gs gy hh lR nG nL nf np nt nu oL oT ou pj pu qn rE rN rS si tu uB uC uQ uR)
open Go.Value renaming int→V,slice→L,bool→O,agg→G
open Go.IntKind renaming i64→I
open Go.Proofs.YtgdnlmfoghpeoaaGreatDoorW.PrintWords.Aside0 renaming mk→C
open Go.Proofs.YtgdnlmfoghpeoaaGreatDoorW.PrintWords renaming Aside0→D,gate_callee→F
open Go.Proofs.YtgdnlmfoghpeoaaGreatDoorW.PrintWords.Kd renaming R_mono→X,R_slice→U
attribute [local go_sem] max2_int min2_int max_two min_two max_three min_three max_four min_four
attribute [local go_sem] Fix.isSome_setCell
set_option linter.unusedVariables false
set_option maxHeartbeats 40000000
set_option maxRecDepth 100000
set_option linter.unusedSimpArgs false
theorem Bui_copyCheck_new (b:Nat) (w:World) (h0:w.cell? ⟨b,0,none⟩=some (.pointer none)) (hsh:w.shape? b=some (53,2)) (hfz:w.frozen? ⟨b,0,none⟩=false):
 Calls prog 39 #[.pointer (some ⟨b,0,none⟩)] w fun e w'=>e=.returned (.tuple #[])∧w'=w.setCell ⟨b,0,none⟩ (.pointer (some ⟨b,0,none⟩)):=by
 obtain⟨j,hj,hjs⟩:=Option.map_eq_some_iff.1 (show(prog.info? 53).map (·.size)=some 2 by kernel_rfl)
 have hlies:liesAt prog prog.depth 53 (2 / prog.cellsOf 53) 0 53 1=true:=by kernel_rfl
 go_enter func39,ntmps39
 go_wp2
 rw[Lib.run_to_unsafe w ⟨b,0,none⟩ underlying51 underlying101 hj (by rw[hjs];decide) hsh (Nat.zero_lt_succ 1)]
 simp only[Result.andThen]
 rw[Oper.upon_value]
 go_wp2
 rw[run_callFunc_extern func68 (by kernel_rfl) (by kernel_rfl) (by kernel_rfl) (e:=Extern.AbiNoEscape.same) (by kernel_rfl)]
 rw[Lib.run_noEscape]
 simp only[Result.andThen]
 rw[Oper.upon_value]
 go_wp2
 rw[Lib.run_from_unsafe w ⟨b,0,none⟩ underlying101 underlying51 hj hsh hlies]
 simp only[Result.andThen]
 rw[Oper.upon_value]
 go_wp2
 go_end0
 exact⟨rfl,rfl⟩
theorem Bui_Grow (B b n:Nat) (w:World) (hB:B≤b) (hbk:w.heap[b]? =some (.cells #[.pointer none,L none 0 0] 53 (0,0))) (hBw:B≤w.heap.size) (hn:n≤281474976710656):
 Calls prog 72 #[.pointer (some ⟨b,0,none⟩),V I n] w fun e w'=>e=.returned (.tuple #[])∧(Lib.BuilderAt 53 5 B b (.pointer (some ⟨b,0,none⟩)) [] w'∧Below B w w'):=by
 have hbk1:(w.setCell ⟨b,0,none⟩ (.pointer (some ⟨b,0,none⟩))).heap[b]? =some (.cells #[.pointer (some ⟨b,0,none⟩),L none 0 0] 53 (0,0)):=by
  simp[World.setCell,Array.getElem?_modify,hbk]
 have c1:(w.setCell ⟨b,0,none⟩ (.pointer (some ⟨b,0,none⟩))).cell? ⟨b,1,none⟩=some (L none 0 0):=by rw[Lib.cell_of_heap hbk1];rfl
 have hb1:Below B w (w.setCell ⟨b,0,none⟩ (.pointer (some ⟨b,0,none⟩))):=(Below.refl B w).setCell (p:=⟨b,0,none⟩) hB _
 have hG:Calls prog 98 #[.pointer (some ⟨b,0,none⟩),V I n] (w.setCell ⟨b,0,none⟩ (.pointer (some ⟨b,0,none⟩))).drew fun e w'=>e=.returned (.tuple #[])∧(Lib.BuilderAt 53 5 B b (.pointer (some ⟨b,0,none⟩)) [] w'∧Below B (w.setCell ⟨b,0,none⟩ (.pointer (some ⟨b,0,none⟩))).drew w'):=
  Any.Builder_grow_fresh Tryz.lays241 Bui.x241 B b n (w.setCell ⟨b,0,none⟩ (.pointer (some ⟨b,0,none⟩))).drew hB hbk1 (by simpa[World.setCell,World.drew,-World.drew_eq]using hBw) hn
 have HG:=C hG
 clear hG
 have hU:Lib.BuilderAt 53 5 B b (.pointer (some ⟨b,0,none⟩)) [] (w.setCell ⟨b,0,none⟩ (.pointer (some ⟨b,0,none⟩))):=⟨hB,L none 0 0,hbk1,World.ownsRow_nil _ _ _ _,by simp[Value.ownBlock]⟩
 have HU:=C hU
 have hcc:=C (Bui_copyCheck_new b w (by rw[Lib.cell_of_heap hbk];rfl) (by simp[World.shape?,hbk]) (Lib.frozen_of_heap hbk 0))
 clear hU hbk hbk1
 go_enter func72,ntmps72
 have c1':(w.setCell ⟨b,0,none⟩ (.pointer (some ⟨b,0,none⟩))).drew.cell? ⟨b,1,none⟩=some (L none 0 0):=c1
 go_wp2_with (go_at_call 39;refine hcc.out.mono ?_;rintro e w' ⟨rfl,rfl⟩)
 go_region
 all_goals go_wp2_with (go_at_call 98;refine HG.out.mono ?_;rintro e w' ⟨rfl,h1,h2⟩)
 all_goals first
  |(go_end0;exact⟨rfl,h1,hb1.drew.trans h2⟩)
  |(go_end0;exact⟨rfl,HU.out.drew,hb1.drew⟩)
theorem join_length_one (c:UInt8) (x:List UInt8) (r:List (List UInt8)):(Lib.join (x::r) [c]).length=r.length+Lib.lens (x::r):=by
 rw[Lib.join_length];simp
def strings_Join.f (l0:List ByteArray) (a1:ByteArray):Option (ByteArray):=if a1=⟨#[32]⟩ then(if l0.length≤1000000 then(if Lib.lens (l0.map (·.data.toList))≤1000000 then some ⟨(Lib.join (l0.map (·.data.toList)) [32]).toArray⟩ else none) else none) else none
theorem strings_Join.many (A0:Option Addr) (c0:Nat) (xs:List ByteArray) (w:World) (hr0:Kd.C Kd.string w A0 xs.length xs) (hc0:xs.length≤c0) (h2:2≤xs.length) (hN:xs.length≤1000000) (hL:Lib.lens (xs.map (·.data.toList))≤1000000):
 Calls prog 42 #[L A0 xs.length c0,.string ⟨#[32]⟩] w fun e w'=>e=.returned (.string ⟨(Lib.join (xs.map (·.data.toList)) [32]).toArray⟩)∧Below w.heap.size w w':=by
 obtain⟨⟨bk,o,ro⟩,rfl,hz⟩:=Kd.at_string hr0 0 (by omega) (by omega)
 obtain rfl:ro=none:=by cases ro with|none=>rfl|some _=>(simp only[World.cell?,Addr.add]at hz;split at hz<;>simp at hz)
 have hbk:bk<w.heap.size:=World.block_lt_of_cell? w _ hz
 have hcells:∀(j:Nat) x,xs[j]? =some x→w.cell? ⟨bk,o+j,none⟩=some (.string x):=by
  intro j x hj
  have hl:j<xs.length:=(List.getElem?_eq_some_iff.1 hj).1
  obtain⟨ad,ead,hx⟩:=Kd.at_string hr0 (j:Int) (by omega) (by omega)
  cases ead
  have e:rdOf ByteArray.empty xs (j:Int)=x:=by simp[rdOf,List.getD,hj]
  rw[e]at hx
  rcases j with _|j<;>simpa[Addr.add]using hx
 have HC:=C hcells
 have HC1:=C hc0
 clear hcells hr0 hz
 obtain⟨x0,r,hxs⟩:∃x0 r,xs=x0::r:=by
  cases xs with
  |nil=>simp at h2
  |cons a t=>exact⟨a,t,rfl⟩
 have hJ:(Lib.join (xs.map (·.data.toList)) [32]).length=(xs.length - 1)+Lib.lens (xs.map (·.data.toList)):=by
  rw[hxs]
  simp only[List.map_cons,join_length_one,List.length_map,List.length_cons,Nat.add_sub_cancel]
 have hrl:r.length=xs.length - 1:=by rw[hxs];simp
 obtain⟨M,hM⟩:∃M,M=xs.length - 1:=⟨_,rfl⟩
 have hcast:((xs.length:Int) - 1)=(M:Int):=by omega
 have hdv:(1:Int)<9223372036854775807 / ((xs.length:Int) - 1):=by
  rw[hcast]
  have:(2:Int)≤9223372036854775807 / (M:Int):=Int.le_ediv_of_mul_le (by omega) (by omega)
  omega
 have hdv':¬(9223372036854775807 / ((xs.length:Int) - 1)≤1):=by omega
 have hdv2:(1:Int)<9223372036854775807 / ((xs.length - 1:Nat):Int):=by
  rw[show((xs.length - 1:Nat):Int)=(xs.length:Int) - 1 by omega];exact hdv
 have hdv2':¬(9223372036854775807 / ((xs.length - 1:Nat):Int)≤1):=by omega
 have hprod:wrap64 ((1:Int) * ((xs.length:Int) - 1))=(M:Int):=by
  rw[hcast,Int.one_mul]
  exact IntWalk.wrap64_in _ ⟨by omega,by omega⟩
 have hne0:((xs.length:Int)==0)=false:=beq_eq_false_iff_ne.2 (by omega)
 have hne1:((xs.length:Int)==1)=false:=beq_eq_false_iff_ne.2 (by omega)
 have Hxs:=C hxs
 have HJ:=C hJ
 clear hxs hJ
 go_enter func42,ntmps42
 go_wp2_with fail
 all_goals (
  go_loop [5,41] (fun n i=>∃k:Nat,k≤xs.length∧i=V I k∧n=V I ((M+Lib.lens ((xs.map (·.data.toList)).take k):Nat):Int)) (fun _ i=>xs.length - (intOf i).toNat)
  case atStart=>exact⟨0,Nat.zero_le _,rfl,by first|(simp[Lib.lens];done)|(simp[Lib.lens];omega)⟩
  case round=>
   obtain⟨k,hk,rfl,rfl⟩:=hrel
   by_cases hkn:k<xs.length
   ·obtain⟨x,hx⟩:∃x,xs[k]? =some x:=⟨xs[k],List.getElem?_eq_getElem hkn⟩
    have hc:=HC.out k x hx
    have hstep:=Lib.lens_take_succ (xs.map (·.data.toList)) k x.data.toList (by simp[hx])
    have hbound:Lib.lens ((xs.map (·.data.toList)).take (k+1))≤Lib.lens (xs.map (·.data.toList)):=Lib.lens_take_le _ _
    rw[←Lib.size_eq]at hstep
    generalize hA1:Lib.lens ((xs.map (·.data.toList)).take (k+1))=A1 at hstep hbound
    generalize Lib.lens ((xs.map (·.data.toList)).take k)=A0 at hstep
    have HA1:=C hA1
    clear hA1
    go_wp2
    exact⟨⟨k+1,by omega,by go_num,by rw[HA1.out];refine congrArg _ ?_;omega⟩,by simp[intOf];omega⟩
   ·have hke:k=xs.length:=by omega
    subst hke
    have hall:(xs.map (·.data.toList)).take xs.length=xs.map (·.data.toList):=List.take_of_length_le (by simp)
    rw[hall]
    have hJ2:(Lib.join (xs.map (·.data.toList)) [32]).length=M+Lib.lens (xs.map (·.data.toList)):=by rw[hM];exact HJ.out
    generalize hT:Lib.lens (xs.map (·.data.toList))=T at hL hJ2
    clear hT hall
    have HJ2:=C hJ2
    clear hJ2
    go_wp2_with fail
    rw[show(((xs.length - 1:Nat):Int)+(T:Int))=((M+T:Nat):Int) by omega]
    refine(Bui_Grow w.heap.size w.heap.size (M+T) _ (Nat.le_refl _) (heap_alloc_new w _) (by simp) (by omega)).mono ?_
    rintro e w1 ⟨rfl,h1,hb1⟩
    have hb1':Below w.heap.size w w1:=((Below.refl w.heap.size w).alloc (Nat.le_refl _) _).trans hb1
    have hc0:w1.cell? ⟨bk,o,none⟩=some (.string x0):=by
     rw[hb1'.cell (p:=⟨bk,o,none⟩) hbk]
     exact HC.out 0 x0 (by rw[Hxs.out];rfl)
    have H1:=C (Or.inr (Lib.BuilderAtF.of h1):Lib.IsBuilderF 53 5 w.heap.size w.heap.size [] w1)
    have Hb1:=C hb1'
    have hBw1:w.heap.size≤w1.heap.size:=hb1'.size
    clear h1 hb1 hb1'
    have Hwhole:=C (show Lib.join (xs.map (·.data.toList)) [32]=x0.data.toList++Lib.joinTail [32] (r.map (·.data.toList)) by rw[Hxs.out,List.map_cons,Lib.join_cons])
    have HCle:=C (show ∀k,(x0.data.toList++Lib.joinTail [32] ((r.map (·.data.toList)).take k)).length≤2000000 from fun k=>by
     have h1:=HJ2.out
     rw[Hwhole.out,List.length_append]at h1
     have h2:=Lib.joinTail_take_le [32] (r.map (·.data.toList)) k
     rw[List.length_append]
     omega)
    go_wp2_with fail
    refine(Bui_WriteString w.heap.size w.heap.size [] x0 w1 H1.out (by have:=HCle.out 0;simp[Lib.joinTail]at this ⊢;omega) hBw1).mono ?_
    rintro e w2 ⟨rfl,h2',hb2⟩
    rw[show([]:List Value)++Lib.strCells x0=Lib.byteCells (x0.data.toList++Lib.joinTail [32] ((r.map (·.data.toList)).take 0)) by simp[Lib.joinTail,Lib.strCells_eq]]at h2'
    have H2:=C h2'
    have Hb2:=C (Hb1.out.trans hb2)
    clear h2' hb2
    go_wp2_with fail
    go_loopw [65] (fun i wr=>∃k:Nat,k≤r.length∧i=V I k∧D (Lib.IsBuilderF 53 5 w.heap.size w.heap.size (Lib.byteCells (x0.data.toList++Lib.joinTail [32] ((r.map (·.data.toList)).take k))) wr)∧D (Below w.heap.size w wr)) (fun i _=>r.length - (intOf i).toNat)
    case atStart=>exact⟨0,Nat.zero_le _,rfl,H2,Hb2⟩
    case round=>
     obtain⟨k,hk',rfl,HB,HW⟩:=hrel
     by_cases hkr:k<r.length
     ·obtain⟨y,hy⟩:∃y,r[k]? =some y:=⟨r[k],List.getElem?_eq_getElem hkr⟩
      have hcy:wr.cell? ⟨bk,o+1+k,none⟩=some (.string y):=by
       rw[HW.out.cell (p:=⟨bk,o+1+k,none⟩) hbk,show o+1+k=o+(k+1) by omega]
       exact HC.out (k+1) y (by rw[Hxs.out];simpa using hy)
      have hBw:w.heap.size≤wr.heap.size:=HW.out.size
      have hsep:(⟨#[32]⟩:ByteArray).data.toList= [32]:=rfl
      have Hn:=C (show Lib.byteCells (x0.data.toList++Lib.joinTail [32] ((r.map (·.data.toList)).take k))++Lib.strCells ⟨#[32]⟩++Lib.strCells y=Lib.byteCells (x0.data.toList++Lib.joinTail [32] ((r.map (·.data.toList)).take (k+1))) by
       rw[Lib.joinTail_take_succ [32] (r.map (·.data.toList)) k y.data.toList (by simp[hy]),Lib.strCells_eq,Lib.strCells_eq,hsep,←Lib.byteCells_append,←Lib.byteCells_append,List.append_assoc,List.append_assoc,List.append_assoc])
      have hl1:=HCle.out (k+1)
      rw[Lib.joinTail_take_succ [32] (r.map (·.data.toList)) k y.data.toList (by simp[hy])]at hl1
      simp only[List.length_append,←Lib.size_eq]at hl1
      have hl0:(Lib.byteCells (x0.data.toList++Lib.joinTail [32] ((r.map (·.data.toList)).take k))).length=x0.size+(Lib.joinTail [32] ((r.map (·.data.toList)).take k)).length:=by
       rw[Lib.byteCells_length,List.length_append,←Lib.size_eq]
      generalize (Lib.joinTail [32] ((r.map (·.data.toList)).take k)).length=J at hl0 hl1
      have hs1:(⟨#[32]⟩:ByteArray).size=1:=rfl
      simp only[List.length_cons,List.length_nil]at hl1
      clear hy
      go_wp2_with fail
      refine(Bui_WriteString w.heap.size w.heap.size _ ⟨#[32]⟩ wr HB.out (by rw[hl0,hs1];omega) hBw).mono ?_
      rintro e w3 ⟨rfl,h3,hb3⟩
      have hBw3:w.heap.size≤w3.heap.size:=Nat.le_trans hBw hb3.size
      have H3:=C h3
      have Hb3:=C hb3
      clear h3 hb3
      go_wp2_with fail
      refine(Bui_WriteString w.heap.size w.heap.size _ y w3 H3.out (by rw[List.length_append,hl0,Lib.strCells_length,hs1];omega) hBw3).mono ?_
      rintro e w4 ⟨rfl,h4,hb4⟩
      rw[Hn.out]at h4
      have H4:=C h4
      have Hb4:=C ((HW.out.trans Hb3.out).trans hb4)
      clear h4 hb4
      go_wp2
      exact⟨⟨k+1,by omega,by go_num,H4,Hb4⟩,by simp[intOf];omega⟩
     ·have hke:k=r.length:=by omega
      subst hke
      have hB':=HB.out
      rw[show(r.map (·.data.toList)).take r.length=r.map (·.data.toList) from List.take_of_length_le (by simp),←Hwhole.out]at hB'
      have hBw:w.heap.size≤wr.heap.size:=HW.out.size
      have HS:=C (show Calls prog 22 #[.pointer (some ⟨w.heap.size,0,none⟩)] wr fun e w'=>e=.returned (.string ⟨(Lib.join (xs.map (·.data.toList)) [32]).toArray⟩)∧(Lib.IsBuilderF 53 5 w.heap.size w.heap.size (Lib.byteCells (Lib.join (xs.map (·.data.toList)) [32])) w'∧Below w.heap.size wr w') from Any.Builder_String_any_f Tryz.lays169 Bui.x169 w.heap.size w.heap.size _ wr hB' hBw)
      clear hB'
      go_wp2_with fail
      refine HS.out.mono ?_
      rintro e w5 ⟨rfl,_,hb5⟩
      have Hb5:=C (HW.out.trans hb5)
      clear hb5
      go_wp2
      go_ret
      exact⟨rfl,Hb5.out⟩)
theorem strings_Join.W1 {p:Prop} (h:p:=by
 go_enter func42,ntmps42
 go_wp2
 go_ret
 first
  |(exact⟨rfl,Below.refl _ _⟩)
  |(exact⟨by simp[Lib.join_one],Below.refl _ _⟩)):p:=h
theorem strings_Join.calls (A0:Option Addr) (c0:Nat) (l0:List ByteArray) (a1:ByteArray) (r:ByteArray) (w:World) (hr0:Kd.C Kd.string w A0 l0.length l0) (hc0:l0.length≤c0) (h:strings_Join.f l0 a1=some r):
 Calls prog 42 #[L A0 l0.length c0,.string a1] w fun e w'=>e=.returned (.string r)∧Below w.heap.size w w':=by
 unfold strings_Join.f at h
 by_cases c1:a1=⟨#[32]⟩
 rotate_left
 ·rw[if_neg c1]at h;cases h
 rw[if_pos c1]at h
 by_cases c2:l0.length≤1000000
 rotate_left
 ·rw[if_neg c2]at h;cases h
 rw[if_pos c2]at h
 by_cases c3:Lib.lens (l0.map (·.data.toList))≤1000000
 rotate_left
 ·rw[if_neg c3]at h;cases h
 rw[if_pos c3]at h
 obtain rfl:=Option.some.inj h
 subst c1
 rcases l0 with _|⟨x,_|⟨y,t⟩⟩
 ·exact strings_Join.W1
 ·obtain⟨ad,rfl,hx⟩:=Kd.at_string hr0 0 (by simp) (by simp)
  have hx1:w.cell? ad=some (.string x):=by
   have e:(ad.add (0:Int).toNat)=ad:=by cases ad;rfl
   rw[e]at hx
   exact hx
  clear hx
  have hc:=C hc0
  clear hc0
  exact strings_Join.W1
 ·exact strings_Join.many A0 c0 _ w hr0 hc0 (by simp) c2 c3
theorem zero3 (w:World):(zeroValue 3).run prog w=.ok (V I 0) w:=by kernel_rfl
abbrev impl_ParseAct.KS:List Km.E:= [([114,101,108,101,97,115,101],5),([102,105,110,105,115,104],4),([108,105,110,101],3),([116,97,107,101],2),([97,100,100],1)]
def impl_ParseAct.l0 (k:Nat):List ByteArray→Nat→Int→Int→Int→Option (Option (Int×Int×Int))
  | [],_,a,b,c=>some (some (a,b,c))
  |f::fs,i,a,b,c=>(impl_ParseUint.f k f).bind fun p=>if p.2=true then impl_ParseAct.l0 k fs (i+1) (if i=0 then p.1 else a) (if i=1 then p.1 else b) (if i=2 then p.1 else c) else some none
def impl_ParseAct.f (k:Nat) (a0:ByteArray):Option (Int×Int×Int×Int×Bool):=
  (impl_SplitFields.f k a0).bind fun p=>if p.2=true then(match p.1 with
    | []=>some (0,0,0,0,false)
    |f0::rs=>if rs.length≤3 then(if f0.size≤9223372036854775807 then(impl_ParseAct.l0 k rs 0 0 0 0).bind fun q=>(match q with
      |none=>some (0,0,0,0,false)
      |some z=>(impl_FormatAct.f k (Km.look impl_ParseAct.KS f0.data.toList) z.1 z.2.1 z.2.2).bind fun t=>if t.2=true then(strings_Join.f (f0::rs) ⟨#[32]⟩).bind fun j=>(if t.1.toList=j.toList then some (Km.look impl_ParseAct.KS f0.data.toList,z.1,z.2.1,z.2.2,true) else some (0,0,0,0,false)) else some (0,0,0,0,false)) else none) else some (0,0,0,0,false))
  else some (0,0,0,0,false)
theorem impl_ParseAct.calls (k:Nat) (a0:ByteArray) (r1:Int) (r2:Int) (r3:Int) (r4:Int) (r5:Bool) (w:World) (h:impl_ParseAct.f k a0=some (r1,r2,r3,r4,r5)) (hTab:Ito.Tab w):
 Calls prog 25 #[.string a0] w fun e w'=>e=.returned (.tuple #[G #[V I r1,V I r2,V I r3,V I r4],O r5])∧Below w.heap.size w w':=by
 replace hTab:=C hTab
 have hu1:=underlying55
 have HB:=C (Below.refl w.heap.size w)
 have H:=h
 unfold impl_ParseAct.f at H
 clear h
 obtain⟨⟨t1,t2⟩,A1,H⟩:=bnd H
 dsimp only at H
 have HC1:=C H
 clear H
 have hmm:= @run_makeMap prog
 go_enter func25,ntmps25
 go_upto_region 2 with(first|((with_reducible refine gate_dst (N:=2) rfl ?_);(try(refine gate_guard (by rfl) ?_;dsimp only));refine Fix.be 2 #[V I 0,V I 0,V I 0,V I 0] 55 ?_;intro gb1 hg w1 BK1 hb;have GW1:=gE (w:=w) hg;replace HB:=eB hb;clear hb hg)|((with_reducible refine F (f:=24) rfl ?_);refine gl 24 (some 16) func24 #[.string a0] ?_;(with_reducible refine(impl_SplitFields.calls k a0 t1 t2 _ A1.out (Ito.on hTab.out (uB))).mono ?_);rintro e w2 ⟨v1,rfl,ho1,hb⟩;refine⟨_,rfl,?_⟩;have HO1:=lR ho1;replace BK1:=eK BK1 hb;replace HB:=eB hb;clear hb ho1))
 (try simp only[Act.put,List.setIfInBounds_toArray,List.set_cons_zero,List.set_cons_succ])
 obtain⟨Ao1,co1,eo1⟩:=U HO1.out
 subst eo1
 have H:=HC1.out
 clear HC1
 cases t2 with
 |false=>
  rw[if_neg Bool.false_ne_true]at H
  simp only[Option.some.injEq,Prod.mk.injEq]at H
  obtain⟨rfl,rfl,rfl,rfl,rfl⟩:=H
  obtain⟨_,_,_,_,_,_,_,_⟩:=d4 BK1.out
  go_wp2
  refine bodyPost_ret (results_ct rfl _ _ gb1 55 #[V I 0,V I 0,V I 0,V I 0] (0,0) _ rfl (bK BK1.out) underlying55 rfl (by kernel_rfl)) rfl ?_
  exact⟨rE,uB⟩
 |true=>
  rw[if_pos rfl]at H
  rcases(show t1= []∨ ∃f1 rs,t1=f1::rs by cases t1 with|nil=>exact .inl rfl|cons x y=>exact .inr ⟨x,y,rfl⟩) with ht|⟨f1,rs,ht⟩
  ·subst ht
   dsimp only at H
   simp only[Option.some.injEq,Prod.mk.injEq]at H
   obtain⟨rfl,rfl,rfl,rfl,rfl⟩:=H
   obtain⟨_,_,_,_,_,_,_,_⟩:=d4 BK1.out
   go_wp2
   refine bodyPost_ret (results_ct rfl _ _ gb1 55 #[V I 0,V I 0,V I 0,V I 0] (0,0) _ rfl (bK BK1.out) underlying55 rfl (by kernel_rfl)) rfl ?_
   exact⟨rE,uB⟩
  ·rw[ht]at H
   dsimp only at H
   have c1:((t1.length:Int)==0)=false:=beq_eq_false_iff_ne.mpr (by rw[ht];simp only[List.length_cons];omega)
   have c0b:(t1.length==0)=false:=beq_eq_false_iff_ne.mpr (by rw[ht];simp only[List.length_cons];omega)
   have hrl:rs.length+1=t1.length:=by rw[ht];rfl
   have HT1:=C ht
   clear ht
   by_cases c2:rs.length≤3
   rotate_left
   ·rw[if_neg c2]at H
    have c2b0:decide (4<(t1.length:Int))=true:=decide_eq_true (by omega)
    have c2b1:decide (4<t1.length)=true:=decide_eq_true (by omega)
    simp only[Option.some.injEq,Prod.mk.injEq]at H
    obtain⟨rfl,rfl,rfl,rfl,rfl⟩:=H
    obtain⟨_,_,_,_,_,_,_,_⟩:=d4 BK1.out
    go_wp2
    refine bodyPost_ret (results_ct rfl _ _ gb1 55 #[V I 0,V I 0,V I 0,V I 0] (0,0) _ rfl (bK BK1.out) underlying55 rfl (by kernel_rfl)) rfl ?_
    exact⟨rE,uB⟩
   rw[if_pos c2]at H
   have c2b0:decide (4<(t1.length:Int))=false:=decide_eq_false (by omega)
   have c2b1:decide (4<t1.length)=false:=decide_eq_false (by omega)
   by_cases c3:f1.size≤9223372036854775807
   rotate_left
   ·rw[if_neg c3]at H;exact absurd H (by simp)
   rw[if_pos c3]at H
   have HS1:=C c3
   obtain⟨kd,hkd⟩:∃z:Int,Km.look impl_ParseAct.KS f1.data.toList=z:=⟨_,rfl⟩
   rw[hkd]at H
   have HKD:=C hkd
   clear hkd
   obtain⟨q,A2,H⟩:=bnd H
   have HC2:=C H
   clear H
   have q1:0<(t1.length:Int):=by omega
   obtain⟨ad1,e1,hx1_0⟩:=Kd.at_string (Kd.R_reads' HO1.out).2.2 0 (Int.le_refl 0) q1
   cases e1
   have e2:rdOf ByteArray.empty t1 0=f1:=by rw[HT1.out];rfl
   have qi1:(0<t1.length)=True:=eq_true (by omega)
   rw[show((0:Int)).toNat=0 from rfl,Addr.add_zero',e2]at hx1_0
   have HX1:=C hx1_0
   have HRL:=C hrl
   replace c2:=C c2
   replace q1:=eq_true q1
   clear hx1_0
   go_wp2_with (first|((with_reducible refine Km.gate ⟨#[97,100,100]⟩ rfl ?_);refine Km.put rfl rfl underlying76 underlying9 underlying3 (F:= []) rfl (World.ownsMap_made _ _ _ _) (by decide) ⟨#[97,100,100]⟩ 1 rfl rfl (by decide) (by decide) ?_;intro wm ho hg;have n0_:=C ho;have n1_:=C (pw_below_grown (below_alloc (Below.refl _ _) _) _ (below_size (below_alloc (Below.refl _ _) _)) hg (fun k_ hk_=>by cases hk_;exact Nat.le_refl _));clear ho hg;have HM:=n0_;have HN:=n1_;clear n0_ n1_)|((with_reducible refine Km.gate ⟨#[116,97,107,101]⟩ rfl ?_);refine Km.put rfl rfl underlying76 underlying9 underlying3 rfl HM.out (by decide) ⟨#[116,97,107,101]⟩ 2 rfl rfl (by decide) (by decide) ?_;intro wm ho hg;have n0_:=C ho;have n1_:=C (pw_below_grown HN.out _ (below_size HN.out) hg (fun k_ hk_=>by cases hk_;exact Nat.le_refl _));clear ho hg;clear HM HN;have HM:=n0_;have HN:=n1_;clear n0_ n1_)|((with_reducible refine Km.gate ⟨#[108,105,110,101]⟩ rfl ?_);refine Km.put rfl rfl underlying76 underlying9 underlying3 rfl HM.out (by decide) ⟨#[108,105,110,101]⟩ 3 rfl rfl (by decide) (by decide) ?_;intro wm ho hg;have n0_:=C ho;have n1_:=C (pw_below_grown HN.out _ (below_size HN.out) hg (fun k_ hk_=>by cases hk_;exact Nat.le_refl _));clear ho hg;clear HM HN;have HM:=n0_;have HN:=n1_;clear n0_ n1_)|((with_reducible refine Km.gate ⟨#[102,105,110,105,115,104]⟩ rfl ?_);refine Km.put rfl rfl underlying76 underlying9 underlying3 rfl HM.out (by decide) ⟨#[102,105,110,105,115,104]⟩ 4 rfl rfl (by decide) (by decide) ?_;intro wm ho hg;have n0_:=C ho;have n1_:=C (pw_below_grown HN.out _ (below_size HN.out) hg (fun k_ hk_=>by cases hk_;exact Nat.le_refl _));clear ho hg;clear HM HN;have HM:=n0_;have HN:=n1_;clear n0_ n1_)|((with_reducible refine Km.gate ⟨#[114,101,108,101,97,115,101]⟩ rfl ?_);refine Km.put rfl rfl underlying76 underlying9 underlying3 rfl HM.out (by decide) ⟨#[114,101,108,101,97,115,101]⟩ 5 rfl rfl (by decide) (by decide) ?_;intro wm ho hg;have n0_:=C ho;have n1_:=C (pw_below_grown HN.out _ (below_size HN.out) hg (fun k_ hk_=>by cases hk_;exact Nat.le_refl _));clear ho hg;clear HM HN;have HM:=n0_;have HN:=n1_;clear n0_ n1_;have hb:=HN.out;replace HO1:=eR HO1 hb;replace BK1:=eK BK1 hb;replace HB:=eB hb;have hx1_1:=pw_cell_below hb HX1.out;clear HN hb)|(at_lookup;(try(refine gate_guard (by rfl) ?_;dsimp only));refine Km.lookup rfl rfl underlying76 underlying9 underlying3 (zero3 _) rfl HM.out f1 rfl (by have:=HS1.out;unfold maxLen;omega) kd HKD.out ?_;clear HM)|((with_reducible refine gate_dst (N:=7) rfl ?_);refine Fix.be 7 #[V I 0,V I 0,V I 0,V I 0] 55 ?_;intro gb2 hg wb BK2 hb;have GW2:=gE (w:=w) hg;have NB1:=nL hg BK1;have NB2:=nG hg BK1;replace HO1:=eR HO1 hb;replace BK1:=eK BK1 hb;replace HB:=eB hb;clear hb hg;have:=NB1.out;have:=NB2.out;obtain⟨_,_,_,_,_,_,_,_⟩:=d4 BK2.out))
   all_goals (
    go_loopg [43] 4 (fun kq v43 w'=>∃(j:Nat) (x1 x2 x3:Int),v43=V I (j:Int)∧D (j≤rs.length)∧D (kq+j=4)∧D (impl_ParseAct.l0 k (rs.drop j) j x1 x2 x3=some q)∧D (Kd.R Kd.string 9 w' w.heap.size (fun _=>True) (L (some ad1) t1.length co1) t1)∧D (w'.heap[gb1]? =some (.cells #[V I 0,V I 0,V I 0,V I 0] 55 (0,0)))∧D (w'.heap[gb2]? =some (.cells #[V I kd,V I x1,V I x2,V I x3] 55 (0,0)))∧D (Below w.heap.size w w'))
    case atStart=>exact⟨0,0,0,0,rS,⟨Nat.zero_le _⟩,⟨rfl⟩,A2,⟨X (fR (Kd.R_types HO1.out BK2.out (by decide))) (fun _ h_=>h_.1)⟩,⟨bK BK1.out⟩,⟨bK BK2.out⟩,⟨uB⟩⟩
    case round=>
     obtain⟨j,x1,x2,x3,rfl,HJ1,HJ2,HA,HO1,BK1,BK2,HB⟩:=hrel
     have hc1:=c2.out
     have hrl:=HRL.out
     have hj1:=HJ1.out
     by_cases cj:j<rs.length
     ·have hco:=(Kd.R_reads' HO1.out).2.1
      first
       |(exfalso;omega)
       |(
        have HA':=HA.out
        rw[List.drop_eq_getElem_cons cj]at HA'
        simp only[impl_ParseAct.l0]at HA'
        obtain⟨⟨p1,p2⟩,A3,H⟩:=bnd HA'
        dsimp only at H
        obtain⟨ad2,e3,hx2⟩:=Kd.at_string (Kd.R_reads' HO1.out).2.2 (j+1) (by omega) (by omega)
        cases e3
        rw[show((j:Int)+1).toNat=j+1 by omega,show rdOf ByteArray.empty t1 ((j:Int)+1)=rs[j] by rw[HT1.out];simp[rdOf,List.getD,show((j:Int)+1).toNat=j+1 by omega,List.getElem?_eq_getElem cj]]at hx2
        have hx3:wr.cell? ⟨ad1.block,ad1.off+1+j,none⟩=some (.string rs[j]):=by
         have h1:=hx2
         simp only[Addr.add,Nat.add_eq_zero_iff,Nat.one_ne_zero,and_false,if_false]at h1
         rw[Nat.add_assoc,Nat.add_comm 1 j]
         exact h1
        clear hx2
        have hlt:decide ((j:Int)<((t1.length - 1:Nat):Int))=true:=decide_eq_true (by omega)
        have hlt1:decide (j<t1.length - 1)=true:=decide_eq_true (by omega)
        obtain⟨y,hy⟩:∃y,y=rs[j]:=⟨_,rfl⟩
        rw[←hy]at hx3 A3
        clear hy
        cases p2 with
        |false=>
         rw[if_neg Bool.false_ne_true]at H
         obtain rfl:=si H
         have H:=HC2.out
         dsimp only at H
         simp only[Option.some.injEq,Prod.mk.injEq]at H
         obtain⟨rfl,rfl,rfl,rfl,rfl⟩:=H
         go_wp2_with (first|((with_reducible refine F (f:=41) rfl ?_);refine gl 41 (some 50) func41 #[.string y] ?_;(with_reducible refine(impl_ParseUint.calls k y p1 false _ A3.out (Ito.on hTab.out (uB))).mono ?_);rintro e w2 ⟨rfl,hb⟩;refine⟨_,rfl,?_⟩;replace HO1:=eR HO1 hb;replace BK1:=eK BK1 hb;replace BK2:=eK BK2 hb;replace HB:=eB hb;clear hb;obtain⟨_,_,_,_,_,_,_,_⟩:=d4 BK1.out))
         refine bodyPost_ret (results_ct rfl _ _ gb1 55 #[V I 0,V I 0,V I 0,V I 0] (0,0) _ rfl (bK BK1.out) underlying55 rfl (by kernel_rfl)) rfl ?_
         exact⟨rE,uB⟩
        |true=>
         rw[if_pos rfl]at H
         have HA1:=C H
         clear H HA HA'
         rcases(show j=0∨j=1∨j=2 by omega) with hj|hj|hj
         ·subst hj
          have hx4:wr.cell? ⟨ad1.block,ad1.off+1,none⟩=some (.string y):=hx3
          go_wp2_with (first|((with_reducible refine F (f:=41) rfl ?_);refine gl 41 (some 50) func41 #[.string y] ?_;(with_reducible refine(impl_ParseUint.calls k y p1 true _ A3.out (Ito.on hTab.out (uB))).mono ?_);rintro e w2 ⟨rfl,hb⟩;refine⟨_,rfl,?_⟩;replace HO1:=eR HO1 hb;replace BK1:=eK BK1 hb;replace BK2:=eK BK2 hb;replace HB:=eB hb;clear hb)|((with_reducible refine gate_dst (N:=59) rfl ?_);refine Km.lit (cs:= #[.pointer (some ⟨gb2,1,none⟩),.pointer (some ⟨gb2,2,none⟩),.pointer (some ⟨gb2,3,none⟩)]) (n:=3) (t:=79) rfl ?hr ?_;(case hr=>exact Fix.hr);intro gb3 hg w3 BK3 hb;replace HO1:=eR HO1 hb;replace BK1:=eK BK1 hb;replace BK2:=eK BK2 hb;replace HB:=eB hb;clear hb hg;have hp:=Fix.cellAt (i:=0) ⟨BK3⟩ rfl;obtain⟨_,_,_,_,_,_,_,_⟩:=d4 BK2.out))
          rcases gk with _|gk1
          ·exfalso;have:=HJ2.out;omega
          go_roundg gk1
          case measure=>omega
          case rel=>exact⟨1,p1,x2,x3,rS,⟨by omega⟩,⟨by have:=HJ2.out;omega⟩,HA1,⟨X (fR (Kd.R_types HO1.out BK2.out (by decide))) (fun _ h_=>h_.1)⟩,⟨bK BK1.out⟩,⟨bK BK2.out⟩,⟨uB⟩⟩
         ·subst hj
          have hx4:wr.cell? ⟨ad1.block,ad1.off+2,none⟩=some (.string y):=hx3
          go_wp2_with (first|((with_reducible refine F (f:=41) rfl ?_);refine gl 41 (some 50) func41 #[.string y] ?_;(with_reducible refine(impl_ParseUint.calls k y p1 true _ A3.out (Ito.on hTab.out (uB))).mono ?_);rintro e w2 ⟨rfl,hb⟩;refine⟨_,rfl,?_⟩;replace HO1:=eR HO1 hb;replace BK1:=eK BK1 hb;replace BK2:=eK BK2 hb;replace HB:=eB hb;clear hb)|((with_reducible refine gate_dst (N:=59) rfl ?_);refine Km.lit (cs:= #[.pointer (some ⟨gb2,1,none⟩),.pointer (some ⟨gb2,2,none⟩),.pointer (some ⟨gb2,3,none⟩)]) (n:=3) (t:=79) rfl ?hr ?_;(case hr=>exact Fix.hr);intro gb3 hg w3 BK3 hb;replace HO1:=eR HO1 hb;replace BK1:=eK BK1 hb;replace BK2:=eK BK2 hb;replace HB:=eB hb;clear hb hg;have hp:=Fix.cellAt (i:=1) ⟨BK3⟩ rfl;obtain⟨_,_,_,_,_,_,_,_⟩:=d4 BK2.out))
          rcases gk with _|gk1
          ·exfalso;have:=HJ2.out;omega
          go_roundg gk1
          case measure=>omega
          case rel=>exact⟨2,x1,p1,x3,rS,⟨by omega⟩,⟨by have:=HJ2.out;omega⟩,HA1,⟨X (fR (Kd.R_types HO1.out BK2.out (by decide))) (fun _ h_=>h_.1)⟩,⟨bK BK1.out⟩,⟨bK BK2.out⟩,⟨uB⟩⟩
         ·subst hj
          have hx4:wr.cell? ⟨ad1.block,ad1.off+3,none⟩=some (.string y):=hx3
          go_wp2_with (first|((with_reducible refine F (f:=41) rfl ?_);refine gl 41 (some 50) func41 #[.string y] ?_;(with_reducible refine(impl_ParseUint.calls k y p1 true _ A3.out (Ito.on hTab.out (uB))).mono ?_);rintro e w2 ⟨rfl,hb⟩;refine⟨_,rfl,?_⟩;replace HO1:=eR HO1 hb;replace BK1:=eK BK1 hb;replace BK2:=eK BK2 hb;replace HB:=eB hb;clear hb)|((with_reducible refine gate_dst (N:=59) rfl ?_);refine Km.lit (cs:= #[.pointer (some ⟨gb2,1,none⟩),.pointer (some ⟨gb2,2,none⟩),.pointer (some ⟨gb2,3,none⟩)]) (n:=3) (t:=79) rfl ?hr ?_;(case hr=>exact Fix.hr);intro gb3 hg w3 BK3 hb;replace HO1:=eR HO1 hb;replace BK1:=eK BK1 hb;replace BK2:=eK BK2 hb;replace HB:=eB hb;clear hb hg;have hp:=Fix.cellAt (i:=2) ⟨BK3⟩ rfl;obtain⟨_,_,_,_,_,_,_,_⟩:=d4 BK2.out))
          rcases gk with _|gk1
          ·exfalso;have:=HJ2.out;omega
          go_roundg gk1
          case measure=>omega
          case rel=>exact⟨3,x1,x2,p1,rS,⟨by omega⟩,⟨by have:=HJ2.out;omega⟩,HA1,⟨X (fR (Kd.R_types HO1.out BK2.out (by decide))) (fun _ h_=>h_.1)⟩,⟨bK BK1.out⟩,⟨bK BK2.out⟩,⟨uB⟩⟩
       )
     ·have hjl:j=rs.length:=by omega
      have hA:=HA.out
      rw[hjl,List.drop_length]at hA
      simp only[impl_ParseAct.l0]at hA
      obtain rfl:=Option.some.inj hA
      clear hA HA
      have H:=HC2.out
      dsimp only at H
      obtain⟨⟨u1,u2⟩,A3,H⟩:=bnd H
      dsimp only at H
      have hlt:decide ((j:Int)<((t1.length - 1:Nat):Int))=false:=decide_eq_false (by omega)
      have hlt1:decide (j<t1.length - 1)=false:=decide_eq_false (by omega)
      cases u2 with
      |false=>
       rw[if_neg Bool.false_ne_true]at H
       simp only[Option.some.injEq,Prod.mk.injEq]at H
       obtain⟨rfl,rfl,rfl,rfl,rfl⟩:=H
       obtain⟨_,_,_,_,_,_,_,_⟩:=d4 BK2.out
       go_wp2_with (first|((with_reducible refine F (f:=20) rfl ?_);refine gl 20 (some 68) func20 #[G #[V I kd,V I x1,V I x2,V I x3]] ?_;(with_reducible refine(impl_FormatAct.calls k kd x1 x2 x3 u1 false _ A3.out (Ito.on hTab.out (uB))).mono ?_);rintro e w2 ⟨rfl,hb⟩;refine⟨_,rfl,?_⟩;replace HO1:=eR HO1 hb;replace BK1:=eK BK1 hb;replace BK2:=eK BK2 hb;replace HB:=eB hb;clear hb;obtain⟨_,_,_,_,_,_,_,_⟩:=d4 BK2.out;obtain⟨_,_,_,_,_,_,_,_⟩:=d4 BK1.out))
       refine bodyPost_ret (results_ct rfl _ _ gb1 55 #[V I 0,V I 0,V I 0,V I 0] (0,0) _ rfl (bK BK1.out) underlying55 rfl (by kernel_rfl)) rfl ?_
       exact⟨rE,uB⟩
      |true=>
       rw[if_pos rfl]at H
       obtain⟨u3,A4,H⟩:=bnd H
       rw[←HT1.out]at A4
       by_cases c4:u1.toList=u3.toList
       rotate_left
       ·rw[if_neg c4]at H
        simp only[Option.some.injEq,Prod.mk.injEq]at H
        obtain⟨rfl,rfl,rfl,rfl,rfl⟩:=H
        have c4b0:(u1.toList==u3.toList)=false:=beq_eq_false_iff_ne.mpr c4
        have c4b1:(u1.toList !=u3.toList)=true:=bne_iff_ne.mpr c4
        clear c4
        obtain⟨_,_,_,_,_,_,_,_⟩:=d4 BK2.out
        go_wp2_with (first|((with_reducible refine F (f:=20) rfl ?_);refine gl 20 (some 68) func20 #[G #[V I kd,V I x1,V I x2,V I x3]] ?_;(with_reducible refine(impl_FormatAct.calls k kd x1 x2 x3 u1 true _ A3.out (Ito.on hTab.out (uB))).mono ?_);rintro e w2 ⟨rfl,hb⟩;refine⟨_,rfl,?_⟩;replace HO1:=eR HO1 hb;replace BK1:=eK BK1 hb;replace BK2:=eK BK2 hb;replace HB:=eB hb;clear hb;obtain⟨_,_,_,_,_,_,_,_⟩:=d4 BK2.out;obtain⟨_,_,_,_,_,_,_,_⟩:=d4 BK1.out)|(go_at_call 42;(with_reducible refine(strings_Join.calls (some ad1) _ t1 ⟨#[32]⟩ u3 _ (uC (Kd.R_reads' HO1.out).2.2) (by have:=(Kd.R_reads' HO1.out).2.1;omega) A4.out).mono ?_);rintro e w3 ⟨rfl,hb⟩;replace BK1:=eK BK1 hb;replace BK2:=eK BK2 hb;replace HB:=eB hb;clear hb;obtain⟨_,_,_,_,_,_,_,_⟩:=d4 BK2.out;obtain⟨_,_,_,_,_,_,_,_⟩:=d4 BK1.out))
        refine bodyPost_ret (results_ct rfl _ _ gb1 55 #[V I 0,V I 0,V I 0,V I 0] (0,0) _ rfl (bK BK1.out) underlying55 rfl (by kernel_rfl)) rfl ?_
        exact⟨rE,uB⟩
       rw[if_pos c4]at H
       simp only[Option.some.injEq,Prod.mk.injEq]at H
       obtain⟨rfl,rfl,rfl,rfl,rfl⟩:=H
       have c4b0:(u1.toList==u3.toList)=true:=beq_iff_eq.mpr c4
       have c4b1:(u1.toList !=u3.toList)=false:=bne_eq_false_iff_eq.mpr c4
       clear c4
       obtain⟨_,_,_,_,_,_,_,_⟩:=d4 BK2.out
       go_wp2_with (first|((with_reducible refine F (f:=20) rfl ?_);refine gl 20 (some 68) func20 #[G #[V I kd,V I x1,V I x2,V I x3]] ?_;(with_reducible refine(impl_FormatAct.calls k kd x1 x2 x3 u1 true _ A3.out (Ito.on hTab.out (uB))).mono ?_);rintro e w2 ⟨rfl,hb⟩;refine⟨_,rfl,?_⟩;replace HO1:=eR HO1 hb;replace BK1:=eK BK1 hb;replace BK2:=eK BK2 hb;replace HB:=eB hb;clear hb;obtain⟨_,_,_,_,_,_,_,_⟩:=d4 BK2.out;obtain⟨_,_,_,_,_,_,_,_⟩:=d4 BK1.out)|(go_at_call 42;(with_reducible refine(strings_Join.calls (some ad1) _ t1 ⟨#[32]⟩ u3 _ (uC (Kd.R_reads' HO1.out).2.2) (by have:=(Kd.R_reads' HO1.out).2.1;omega) A4.out).mono ?_);rintro e w3 ⟨rfl,hb⟩;replace BK1:=eK BK1 hb;replace BK2:=eK BK2 hb;replace HB:=eB hb;clear hb;obtain⟨_,_,_,_,_,_,_,_⟩:=d4 BK2.out;obtain⟨_,_,_,_,_,_,_,_⟩:=d4 BK1.out))
       refine bodyPost_ret (results_ct rfl _ _ gb1 55 #[V I kd,V I x1,V I x2,V I x3] (0,0) _ rfl (bK BK1.out) underlying55 rfl (by kernel_rfl)) rfl ?_
       exact⟨rE,uB⟩
    )
mutual
def impl_RunScript.l0:Nat→List (S55)→List ByteArray→Int→Int→Option (List ByteArray×Bool)
  |0,_,_,_,_=>none
  |k+1,x4,x20,x21,x22=>if x22<x21 then(if 0≤x22 then(if x22<(x20.length:Int) then((impl_SplitFields.f k (rdOf ByteArray.empty x20 x22)).bind fun bt490=>(if bt490.2=true then(impl_RunScript.j1 k x4 (rdOf ByteArray.empty x20 x22) x20 x21 x22 ((bt490.1.length:Int)==0)) else(impl_RunScript.j1 k x4 (rdOf ByteArray.empty x20 x22) x20 x21 x22 false))) else(none)) else(none)) else(if(x4.length:Int) >40 then(some (([]:List ByteArray),false)) else((impl_RunActs.f k ([]:List (S26)) 0 0 0 false 0 false 0 0 ([]:List Int) ([]:List Int) 0 false 0 x4).bind fun bt503=>(impl_RunScript.l1 k ([]:List ByteArray) bt503.2.2.2.2.2.2.2.2.2.2.2.2.2.2 (bt503.2.2.2.2.2.2.2.2.2.2.2.2.2.2.length:Int) 0 bt503.1 bt503.2.1 bt503.2.2.1 bt503.2.2.2.1 bt503.2.2.2.2.1 bt503.2.2.2.2.2.1 bt503.2.2.2.2.2.2.1 bt503.2.2.2.2.2.2.2.1 bt503.2.2.2.2.2.2.2.2.1 bt503.2.2.2.2.2.2.2.2.2.1 bt503.2.2.2.2.2.2.2.2.2.2.1 bt503.2.2.2.2.2.2.2.2.2.2.2.1 bt503.2.2.2.2.2.2.2.2.2.2.2.2.1 bt503.2.2.2.2.2.2.2.2.2.2.2.2.2.1)))
def impl_RunScript.j1:Nat→List (S55)→ByteArray→List ByteArray→Int→Int→Bool→Option (List ByteArray×Bool)
  |0,_,_,_,_,_,_=>none
  |k+1,x4,x6,x20,x21,x22,x36=>if x36=true then(impl_RunScript.l0 k x4 x20 x21 (wrap64 (x22+1))) else((impl_ParseAct.f k x6).bind fun bt494=>(if bt494.2.2.2.2=true then(if x4.length<4398046511104 then(impl_RunScript.l0 k (x4++ [(⟨bt494.1,bt494.2.1,bt494.2.2.1,bt494.2.2.2.1⟩:S55)]) x20 x21 (wrap64 (x22+1))) else(none)) else(some (([]:List ByteArray),false))))
def impl_RunScript.l1:Nat→List ByteArray→List Int→Int→Int→List (S26)→Int→Int→Int→Bool→Int→Bool→Int→Int→List Int→List Int→Int→Bool→Int→Option (List ByteArray×Bool)
  |0,_,_,_,_,_,_,_,_,_,_,_,_,_,_,_,_,_,_=>none
  |k+1,x13,x58,x59,x60,x527000,x527001,x527002,x527003,x527004,x527005,x527006,x527007,x527008,x527009,x527010,x527011,x527012,x527013=>if x60<x59 then(if 0≤x60 then(if x60<(x58.length:Int) then((impl_FormatInt.f (rd x58 x60)).bind fun t528=>(if x13.length<8796093022208 then(impl_RunScript.l1 k (x13++ [t528]) x58 x59 (wrap64 (x60+1)) x527000 x527001 x527002 x527003 x527004 x527005 x527006 x527007 x527008 x527009 x527010 x527011 x527012 x527013) else(none))) else(none)) else(none)) else((impl_FormatMachine.f k x527000 x527001 x527002 x527003 x527004 x527005 x527006 x527007 x527008 x527009 x527010 x527011 x527012 x527013).bind fun t532=>(if x13.length+t532.length<8796093022208 then(some ((x13++t532),true)) else(none)))
end
def impl_RunScript.f (k:Nat) (a0:ByteArray):Option (List ByteArray×Bool):=if(a0.size:Int) >20000 then(some (([]:List ByteArray),false)) else((strings_Split.f a0 (⟨#[10]⟩:ByteArray)).bind fun t486=>(impl_RunScript.l0 k ([]:List (S55)) t486 (t486.length:Int) 0))
theorem impl_RunScript.W1 {p:Prop} (h:p:=by
 go_wp2
 go_meet
 first
  |(case rel=>exact⟨_,(((t2.length:Int)==0)),rS,H',⟨by have:=HK1.out;first|omega|exact Nat.le_refl _⟩,⟨fR HO_1.out⟩,⟨X (fR HO_2.out) (fun _ hk=>trivial)⟩,⟨uB⟩⟩)
  |(case rel=>exact⟨_,(false),rS,H',⟨by have:=HK1.out;first|omega|exact Nat.le_refl _⟩,⟨fR HO_1.out⟩,⟨X (fR HO_2.out) (fun _ hk=>trivial)⟩,⟨uB⟩⟩)):p:=h
theorem impl_RunScript.W2 {p:Prop} (h:p:=by
 go_wp2_with (first|((with_reducible refine F (f:=25) rfl ?_);refine gl 25 (some 39) func25 #[.string (rdOf ByteArray.empty t1 x2_1)] ?_;(with_reducible refine(impl_ParseAct.calls kj9 (rdOf ByteArray.empty t1 x2_1) t4 t5 t6 t7 false _ A3.out (Ito.on hTab.out uB)).mono ?_);rintro e w3 ⟨rfl,hb⟩;refine⟨_,rfl,?_⟩;replace HO_1:=eR HO_1 hb;replace HO_2:=eR HO_2 hb;replace HB:=eB hb;clear hb)|((with_reducible refine gate_dst (N:=9) rfl ?_);(try(refine gate_guard (by rfl) ?_;dsimp only));refine Fix.be 9 #[V I 0,V I 0,V I 0,V I 0] 55 ?_;intro gb1 hg w4 BK1 hb;have GW1:=gE (w:=w) hg;replace HO_1:=C (Kd.R_below (Kd.R_elderB (uR HO_1.out) gb1 (Nat.le_of_eq hg.symm)) hb);replace HO_2:=eR HO_2 hb;replace HB:=eB hb;clear hb hg;obtain⟨_,_,_,_,_,_,_,_⟩:=d4 BK1.out)|((with_reducible refine F (f:=11) rfl ?_);refine gl 11 (some 72) func11 #[G #[L Ao3 t2.length co3,V I t3,V I t4,V I t5,O t6,V I t7,O t8,V I t9,V I t10,L Ao4 t11.length co4,L Ao5 t12.length co5,V I t13,O t14,V I t15]] ?_;(with_reducible refine(impl_FormatMachine.calls k2 _ _ t2 t3 t4 t5 t6 t7 t8 t9 t10 _ _ t11 _ _ t12 t13 t14 t15 t17 _ ?side1 ?side2 ?side3 ?side4 ?side5 ?side6 A3.out (Ito.on hTab.out uB)).mono ?_);(case side1=>exact uC (Kd.R_reads' HO_5.out).2.2);(case side2=>exact(Kd.R_reads' HO_5.out).2.1);(case side3=>exact uC (Kd.Q_reads' HO_6.out).2.2);(case side4=>exact(Kd.Q_reads' HO_6.out).2.1);(case side5=>exact uC (Kd.R_reads' HO_7.out).2.2);(case side6=>exact(Kd.R_reads' HO_7.out).2.1);rintro e w4 ⟨v7,rfl,ho1,hb⟩;refine⟨_,rfl,?_⟩;have HO6:=C (Kd.R_lower (Kd.R_new' ho1 (Kd.R_lt (uR HO_3.out))) (below_size uB));replace HO_3:=C (Kd.R_elder' (uR HO_3.out) (Kd.R_base ho1) hb);replace HO_4:=eR HO_4 hb;replace HO_5:=eR HO_5 hb;replace HO_6:=eQ HO_6 hb;replace HO_7:=eR HO_7 hb;replace BK1:=eK BK1 hb;replace HB:=eB hb;clear hb ho1;obtain⟨Ao7,co7,rfl⟩:=U HO6.out)|((with_reducible refine gate_builtin (b:=.append) (xs:= #[.tmp 70,.tmp 72]) rfl ?_);(try(refine gate_guard (by rfl) ?_;dsimp only));at_builtin;refine Kd.R_append_rows Kd.string (w0:=w) w.heap.size rfl (.tmp 70) (.tmp 72) 37 9 (.string ⟨#[]⟩) 16 rfl underlying37 info9 rfl (by decide) (by omega) u13 x3_2 t17 _ _ _ (fun k_=>qn k_ Ao7 t17.length co7) (fun _=>False) rfl rfl ?aO ?aR (fun _ _ h=>h) (fun _ h=>h.elim) ?aF ?aB ?aS ?aL ?_;(case aR=>exact uC (Kd.R_reads' HO6.out).2.2);(case aB=>exact uB);(case aF=>exact(fun k_ hk=>Kd.fresh' (Kd.R_lt (uR HO6.out)) k_ hk));(case aO=>exact(X (fR HO_3.out) (fun _ hk=>hk.2)));(case aS=>exact(below_size uB));(case aL=>have:=LMc1.out;omega);intro v8 w5 ho hb hg hat;rw[←Ny1.out]at ho;have HO7:=C (ho);replace HO_4:=C (Kd.R_over' (uR HO_4.out) (Kd.R_typed (uR HO_3.out)) (by decide) hg);replace HO_5:=C (Kd.R_over' (uR HO_5.out) (Kd.R_typed (uR HO_3.out)) (by decide) hg);replace HO_6:=C (Kd.Q_over' (uQ HO_6.out) (Kd.R_typed (uR HO_3.out)) (by decide) hg);replace HO_7:=C (Kd.R_over' (uR HO_7.out) (Kd.R_typed (uR HO_3.out)) (by decide) hg);replace BK1:=gK BK1 hg (Kd.R_ne HO_3.out BK1.out (by decide));replace HO6:=C (Kd.R_after (ok:=(fun _=>True)) (uR HO6.out) hg hat);replace HB:=C (hb);clear HO_3;clear ho hb hg hat))
 go_ret2
 first
  |(exact⟨_,rE,rN,uB⟩)
  |(exact⟨_,rE,X (fR HO7.out) (fun _ hk=>trivial),uB⟩)):p:=h
theorem impl_RunScript.calls (k:Nat) (a0:ByteArray) (r1:List ByteArray) (r2:Bool) (w:World) (h:impl_RunScript.f k a0=some (r1,r2)) (hTab:Ito.Tab w):
 Calls prog 8 #[.string a0] w fun e w'=>∃v0_:Value,e=.returned (.tuple #[v0_,O r2])∧Kd.R Kd.string 9 w' w.heap.size (fun _=>True) v0_ r1∧Below w.heap.size w w':=by
 replace hTab:=C hTab
 have hu1:=underlying55
 have hu2:=underlying31
 have HB:=C (Below.refl w.heap.size w)
 have H:=h
 unfold impl_RunScript.f at H
 clear h
 by_cases c1:(a0.size:Int) >20000
 ·rw[if_pos c1]at H
  have c1b0:decide (20000<(a0.size:Int))=true:=decide_eq_true c1
  have c1b1:decide (20000<a0.size)=true:=decide_eq_true (by omega)
  clear c1
  simp only[Option.some.injEq,Prod.mk.injEq]at H
  obtain⟨rfl,rfl⟩:=H
  go_enter func8,ntmps8
  go_wp2
  go_ret2
  exact⟨_,rE,rN,uB⟩
 rw[if_neg c1]at H
 have c1b0:decide (20000<(a0.size:Int))=false:=decide_eq_false c1
 have c1b1:decide (20000<a0.size)=false:=decide_eq_false (by omega)
 clear c1
 obtain⟨t1,A1,H⟩:=bnd H
 have H':=C H
 clear H
 go_enter func8,ntmps8
 go_wp2_with (first|((with_reducible refine F (f:=23) rfl ?_);refine gl 23 (some 20) func23 #[.string a0,.string (⟨#[10]⟩:ByteArray)] ?_;(with_reducible refine(strings_Split.calls a0 (⟨#[10]⟩:ByteArray) t1 _ A1.out (Ito.on hTab.out uB)).mono ?_);rintro e w1 ⟨v1,rfl,ho1,hb⟩;refine⟨_,rfl,?_⟩;have HO1:=lR ho1;replace HB:=eB hb;clear hb ho1;obtain⟨Ao1,co1,rfl⟩:=U HO1.out))
 go_loopg [4,22] k (fun kq v4 v22 w'=>∃(x1_1:List (S55)) (x2_1:Int),v22=V I x2_1∧D (impl_RunScript.l0 kq x1_1 t1 (t1.length:Int) x2_1=some (r1,r2))∧D (kq≤k)∧D (Kd.R k55 55 w' w.heap.size (fun _=>True) v4 x1_1)∧D (Kd.R Kd.string 9 w' w.heap.size (fun _=>True) (L Ao1 t1.length co1) t1)∧D (Below w.heap.size w w'))
 case atStart=>exact⟨(([]:List (S55))),(0),rS,H',⟨Nat.le_refl _⟩,⟨rN⟩,⟨fR HO1.out⟩,⟨uB⟩⟩
 case round=>
  clear H'
  obtain⟨x1_1,x2_1,rfl,HA,HK1,HO_1,HO_2,HB⟩:=hrel
  cases gk with
  |zero=>exact absurd HA.out (by simp[impl_RunScript.l0])
  |succ k1=>
   have H:=HA.out
   clear HA
   simp only[impl_RunScript.l0]at H
   by_cases c2:x2_1<(t1.length:Int)
   ·rw[if_pos c2]at H
    replace c2:=decide_eq_true c2
    obtain⟨c3,H⟩:=np H
    replace c3:=decide_eq_true c3
    obtain⟨c4,H⟩:=np H
    replace c4:=decide_eq_true c4
    obtain⟨⟨t2,t3⟩,A2,H⟩:=bnd H
    dsimp only at H
    have HC1:=C H
    clear H
    have p1:0≤(x2_1:Int):=oT
    have q1:x2_1<(t1.length:Int):=oT
    obtain⟨ad1,e1,hx1_0⟩:=Kd.at_string (Kd.R_reads' HO_2.out).2.2 x2_1 p1 q1
    cases e1
    replace p1:=eq_true p1
    replace q1:=eq_true q1
    go_upto_region 8 with(first|((with_reducible refine F (f:=24) rfl ?_);refine gl 24 (some 28) func24 #[.string (rdOf ByteArray.empty t1 x2_1)] ?_;(with_reducible refine(impl_SplitFields.calls k1 (rdOf ByteArray.empty t1 x2_1) t2 t3 _ A2.out (Ito.on hTab.out uB)).mono ?_);rintro e w2 ⟨v2,rfl,ho1,hb⟩;refine⟨_,rfl,?_⟩;have HO2:=C (Kd.R_lower (Kd.R_new' ho1 (Kd.R_lt (uR HO_2.out))) (below_size uB));replace HO_1:=eR HO_1 hb;replace HO_2:=C (Kd.R_elder' (uR HO_2.out) (Kd.R_base ho1) hb);replace HB:=eB hb;clear hb ho1))
    (try simp only[Act.put,List.setIfInBounds_toArray,List.set_cons_zero,List.set_cons_succ])
    go_cut [36] (fun v36 wc=>∃(kq:Nat) (x3_9:Bool),v36=O x3_9∧D (impl_RunScript.j1 kq x1_1 (rdOf ByteArray.empty t1 x2_1) t1 (t1.length:Int) x2_1 x3_9=some (r1,r2))∧D (kq≤k1)∧D (Kd.R k55 55 wc w.heap.size (fun _=>True) u4 x1_1)∧D (Kd.R Kd.string 9 wc w.heap.size (fun _=>True) (L (some ad1) t1.length co1) t1)∧D (Below w.heap.size w wc))
    case first=>
     have H:=HC1.out
     clear HC1
     by_cases c5:t3=true
     rotate_left
     ·obtain rfl:=nt c5
      replace H:=nf H
      have H':=C H
      clear H
      exact impl_RunScript.W1
     subst c5
     rw[if_pos rfl]at H
     have H':=C H
     clear H
     obtain⟨Ao2,co2,eo2⟩:=U HO2.out
     subst eo2
     exact impl_RunScript.W1
    case rest=>
     clear HC1
     obtain⟨kq,x3_9,rfl,HA,HJ1,HO_1,HO_2,HB⟩:=hcut
     cases kq with
     |zero=>exact absurd HA.out (by simp[impl_RunScript.j1])
     |succ kj9=>
      have H:=HA.out
      clear HA
      simp only[impl_RunScript.j1]at H
      by_cases c5:x3_9=true
      ·subst c5
       rw[if_pos rfl]at H
       have H':=C H
       clear H
       go_wp2
       go_roundg kj9
       case measure=>have:=HK1.out;have:=HJ1.out;omega
       case rel=>exact⟨(x1_1),(wrap64 (x2_1+1)),rS,H',⟨by have:=HK1.out;have:=HJ1.out;omega⟩,⟨fR HO_1.out⟩,⟨fR HO_2.out⟩,⟨uB⟩⟩
      obtain rfl:=nt c5
      replace H:=nf H
      obtain⟨⟨t4,t5,t6,t7,t8⟩,A3,H⟩:=bnd H
      dsimp only at H
      by_cases c6:t8=true
      rotate_left
      ·obtain rfl:=nt c6
       replace H:=nf H
       simp only[Option.some.injEq,Prod.mk.injEq]at H
       obtain⟨rfl,rfl⟩:=H
       exact impl_RunScript.W2
      subst c6
      rw[if_pos rfl]at H
      obtain⟨c7,H⟩:=np H
      have LMc1:=C c7
      clear c7
      obtain⟨y1,hy1⟩:∃y_:List (S55),y_=(x1_1++ [(⟨t4,t5,t6,t7⟩:S55)]):=⟨_,rfl⟩
      replace H:(impl_RunScript.l0 kj9 y1 t1 (t1.length:Int) (wrap64 (x2_1+1)))=some (r1,r2):=gy hy1 H
      have Ny1:=C hy1
      clear hy1
      have H':=C H
      clear H
      go_wp2_with (first|((with_reducible refine F (f:=25) rfl ?_);refine gl 25 (some 39) func25 #[.string (rdOf ByteArray.empty t1 x2_1)] ?_;(with_reducible refine(impl_ParseAct.calls kj9 (rdOf ByteArray.empty t1 x2_1) t4 t5 t6 t7 true _ A3.out (Ito.on hTab.out uB)).mono ?_);rintro e w3 ⟨rfl,hb⟩;refine⟨_,rfl,?_⟩;replace HO_1:=eR HO_1 hb;replace HO_2:=eR HO_2 hb;replace HB:=eB hb;clear hb)|((with_reducible refine gate_dst (N:=9) rfl ?_);(try(refine gate_guard (by rfl) ?_;dsimp only));refine Fix.be 9 #[V I 0,V I 0,V I 0,V I 0] 55 ?_;intro gb1 hg w4 BK1 hb;have GW1:=gE (w:=w) hg;have GE1:=GW1;replace HO_1:=C (Kd.R_below (Kd.R_elderB (uR HO_1.out) gb1 (Nat.le_of_eq hg.symm)) hb);replace HO_2:=eR HO_2 hb;replace HB:=eB hb;clear hb hg;obtain⟨_,_,_,_,_,_,_,_⟩:=d4 BK1.out)|((with_reducible refine gate_builtin (b:=.append) (xs:= #[.tmp 44,.tmp 46]) rfl ?_);(try(refine gate_guard (by rfl) ?_;dsimp only));at_builtin;refine Kd.R_append k55 (w0:=w) w.heap.size rfl (.tmp 44) (.tmp 46) 32 55 (G #[(V I 0),(V I 0),(V I 0),(V I 0)]) 32 rfl underlying32 info55 rfl (by decide) (by omega) u4 x1_1 (⟨t4,t5,t6,t7⟩:S55) [V I t4,V I t5,V I t6,V I t7] (fun k_=>k_≠gb1) (fun _=>False) rfl (by first|(go_simp;done)|(go_simp;rfl)) ?aP (fun _ hk=>hk.elim) ?aF ?aO ?aB ?aS ?aL ?_;(case aP=>exact k55_mkM _ _ _ (⟨t4,t5,t6,t7⟩:S55));(case aB=>exact uB);(case aF=>exact(fun k_ hk=>Kd.freshB (g:=gb1) (o:=.cells #[V I t4,V I t5,V I t6,V I t7] 55 (0,0)) (bK BK1.out) k_ hk));(case aO=>exact(X (fR (X HO_1.out (fun k_ hk=>(⟨hk,hk.2⟩:_∧k_≠gb1)))) (fun _ hk=>hk.1.2)));(case aS=>exact(below_size uB));(case aL=>have:=LMc1.out;omega);intro v3 w5 ho hb hg hat;rw[←Ny1.out]at ho;have HO3:=C (ho);replace HO_2:=C (Kd.R_over' (X (fR (Kd.R_types HO_2.out BK1.out (by decide))) (fun _ h_=>h_.1)) (Kd.R_typed (X (fR (X HO_1.out (fun k_ hk=>(⟨hk,hk.2⟩:_∧k_≠gb1)))) (fun _ h_=>h_.1))) (by decide) hg);replace BK1:=C (blk_grown (g:=gb1) (o:=.cells #[V I t4,V I t5,V I t6,V I t7] 55 (0,0)) (bK BK1.out) hg (Kd.R_away HO_1.out (fun _ hk=>hk.2)));replace HB:=C (hb);clear HO_1;clear ho hb hg hat))
      go_roundg kj9
      case measure=>have:=HK1.out;have:=HJ1.out;omega
      case rel=>exact⟨(y1),(wrap64 (x2_1+1)),rS,H',⟨by have:=HK1.out;have:=HJ1.out;omega⟩,⟨X (fR HO3.out) (fun _ hk=>trivial)⟩,⟨fR HO_2.out⟩,⟨uB⟩⟩
   rw[if_neg c2]at H
   replace c2:=decide_eq_false c2
   by_cases c3:(x1_1.length:Int) >40
   ·rw[if_pos c3]at H
    have c3b0:decide (40<(x1_1.length:Int))=true:=decide_eq_true c3
    have c3b1:decide (40<x1_1.length)=true:=decide_eq_true (by omega)
    clear c3
    simp only[Option.some.injEq,Prod.mk.injEq]at H
    obtain⟨rfl,rfl⟩:=H
    obtain⟨Ao2,co2,eo2⟩:=U HO_1.out
    subst eo2
    go_wp2
    go_ret2
    exact⟨_,rE,rN,uB⟩
   rw[if_neg c3]at H
   have c3b0:decide (40<(x1_1.length:Int))=false:=decide_eq_false c3
   have c3b1:decide (40<x1_1.length)=false:=decide_eq_false (by omega)
   clear c3
   obtain⟨⟨t2,t3,t4,t5,t6,t7,t8,t9,t10,t11,t12,t13,t14,t15,t16⟩,A2,H⟩:=bnd H
   dsimp only at H
   have H':=C H
   clear H
   obtain⟨Ao2,co2,eo2⟩:=U HO_1.out
   subst eo2
   go_wp2_with (first|((with_reducible refine F (f:=9) rfl ?_);refine gl 9 (some 55) func9 #[G #[L none 0 0,V I 0,V I 0,V I 0,O false,V I 0,O false,V I 0,V I 0,L none 0 0,L none 0 0,V I 0,O false,V I 0],L Ao2 x1_1.length co2] ?_;(refine(impl_RunActs.calls k1 _ _ ([]:List (S26)) 0 0 0 false 0 false 0 0 _ _ ([]:List Int) _ _ ([]:List Int) 0 false 0 _ _ x1_1 t2 t3 t4 t5 t6 t7 t8 t9 t10 t11 t12 t13 t14 t15 t16 _ ?side1 ?side2 ?side3 ?side4 ?side5 ?side6 ?side7 ?side8 A2.out).mono ?_);(case side1=>exact Kd.C_nil _ _);(case side2=>exact Nat.le_refl _);(case side3=>exact Kd.C_nil _ _);(case side4=>exact Nat.le_refl _);(case side5=>exact Kd.C_nil _ _);(case side6=>exact Nat.le_refl _);(case side7=>exact uC (Kd.R_reads' HO_1.out).2.2);(case side8=>exact(Kd.R_reads' HO_1.out).2.1);rintro e w2 ⟨v2,v3,v5,v6,rfl,ho1,ho2,ho3,ho4,hb⟩;refine⟨_,rfl,?_⟩;have HO2:=lR ho1;have HO3:=C (Kd.Q_lower ho2 (below_size uB));have HO4:=lR ho3;have HO5:=lR ho4;replace HO_1:=eR HO_1 hb;replace HO_2:=eR HO_2 hb;replace HB:=eB hb;clear hb ho1 ho2 ho3 ho4)|((with_reducible refine gate_dst (N:=11) rfl ?_);(try(refine gate_guard (by rfl) ?_;dsimp only));refine Fix.be 11 #[L none 0 0,V I 0,V I 0,V I 0,O false,V I 0,O false,V I 0,V I 0,L none 0 0,L none 0 0,V I 0,O false,V I 0] 31 ?_;intro gb1 hg w3 BK1 hb;have GW1:=gE (w:=w) hg;have GE1:=GW1;replace HO_1:=eR HO_1 hb;replace HO_2:=eR HO_2 hb;replace HO2:=eR HO2 hb;replace HO3:=eQ HO3 hb;replace HO4:=eR HO4 hb;replace HO5:=eR HO5 hb;replace HB:=eB hb;clear hb hg;obtain⟨Ao3,co3,rfl⟩:=U HO2.out;obtain⟨_,_,_,_,_,_,_,_,_,_,_,_,_,_,_,_,_,_,_,_,_,_,_,_,_,_,_,_⟩:=d14 BK1.out;obtain⟨Ao4,co4,eo4,_⟩:=Kd.Q_slice HO3.out;subst eo4;obtain⟨Ao5,co5,rfl⟩:=U HO4.out;obtain⟨Ao6,co6,rfl⟩:=U HO5.out))
   go_loopg [13,60] k1 (fun kq v13 v60 w'=>∃(x3_2:List ByteArray) (x4_2:Int),v60=V I x4_2∧D (impl_RunScript.l1 kq x3_2 t16 (t16.length:Int) x4_2 t2 t3 t4 t5 t6 t7 t8 t9 t10 t11 t12 t13 t14 t15=some (r1,r2))∧D (kq≤k1)∧D (Kd.R Kd.string 9 w' w.heap.size (fun _=>True) v13 x3_2)∧D (Kd.R (Kd.int .i64) 3 w' w.heap.size (fun k_=>some k_≠Fix.o Ao4 t11.length co4∧some k_≠Fix.o Ao5 t12.length co5) (L Ao6 t16.length co6) t16)∧D (Kd.R k26 26 w' w.heap.size (fun _=>True) (L Ao3 t2.length co3) t2)∧D (Kd.Q (Kd.int .i64) 3 w' w.heap.size (fun k_=>some k_≠Fix.o Ao6 t16.length co6∧some k_≠Fix.o Ao5 t12.length co5) (L Ao4 t11.length co4) t11)∧D (Kd.R (Kd.int .i64) 3 w' w.heap.size (fun k_=>some k_≠Fix.o Ao6 t16.length co6∧some k_≠Fix.o Ao4 t11.length co4) (L Ao5 t12.length co5) t12)∧D (w'.heap[gb1]? =some (.cells #[(L Ao3 t2.length co3),V I t3,V I t4,V I t5,O t6,V I t7,O t8,V I t9,V I t10,(L Ao4 t11.length co4),(L Ao5 t12.length co5),V I t13,O t14,V I t15] 31 (0,0)))∧D (Below w.heap.size w w'))
   case atStart=>exact⟨(([]:List ByteArray)),(0),rS,H',⟨Nat.le_refl _⟩,⟨rN⟩,⟨X (fR (Kd.R_types HO5.out BK1.out (by decide))) pj⟩,⟨X (fR (Kd.R_types HO2.out BK1.out (by decide))) (fun _ hk=>trivial)⟩,⟨Kd.Q_mono (fQ (Kd.Q_types HO3.out BK1.out (by decide))) pj⟩,⟨X (fR (Kd.R_types HO4.out BK1.out (by decide))) pj⟩,⟨bK BK1.out⟩,⟨uB⟩⟩
   case round=>
    clear H'
    obtain⟨x3_2,x4_2,rfl,HA,HK2,HO_3,HO_4,HO_5,HO_6,HO_7,BK1,HB⟩:=hrel
    cases gk with
    |zero=>exact absurd HA.out (by simp[impl_RunScript.l1])
    |succ k2=>
     have H:=HA.out
     clear HA
     simp only[impl_RunScript.l1]at H
     by_cases c4:x4_2<(t16.length:Int)
     rotate_left
     ·rw[if_neg c4]at H
      replace c4:=decide_eq_false c4
      obtain⟨t17,A3,H⟩:=bnd H
      obtain⟨c5,H⟩:=np H
      have LMc1:=C c5
      clear c5
      obtain⟨y1,hy1⟩:∃y_:List ByteArray,y_=(x3_2++t17):=⟨_,rfl⟩
      replace H:(some (y1,true))=some (r1,r2):=gy hy1 H
      have Ny1:=C hy1
      clear hy1
      simp only[Option.some.injEq,Prod.mk.injEq]at H
      obtain⟨rfl,rfl⟩:=H
      have h_:=d14 BK1.out;(repeat(obtain⟨_,h_⟩:=h_))
      exact impl_RunScript.W2
     rw[if_pos c4]at H
     replace c4:=decide_eq_true c4
     obtain⟨c5,H⟩:=np H
     replace c5:=decide_eq_true c5
     obtain⟨c6,H⟩:=np H
     replace c6:=decide_eq_true c6
     obtain⟨t17,A3,H⟩:=bnd H
     obtain⟨c7,H⟩:=np H
     have LMc1:=C c7
     clear c7
     obtain⟨y1,hy1⟩:∃y_:List ByteArray,y_=(x3_2++ [t17]):=⟨_,rfl⟩
     replace H:(impl_RunScript.l1 k2 y1 t16 (t16.length:Int) (wrap64 (x4_2+1)) t2 t3 t4 t5 t6 t7 t8 t9 t10 t11 t12 t13 t14 t15)=some (r1,r2):=gy hy1 H
     have Ny1:=C hy1
     clear hy1
     have H':=C H
     clear H
     have p1:0≤(x4_2:Int):=oT
     have q1:x4_2<(t16.length:Int):=oT
     obtain⟨ad1,e1,hx1_0⟩:=Kd.at_int (Kd.R_reads' HO_4.out).2.2 x4_2 p1 q1
     cases e1
     replace p1:=eq_true p1
     replace q1:=eq_true q1
     go_wp2_with (first|((with_reducible refine F (f:=10) rfl ?_);refine gl 10 (some 66) func10 #[V I (rd t16 x4_2)] ?_;(with_reducible refine(impl_FormatInt.calls (rd t16 x4_2) t17 _ A3.out (Ito.on hTab.out uB)).mono ?_);rintro e w4 ⟨rfl,hb⟩;refine⟨_,rfl,?_⟩;replace HO_3:=eR HO_3 hb;replace HO_4:=eR HO_4 hb;replace HO_5:=eR HO_5 hb;replace HO_6:=eQ HO_6 hb;replace HO_7:=eR HO_7 hb;replace BK1:=eK BK1 hb;replace HB:=eB hb;clear hb)|((with_reducible refine gate_builtin (b:=.append) (xs:= #[.tmp 64,.tmp 67]) rfl ?_);(try(refine gate_guard (by rfl) ?_;dsimp only));at_builtin;refine Kd.R_append Kd.string (w0:=w) w.heap.size rfl (.tmp 64) (.tmp 67) 37 9 (.string ⟨#[]⟩) 16 rfl underlying37 info9 rfl (by decide) (by omega) u13 x3_2 t17 [.string t17] (fun _=>True) (fun _=>False) rfl rfl ?aP (fun _ hk=>hk.elim) ?aF ?aO ?aB ?aS ?aL ?_;(case aP=>exact rfl);(case aB=>exact uB);(case aF=>exact(fun _ _=>trivial));(case aO=>exact(uR HO_3.out));(case aS=>exact(below_size uB));(case aL=>have:=LMc1.out;omega);intro v7 w5 ho hb hg hat;rw[←Ny1.out]at ho;have HO6:=C (ho);replace HO_4:=C (Kd.R_over' (uR HO_4.out) (Kd.R_typed (uR HO_3.out)) (by decide) hg);replace HO_5:=C (Kd.R_over' (uR HO_5.out) (Kd.R_typed (uR HO_3.out)) (by decide) hg);replace HO_6:=C (Kd.Q_over' (uQ HO_6.out) (Kd.R_typed (uR HO_3.out)) (by decide) hg);replace HO_7:=C (Kd.R_over' (uR HO_7.out) (Kd.R_typed (uR HO_3.out)) (by decide) hg);replace BK1:=gK BK1 hg (Kd.R_ne HO_3.out BK1.out (by decide));replace HB:=C (hb);clear HO_3;clear ho hb hg hat))
     go_roundg k2
     case measure=>have:=HK1.out;have:=HK2.out;omega
     case rel=>exact⟨(y1),(wrap64 (x4_2+1)),rS,H',⟨by have:=HK1.out;have:=HK2.out;omega⟩,⟨fR HO6.out⟩,⟨fR HO_4.out⟩,⟨fR HO_5.out⟩,⟨fQ HO_6.out⟩,⟨fR HO_7.out⟩,⟨bK BK1.out⟩,⟨uB⟩⟩
mutual
def spec_SplitFields.l0:Nat→ByteArray→List ByteArray→Int→Int→Option (List ByteArray×Bool)
  |0,_,_,_,_=>none
  |k+1,x0,x4,x5,x6=>if x6≤(x0.size:Int) then(if x6<(x0.size:Int) then(if 0≤x6 then(if(bt x0 x6)<32 then(spec_SplitFields.j1 k x0 x4 x5 x6 true) else(spec_SplitFields.j1 k x0 x4 x5 x6 (decide ((bt x0 x6) >126)))) else(none)) else(spec_SplitFields.j1 k x0 x4 x5 x6 false)) else(if(x4.length:Int) >24 then(some ((([]:List ByteArray)),false)) else(some (x4,true)))
def spec_SplitFields.j1:Nat→ByteArray→List ByteArray→Int→Int→Bool→Option (List ByteArray×Bool)
  |0,_,_,_,_,_=>none
  |k+1,x0,x4,x5,x6,x33=>if x33=true then(some ((([]:List ByteArray)),false)) else(if x6<(x0.size:Int) then(if 0≤x6 then(spec_SplitFields.j2 k x0 x4 x5 x6 ((bt x0 x6) !=32)) else(none)) else(spec_SplitFields.j2 k x0 x4 x5 x6 false))
def spec_SplitFields.j2:Nat→ByteArray→List ByteArray→Int→Int→Bool→Option (List ByteArray×Bool)
  |0,_,_,_,_,_=>none
  |k+1,x0,x4,x5,x6,x44=>if x44=true then(spec_SplitFields.l0 k x0 x4 x5 (wrap64 (x6+1))) else(if x5<x6 then(if 0≤x5 then(if x5≤x6 then(if x6≤(x0.size:Int) then(if x4.length<8796093022208 then(spec_SplitFields.l0 k x0 (x4++ [x0.extract (x5:Int).toNat (x6:Int).toNat]) (wrap64 (x6+1)) (wrap64 (x6+1))) else(none)) else(none)) else(none)) else(none)) else(spec_SplitFields.l0 k x0 x4 (wrap64 (x6+1)) (wrap64 (x6+1))))
end
def spec_SplitFields.f (k:Nat) (a0:ByteArray):Option (List ByteArray×Bool):=(some (([]:List ByteArray):List ByteArray)).bind fun y538=>(if(a0.size:Int) >600 then(some (y538,false)) else(spec_SplitFields.l0 k a0 y538 0 0))
theorem spec_SplitFields.W1 {p:Prop} (h:p:=by
 go_wp2
 go_meet
 first
  |(case rel=>exact⟨_,(true),rS,H',⟨by have:=HK1.out;first|omega|exact Nat.le_refl _⟩,⟨fR HO_1.out⟩,⟨uB⟩⟩)
  |(case rel=>exact⟨_,(decide ((bt a0 x3_1) >126)),rS,H',⟨by have:=HK1.out;first|omega|exact Nat.le_refl _⟩,⟨fR HO_1.out⟩,⟨uB⟩⟩)
  |(case rel=>exact⟨_,(false),rS,H',⟨by have:=HK1.out;first|omega|exact Nat.le_refl _⟩,⟨fR HO_1.out⟩,⟨uB⟩⟩)
  |(case rel=>exact⟨_,(((bt a0 x3_1) !=32)),rS,H',⟨by have:=HK1.out;have:=HJ1.out;first|omega|exact Nat.le_refl _⟩,⟨fR HO_1.out⟩,⟨uB⟩⟩)
  |(case rel=>exact⟨_,(false),rS,H',⟨by have:=HK1.out;have:=HJ1.out;first|omega|exact Nat.le_refl _⟩,⟨fR HO_1.out⟩,⟨uB⟩⟩)):p:=h
theorem spec_SplitFields.W2 {p:Prop} (h:p:=by
 go_wp2_with (first|((with_reducible refine gate_dst (N:=34) rfl ?_);refine Kd.R_lit Kd.string _ 9 ?hg (N:=34) ?hd (xs:=([]:List ByteArray)) (inner:= []) (ok:=fun _=>True) (okp:=fun _=>True) ?hr ?hp (fun _ hk=>hk) trivial (Below.refl _ _) (Nat.le_refl _) (by simp) ?_;(case hd=>rfl);(case hg=>rfl);(case hr=>exact Fix.hr);(case hp=>exact(Reps.none _ _));intro v2 w2 ho2 hb hg_ hnew_;clear hg_ hnew_;(first|rw[←Ny2.out]at ho2|(simp only[Int.reduceToNat]at ho2;rw[←Ny2.out]at ho2));have HO2:=C (Kd.R_lower (Kd.R_new' ho2 (Kd.R_lt (uR HO_1.out))) (below_size uB));replace HO_1:=C (Kd.R_elder' (uR HO_1.out) (Kd.R_base ho2) hb);replace HB:=eB hb;clear hb ho2)|((with_reducible refine gate_dst (N:=60) rfl ?_);refine Kd.R_lit Kd.string _ 9 ?hg (N:=60) ?hd (xs:=([]:List ByteArray)) (inner:= []) (ok:=fun _=>True) (okp:=fun _=>True) ?hr ?hp (fun _ hk=>hk) trivial (Below.refl _ _) (Nat.le_refl _) (by simp) ?_;(case hd=>rfl);(case hg=>rfl);(case hr=>exact Fix.hr);(case hp=>exact(Reps.none _ _));intro v2 w2 ho2 hb hg_ hnew_;clear hg_ hnew_;(first|rw[←Ny2.out]at ho2|(simp only[Int.reduceToNat]at ho2;rw[←Ny2.out]at ho2));have HO2:=C (Kd.R_lower (Kd.R_new' ho2 (Kd.R_lt (uR HO_1.out))) (below_size uB));replace HO_1:=C (Kd.R_elder' (uR HO_1.out) (Kd.R_base ho2) hb);replace HB:=eB hb;clear hb ho2))
 go_ret2
 exact⟨_,rE,X (fR HO2.out) (fun _ hk=>trivial),uB⟩):p:=h
theorem spec_SplitFields.W3 {p:Prop} (h:p:=by
 go_wp2
 go_roundg kj16
 case measure=>have:=HK1.out;have:=HJ1.out;have:=HJ2.out;omega
 first
  |(case rel=>exact⟨(x1_1),(x2_1),(wrap64 (x3_1+1)),rS,rS,H',⟨by have:=HK1.out;have:=HJ1.out;have:=HJ2.out;omega⟩,⟨fR HO_1.out⟩,⟨uB⟩⟩)
  |(case rel=>exact⟨(x1_1),(wrap64 (x3_1+1)),(wrap64 (x3_1+1)),rS,rS,H',⟨by have:=HK1.out;have:=HJ1.out;have:=HJ2.out;omega⟩,⟨fR HO_1.out⟩,⟨uB⟩⟩)):p:=h
theorem spec_SplitFields.calls (k:Nat) (a0:ByteArray) (r1:List ByteArray) (r2:Bool) (w:World) (h:spec_SplitFields.f k a0=some (r1,r2)):
 Calls prog 30 #[.string a0] w fun e w'=>∃v0_:Value,e=.returned (.tuple #[v0_,O r2])∧Kd.R Kd.string 9 w' w.heap.size (fun _=>True) v0_ r1∧Below w.heap.size w w':=by
 have HB:=C (Below.refl w.heap.size w)
 have H:=h
 unfold spec_SplitFields.f at H
 clear h
 obtain⟨y1,hy1⟩:∃y_:List ByteArray,y_=(([]:List ByteArray)):=⟨_,rfl⟩
 replace H:(if(a0.size:Int) >600 then(some (y1,false)) else(spec_SplitFields.l0 k a0 y1 0 0))=some (r1,r2):=gy hy1 H
 have Ny1:=C hy1
 clear hy1
 by_cases c1:(a0.size:Int) >600
 ·rw[if_pos c1]at H
  have c1b0:decide (600<(a0.size:Int))=true:=decide_eq_true c1
  have c1b1:decide (600<a0.size)=true:=decide_eq_true (by omega)
  clear c1
  simp only[Option.some.injEq,Prod.mk.injEq]at H
  obtain⟨rfl,rfl⟩:=H
  go_enter func30,ntmps30
  go_wp2_with (first|((with_reducible refine gate_dst (N:=7) rfl ?_);refine Kd.R_lit Kd.string _ 9 ?hg (N:=7) ?hd (xs:=([]:List ByteArray)) (inner:= []) (ok:=fun _=>True) (okp:=fun _=>True) ?hr ?hp (fun _ hk=>hk) trivial (Below.refl _ _) (Nat.le_refl _) (by simp) ?_;(case hd=>rfl);(case hg=>rfl);(case hr=>exact Fix.hr);(case hp=>exact(Reps.none _ _));intro v1 w1 ho1 hb hg_ hnew_;clear hg_ hnew_;(first|rw[←Ny1.out]at ho1|(simp only[Int.reduceToNat]at ho1;rw[←Ny1.out]at ho1));have HO1:=lR ho1;replace HB:=eB hb;clear hb ho1))
  go_ret2
  exact⟨_,rE,fR HO1.out,uB⟩
 rw[if_neg c1]at H
 have c1b0:decide (600<(a0.size:Int))=false:=decide_eq_false c1
 have c1b1:decide (600<a0.size)=false:=decide_eq_false (by omega)
 clear c1
 have H':=C H
 clear H
 go_enter func30,ntmps30
 go_wp2_with (first|((with_reducible refine gate_dst (N:=7) rfl ?_);refine Kd.R_lit Kd.string _ 9 ?hg (N:=7) ?hd (xs:=([]:List ByteArray)) (inner:= []) (ok:=fun _=>True) (okp:=fun _=>True) ?hr ?hp (fun _ hk=>hk) trivial (Below.refl _ _) (Nat.le_refl _) (by simp) ?_;(case hd=>rfl);(case hg=>rfl);(case hr=>exact Fix.hr);(case hp=>exact(Reps.none _ _));intro v1 w1 ho1 hb hg_ hnew_;clear hg_ hnew_;(first|rw[←Ny1.out]at ho1|(simp only[Int.reduceToNat]at ho1;rw[←Ny1.out]at ho1));have HO1:=lR ho1;replace HB:=eB hb;clear hb ho1))
 go_loopg [4,5,6] k (fun kq v4 v5 v6 w'=>∃(x1_1:List ByteArray) (x2_1:Int) (x3_1:Int),v5=V I x2_1∧v6=V I x3_1∧D (spec_SplitFields.l0 kq a0 x1_1 x2_1 x3_1=some (r1,r2))∧D (kq≤k)∧D (Kd.R Kd.string 9 w' w.heap.size (fun _=>True) v4 x1_1)∧D (Below w.heap.size w w'))
 case atStart=>exact⟨(y1),(0),(0),rS,rS,H',⟨Nat.le_refl _⟩,⟨fR HO1.out⟩,⟨uB⟩⟩
 case round=>
  clear H'
  obtain⟨x1_1,x2_1,x3_1,rfl,rfl,HA,HK1,HO_1,HB⟩:=hrel
  cases gk with
  |zero=>exact absurd HA.out (by simp[spec_SplitFields.l0])
  |succ k1=>
   have H:=HA.out
   clear HA
   simp only[spec_SplitFields.l0]at H
   by_cases c2:x3_1≤(a0.size:Int)
   rotate_left
   ·rw[if_neg c2]at H
    replace c2:=decide_eq_false c2
    by_cases c3:(x1_1.length:Int) >24
    rotate_left
    ·rw[if_neg c3]at H
     have c3b0:decide (24<(x1_1.length:Int))=false:=decide_eq_false c3
     have c3b1:decide (24<x1_1.length)=false:=decide_eq_false (by omega)
     clear c3
     simp only[Option.some.injEq,Prod.mk.injEq]at H
     obtain⟨rfl,rfl⟩:=H
     obtain⟨Ao1,co1,eo1⟩:=U HO_1.out
     subst eo1
     go_wp2
     go_ret2
     exact⟨_,rE,fR HO_1.out,uB⟩
    rw[if_pos c3]at H
    have c3b0:decide (24<(x1_1.length:Int))=true:=decide_eq_true c3
    have c3b1:decide (24<x1_1.length)=true:=decide_eq_true (by omega)
    clear c3
    obtain⟨y2,hy2⟩:∃y_:List ByteArray,y_=(([]:List ByteArray)):=⟨_,rfl⟩
    replace H:(some (y2,false))=some (r1,r2):=gy hy2 H
    have Ny2:=C hy2
    clear hy2
    simp only[Option.some.injEq,Prod.mk.injEq]at H
    obtain⟨rfl,rfl⟩:=H
    obtain⟨Ao1,co1,eo1⟩:=U HO_1.out
    subst eo1
    exact spec_SplitFields.W2
   rw[if_pos c2]at H
   replace c2:=decide_eq_true c2
   have HC1:=C H
   clear H
   go_upto_region 8 with(fail)
   go_cut [33] (fun v33 wc=>∃(kq:Nat) (x4_7:Bool),v33=O x4_7∧D (spec_SplitFields.j1 kq a0 x1_1 x2_1 x3_1 x4_7=some (r1,r2))∧D (kq≤k1)∧D (Kd.R Kd.string 9 wc w.heap.size (fun _=>True) u4 x1_1)∧D (Below w.heap.size w wc))
   case first=>
    have H:=HC1.out
    clear HC1
    by_cases c3:x3_1<(a0.size:Int)
    rotate_left
    ·rw[if_neg c3]at H
     have c3b0:decide (x3_1<(a0.size:Int))=false:=decide_eq_false c3
     clear c3
     (first|rw[c3b0]|(simp only[i64_w,i32_w];rw[c3b0])|skip)
     have H':=C H
     clear H
     exact spec_SplitFields.W1
    rw[if_pos c3]at H
    have c3b0:decide (x3_1<(a0.size:Int))=true:=decide_eq_true c3
    clear c3
    (first|rw[c3b0]|(simp only[i64_w,i32_w];rw[c3b0])|skip)
    obtain⟨c4,H⟩:=np H
    have c4b0:decide (0≤x3_1)=true:=decide_eq_true c4
    clear c4
    by_cases c5:(bt a0 x3_1)<32
    ·rw[if_pos c5]at H
     replace c5:=decide_eq_true c5
     have H':=C H
     clear H
     have p1:0≤(x3_1:Int):=oT
     have q1:x3_1<(a0.size:Int):=oT
     have hx1:=bt_at a0 x3_1
     replace p1:=eq_true p1
     replace q1:=eq_true q1
     exact spec_SplitFields.W1
    rw[if_neg c5]at H
    replace c5:=decide_eq_false c5
    have H':=C H
    clear H
    have p1:0≤(x3_1:Int):=oT
    have q1:x3_1<(a0.size:Int):=oT
    have hx1:=bt_at a0 x3_1
    replace p1:=eq_true p1
    replace q1:=eq_true q1
    have p2:0≤(x3_1:Int):=oT
    have q2:x3_1<(a0.size:Int):=oT
    have hx2:=bt_at a0 x3_1
    replace p2:=eq_true p2
    replace q2:=eq_true q2
    exact spec_SplitFields.W1
   case rest=>
    clear HC1
    obtain⟨kq,x4_7,rfl,HA,HJ1,HO_1,HB⟩:=hcut
    cases kq with
    |zero=>exact absurd HA.out (by simp[spec_SplitFields.j1])
    |succ kj7=>
     have H:=HA.out
     clear HA
     simp only[spec_SplitFields.j1]at H
     by_cases c3:x4_7=true
     ·subst c3
      rw[if_pos rfl]at H
      obtain⟨y2,hy2⟩:∃y_:List ByteArray,y_=(([]:List ByteArray)):=⟨_,rfl⟩
      replace H:(some (y2,false))=some (r1,r2):=gy hy2 H
      have Ny2:=C hy2
      clear hy2
      simp only[Option.some.injEq,Prod.mk.injEq]at H
      obtain⟨rfl,rfl⟩:=H
      exact spec_SplitFields.W2
     obtain rfl:=nt c3
     replace H:=nf H
     have HC2:=C H
     clear H
     go_upto_region 10 with(fail)
     go_cut [44] (fun v44 wc=>∃(kq:Nat) (x5_16:Bool),v44=O x5_16∧D (spec_SplitFields.j2 kq a0 x1_1 x2_1 x3_1 x5_16=some (r1,r2))∧D (kq≤kj7)∧D (Kd.R Kd.string 9 wc w.heap.size (fun _=>True) u4 x1_1)∧D (Below w.heap.size w wc))
     case first=>
      have H:=HC2.out
      clear HC2
      by_cases c4:x3_1<(a0.size:Int)
      rotate_left
      ·rw[if_neg c4]at H
       have c4b0:decide (x3_1<(a0.size:Int))=false:=decide_eq_false c4
       clear c4
       (first|rw[c4b0]|(simp only[i64_w,i32_w];rw[c4b0])|skip)
       have H':=C H
       clear H
       exact spec_SplitFields.W1
      rw[if_pos c4]at H
      have c4b0:decide (x3_1<(a0.size:Int))=true:=decide_eq_true c4
      clear c4
      (first|rw[c4b0]|(simp only[i64_w,i32_w];rw[c4b0])|skip)
      obtain⟨c5,H⟩:=np H
      replace c5:=decide_eq_true c5
      have H':=C H
      clear H
      have p1:0≤(x3_1:Int):=oT
      have q1:x3_1<(a0.size:Int):=oT
      have hx1:=bt_at a0 x3_1
      replace p1:=eq_true p1
      replace q1:=eq_true q1
      exact spec_SplitFields.W1
     case rest=>
      clear HC2
      obtain⟨kq,x5_16,rfl,HA,HJ2,HO_1,HB⟩:=hcut
      cases kq with
      |zero=>exact absurd HA.out (by simp[spec_SplitFields.j2])
      |succ kj16=>
       have H:=HA.out
       clear HA
       simp only[spec_SplitFields.j2]at H
       by_cases c4:x5_16=true
       ·subst c4
        rw[if_pos rfl]at H
        have H':=C H
        clear H
        exact spec_SplitFields.W3
       obtain rfl:=nt c4
       replace H:=nf H
       by_cases c5:x2_1<x3_1
       rotate_left
       ·rw[if_neg c5]at H
        replace c5:=decide_eq_false c5
        have H':=C H
        clear H
        exact spec_SplitFields.W3
       rw[if_pos c5]at H
       replace c5:=decide_eq_true c5
       obtain⟨c6,H⟩:=np H
       have c6b0:=eq_true c6
       have c6b1:decide (0≤x2_1)=true:=decide_eq_true c6
       clear c6
       obtain⟨c7,H⟩:=np H
       have c7b0:=eq_true c7
       have c7b1:decide (x2_1≤x3_1)=true:=decide_eq_true c7
       clear c7
       obtain⟨c8,H⟩:=np H
       have c8b0:=eq_true c8
       have c8b1:decide (x3_1≤(a0.size:Int))=true:=decide_eq_true c8
       clear c8
       obtain⟨c9,H⟩:=np H
       have LMc1:=C c9
       clear c9
       obtain⟨y2,hy2⟩:∃y_:List ByteArray,y_=(x1_1++ [a0.extract (x2_1:Int).toNat (x3_1:Int).toNat]):=⟨_,rfl⟩
       replace H:(spec_SplitFields.l0 kj16 a0 y2 (wrap64 (x3_1+1)) (wrap64 (x3_1+1)))=some (r1,r2):=gy hy2 H
       have Ny2:=C hy2
       clear hy2
       have H':=C H
       clear H
       go_wp2_with (first|((with_reducible refine gate_builtin (b:=.append) (xs:= #[.tmp 48,.tmp 53]) rfl ?_);at_builtin;refine Kd.R_append Kd.string (w0:=w) w.heap.size rfl (.tmp 48) (.tmp 53) 37 9 (.string ⟨#[]⟩) 16 rfl underlying37 info9 rfl (by decide) (by omega) u4 x1_1 (a0.extract (x2_1:Int).toNat (x3_1:Int).toNat) [.string (a0.extract (x2_1:Int).toNat (x3_1:Int).toNat)] (fun _=>True) (fun _=>False) rfl rfl ?aP (fun _ hk=>hk.elim) ?aF ?aO ?aB ?aS ?aL ?_;(case aP=>exact rfl);(case aB=>exact uB);(case aF=>exact(fun _ _=>trivial));(case aO=>exact(uR HO_1.out));(case aS=>exact(below_size uB));(case aL=>have:=LMc1.out;omega);intro v2 w2 ho hb hg hat;rw[←Ny2.out]at ho;have HO2:=C (ho);replace HB:=C (hb);clear HO_1;clear ho hb hg hat))
       go_roundg kj16
       case measure=>have:=HK1.out;have:=HJ1.out;have:=HJ2.out;omega
       case rel=>exact⟨(y2),(wrap64 (x3_1+1)),(wrap64 (x3_1+1)),rS,rS,H',⟨by have:=HK1.out;have:=HJ1.out;have:=HJ2.out;omega⟩,⟨fR HO2.out⟩,⟨uB⟩⟩
def spec_l01In.f (a0:Int) (a1:Int) (a2:Int):Option (Bool):=if a0 ≥ a1 then(some (decide (a0≤a2))) else(some false)
theorem spec_l01In.W1 {p:Prop} (h:p:=by
 go_enter func60,ntmps60
 go_wp2
 go_ret
 exact⟨by first|rfl|(simp;done)|(simp[*];done),by repeat(first|exact Drawn0.refl _|apply Drawn0.step)⟩):p:=h
theorem spec_l01In.calls (a0:Int) (a1:Int) (a2:Int) (r:Bool) (w:World) (h:spec_l01In.f a0 a1 a2=some r):
 Calls prog 60 #[V I a0,V I a1,V I a2] w fun e w'=>e=.returned (O r)∧Drawn0 w w':=by
 have H:=h
 unfold spec_l01In.f at H
 clear h
 by_cases c1:a0 ≥ a1
 ·rw[if_pos c1]at H
  replace c1:=decide_eq_true c1
  obtain rfl:=si H
  exact spec_l01In.W1
 rw[if_neg c1]at H
 replace c1:=decide_eq_false c1
 obtain rfl:=si H
 exact spec_l01In.W1
def spec_l01Figure.f (a0:Int):Option (Int):=if a0<10 then(some ((wrap64 (48+a0)) % 256)) else(some ((wrap64 ((wrap64 (97+a0)) - 10)) % 256))
theorem spec_l01Figure.W1 {p:Prop} (h:p:=by
 go_enter func66,ntmps66
 go_wp2
 go_ret
 exact⟨by first|rfl|(simp;done)|(simp[*];done),by repeat(first|exact Drawn0.refl _|apply Drawn0.step)⟩):p:=h
theorem spec_l01Figure.calls (a0:Int) (r:Int) (w:World) (h:spec_l01Figure.f a0=some r):
 Calls prog 66 #[V I a0] w fun e w'=>e=.returned (.int .u8 r)∧Drawn0 w w':=by
 have H:=h
 unfold spec_l01Figure.f at H
 clear h
 by_cases c1:a0<10
 ·rw[if_pos c1]at H
  replace c1:=decide_eq_true c1
  obtain rfl:=si H
  exact spec_l01Figure.W1
 rw[if_neg c1]at H
 replace c1:=decide_eq_false c1
 obtain rfl:=si H
 exact spec_l01Figure.W1
def spec_FormatInt.l0:Nat→Int→Bool→ByteArray→Option (ByteArray)
  |0,_,_,_=>none
  |k+1,x0,x3,x4=>if x0=0 then(if x3=true then(if 1+x4.size≤9223372036854775807 then(some ((⟨#[45]⟩:ByteArray)++x4)) else(none)) else(some x4)) else(if(Int.tmod x0 10)<0 then((spec_l01Figure.f (wrap64 (-(Int.tmod x0 10)))).bind fun t550=>((some (([t550]:List Int):List Int)).bind fun y551=>(if(strOfNums y551).size+x4.size≤9223372036854775807 then(spec_FormatInt.l0 k (wrap64 (Int.tdiv x0 10)) x3 ((strOfNums y551)++x4)) else(none)))) else((spec_l01Figure.f (Int.tmod x0 10)).bind fun t554=>((some (([t554]:List Int):List Int)).bind fun y555=>(if(strOfNums y555).size+x4.size≤9223372036854775807 then(spec_FormatInt.l0 k (wrap64 (Int.tdiv x0 10)) x3 ((strOfNums y555)++x4)) else(none)))))
def spec_FormatInt.f (k:Nat) (a0:Int):Option (ByteArray):=if a0=0 then(some (⟨#[48]⟩:ByteArray)) else(spec_FormatInt.l0 k a0 (decide (a0<0)) (⟨#[]⟩:ByteArray))
theorem spec_FormatInt.W1 {p:Prop} (h:p:=by
    go_wp2
    first
      | (try (any_goals (exfalso; have h1_ := of_decide_eq_true c3b0; omega))
         go_ret
         exact⟨rE,uB⟩)
      | (try (any_goals (exfalso; have h1_ := of_decide_eq_false c3b0; omega))
         go_ret
         exact⟨rE,uB⟩)):p:=h
theorem spec_FormatInt.calls (k:Nat) (a0:Int) (r:ByteArray) (w:World) (h:spec_FormatInt.f k a0=some r):
 Calls prog 33 #[V I a0] w fun e w'=>e=.returned (.string r)∧Below w.heap.size w w':=by
 have HB:=C (Below.refl w.heap.size w)
 have H:=h
 unfold spec_FormatInt.f at H
 clear h
 by_cases c1:a0=0
 ·rw[if_pos c1]at H
  have c1b0:(a0==0)=true:=beq_iff_eq.mpr c1
  have c1b1:(a0 !=0)=false:=bne_eq_false_iff_eq.mpr c1
  clear c1
  obtain rfl:=si H
  go_enter func33,ntmps33
  go_wp2
  go_ret
  exact⟨rE,uB⟩
 rw[if_neg c1]at H
 have c1b0:(a0==0)=false:=beq_eq_false_iff_ne.mpr c1
 have c1b1:(a0 !=0)=true:=bne_iff_ne.mpr c1
 have H':=C H
 clear H
 go_enter func33,ntmps33
 go_wp2
 go_loopg [0,4] k (fun kq v0 v4 w'=>∃(x1_1:Int) (x2_1:ByteArray),v0=V I x1_1∧v4=.string x2_1∧D (spec_FormatInt.l0 kq x1_1 (decide (a0<0)) x2_1=some r)∧D (kq≤k)∧D (Below w.heap.size w w'))
 case atStart=>exact⟨(a0),((⟨#[]⟩:ByteArray)),rS,rS,H',⟨Nat.le_refl _⟩,⟨uB⟩⟩
 case round=>
  clear H'
  obtain⟨x1_1,x2_1,rfl,rfl,HA,HK1,HB⟩:=hrel
  cases gk with
  |zero=>exact absurd HA.out (by simp[spec_FormatInt.l0])
  |succ k1=>
   have H:=HA.out
   clear HA
   simp only[spec_FormatInt.l0]at H
   by_cases c2:x1_1=0
   ·rw[if_pos c2]at H
    have c2b0:(x1_1==0)=true:=beq_iff_eq.mpr c2
    have c2b1:(x1_1 !=0)=false:=bne_eq_false_iff_eq.mpr c2
    clear c2
    by_cases c3:(decide (a0<0))=true
    rotate_left
    ·rw[if_neg c3]at H
     have c3b0:(decide (a0<0))=false:=by simpa using c3
     clear c3
     obtain rfl:=si H
     exact spec_FormatInt.W1
    rw[if_pos c3]at H
    have c3b0:(decide (a0<0))=true:=c3
    clear c3
    obtain⟨c4,H⟩:=np H
    have c4b0:=eq_true c4
    have c4b1:decide (1+x2_1.size≤9223372036854775807)=true:=decide_eq_true c4
    try have c4b2:(9223372036854775807<1+x2_1.size)=False:=eq_false (Nat.not_lt.2 c4)
    try(have h1_:=c4;simp only[ByteArray.size_append,Ito.bsz,List.size_toArray,List.length_cons,List.length_nil]at h1_;have c4b3:=eq_false (Nat.not_lt.2 h1_);clear h1_)
    obtain rfl:=si H
    exact spec_FormatInt.W1
   rw[if_neg c2]at H
   have c2b0:(x1_1==0)=false:=beq_eq_false_iff_ne.mpr c2
   have c2b1:(x1_1 !=0)=true:=bne_iff_ne.mpr c2
   by_cases c3:(Int.tmod x1_1 10)<0
   rotate_left
   ·rw[if_neg c3]at H
    replace c3:=decide_eq_false c3
    obtain⟨t1,A1,H⟩:=bnd H
    obtain⟨y1,hy1⟩:∃y_:List Int,y_=(([t1]:List Int)):=⟨_,rfl⟩
    replace H:(if(strOfNums y1).size+x2_1.size≤9223372036854775807 then(spec_FormatInt.l0 k1 (wrap64 (Int.tdiv x1_1 10)) (decide (a0<0)) ((strOfNums y1)++x2_1)) else(none))=some r:=gy hy1 H
    have Ny1:=C hy1
    clear hy1
    obtain⟨c4,H⟩:=np H
    have c4b0:=eq_true c4
    have c4b1:decide ((strOfNums y1).size+x2_1.size≤9223372036854775807)=true:=decide_eq_true c4
    try have c4b2:(9223372036854775807<(strOfNums y1).size+x2_1.size)=False:=eq_false (Nat.not_lt.2 c4)
    try(have h1_:=c4;simp only[ByteArray.size_append,Ito.bsz,List.size_toArray,List.length_cons,List.length_nil]at h1_;have c4b3:=eq_false (Nat.not_lt.2 h1_);clear h1_)
    have H':=C H
    clear H
    go_wp2_with (first|((with_reducible refine F (f:=66) rfl ?_);refine gl 66 (some 19) func66 #[V I (Int.tmod x1_1 10)] ?_;(with_reducible refine(spec_l01Figure.calls (Int.tmod x1_1 10) t1 _ A1.out).mono ?_);rintro e w' ⟨rfl,⟨nd,rfl⟩⟩;refine⟨_,rfl,?_⟩)|((with_reducible refine gate_dst (N:=20) rfl ?_);refine Kd.R_lit (Kd.int .u8) _ 5 ?hg (N:=20) ?hd (xs:=([t1]:List Int)) (inner:= [.int .u8 t1]) (ok:=fun _=>True) (okp:=fun _=>True) ?hr ?hp (fun _ hk=>hk) trivial (Below.refl _ _) (Nat.le_refl _) (by simp) ?_;(case hd=>rfl);(case hg=>rfl);(case hr=>exact Fix.hr);(case hp=>exact(Reps.one (show Kd.M (Kd.int .u8) _ _ _ t1 [.int .u8 t1] from rfl) (Reps.none _ _)));intro v1 w1 ho1 hb hg_ hnew_;clear hg_ hnew_;(first|rw[←Ny1.out]at ho1|(simp only[Int.reduceToNat]at ho1;rw[←Ny1.out]at ho1));have HO1:=lR ho1;replace HB:=eB hb;clear hb ho1;have hcv1:=own_string (P:=prog) underlying22 underlying5 underlying9 (Kd.own_of_R HO1.out)))
    go_roundg k1
    case measure=>have:=HK1.out;omega
    case rel=>exact⟨(wrap64 (Int.tdiv x1_1 10)),((strOfNums y1)++x2_1),rS,rS,H',⟨by have:=HK1.out;omega⟩,⟨uB⟩⟩
   rw[if_pos c3]at H
   replace c3:=decide_eq_true c3
   obtain⟨t1,A1,H⟩:=bnd H
   obtain⟨y1,hy1⟩:∃y_:List Int,y_=(([t1]:List Int)):=⟨_,rfl⟩
   replace H:(if(strOfNums y1).size+x2_1.size≤9223372036854775807 then(spec_FormatInt.l0 k1 (wrap64 (Int.tdiv x1_1 10)) (decide (a0<0)) ((strOfNums y1)++x2_1)) else(none))=some r:=gy hy1 H
   have Ny1:=C hy1
   clear hy1
   obtain⟨c4,H⟩:=np H
   have c4b0:=eq_true c4
   have c4b1:decide ((strOfNums y1).size+x2_1.size≤9223372036854775807)=true:=decide_eq_true c4
   try have c4b2:(9223372036854775807<(strOfNums y1).size+x2_1.size)=False:=eq_false (Nat.not_lt.2 c4)
   try(have h1_:=c4;simp only[ByteArray.size_append,Ito.bsz,List.size_toArray,List.length_cons,List.length_nil]at h1_;have c4b3:=eq_false (Nat.not_lt.2 h1_);clear h1_)
   have H':=C H
   clear H
   go_wp2_with (first|((with_reducible refine F (f:=66) rfl ?_);refine gl 66 (some 19) func66 #[V I (wrap64 (-(Int.tmod x1_1 10)))] ?_;(with_reducible refine(spec_l01Figure.calls (wrap64 (-(Int.tmod x1_1 10))) t1 _ A1.out).mono ?_);rintro e w' ⟨rfl,⟨nd,rfl⟩⟩;refine⟨_,rfl,?_⟩)|((with_reducible refine gate_dst (N:=20) rfl ?_);refine Kd.R_lit (Kd.int .u8) _ 5 ?hg (N:=20) ?hd (xs:=([t1]:List Int)) (inner:= [.int .u8 t1]) (ok:=fun _=>True) (okp:=fun _=>True) ?hr ?hp (fun _ hk=>hk) trivial (Below.refl _ _) (Nat.le_refl _) (by simp) ?_;(case hd=>rfl);(case hg=>rfl);(case hr=>exact Fix.hr);(case hp=>exact(Reps.one (show Kd.M (Kd.int .u8) _ _ _ t1 [.int .u8 t1] from rfl) (Reps.none _ _)));intro v1 w1 ho1 hb hg_ hnew_;clear hg_ hnew_;(first|rw[←Ny1.out]at ho1|(simp only[Int.reduceToNat]at ho1;rw[←Ny1.out]at ho1));have HO1:=lR ho1;replace HB:=eB hb;clear hb ho1;have hcv1:=own_string (P:=prog) underlying22 underlying5 underlying9 (Kd.own_of_R HO1.out)))
   go_roundg k1
   case measure=>have:=HK1.out;omega
   case rel=>exact⟨(wrap64 (Int.tdiv x1_1 10)),((strOfNums y1)++x2_1),rS,rS,H',⟨by have:=HK1.out;omega⟩,⟨uB⟩⟩
def spec_ParseUint.l0:Nat→ByteArray→Int→Int→Option (Int×Bool)
  |0,_,_,_=>none
  |k+1,x0,x4,x5=>if x5<(x0.size:Int) then(if 0≤x5 then(if(bt x0 x5)<48 then(some (0,false)) else(if(bt x0 x5) >57 then(some (0,false)) else(spec_ParseUint.l0 k x0 (wrap64 ((wrap64 ((wrap64 (10 * x4))+(wrap64 (bt x0 x5)))) - 48)) (wrap64 (x5+1))))) else(none)) else(if x4 >1000000000 then(some (0,false)) else((spec_FormatInt.f k x4).bind fun t558=>(if t558.toList=x0.toList then(some (x4,true)) else(some (0,false)))))
def spec_ParseUint.f (k:Nat) (a0:ByteArray):Option (Int×Bool):=if(a0.size:Int) >10 then(some (0,false)) else(spec_ParseUint.l0 k a0 0 0)
theorem spec_ParseUint.W1 {p:Prop} (h:p:=by
 go_wp2
 go_ret2
 exact⟨rE,uB⟩):p:=h
theorem spec_ParseUint.W2 {p:Prop} (h:p:=by
 go_wp2_with (first|(go_at_call 33;(with_reducible refine(spec_FormatInt.calls k1 x1_1 t1 _ A1.out).mono ?_);rintro e w1 ⟨rfl,hb⟩;replace HB:=eB hb;clear hb))
 go_ret2
 exact⟨rE,uB⟩):p:=h
theorem spec_ParseUint.calls (k:Nat) (a0:ByteArray) (r1:Int) (r2:Bool) (w:World) (h:spec_ParseUint.f k a0=some (r1,r2)):
 Calls prog 61 #[.string a0] w fun e w'=>e=.returned (.tuple #[V I r1,O r2])∧Below w.heap.size w w':=by
 have HB:=C (Below.refl w.heap.size w)
 have H:=h
 unfold spec_ParseUint.f at H
 clear h
 by_cases c1:(a0.size:Int) >10
 ·rw[if_pos c1]at H
  have c1b0:decide (10<(a0.size:Int))=true:=decide_eq_true c1
  have c1b1:decide (10<a0.size)=true:=decide_eq_true (by omega)
  clear c1
  simp only[Option.some.injEq,Prod.mk.injEq]at H
  obtain⟨rfl,rfl⟩:=H
  go_enter func61,ntmps61
  go_wp2
  go_ret2
  exact⟨rE,uB⟩
 rw[if_neg c1]at H
 have c1b0:decide (10<(a0.size:Int))=false:=decide_eq_false c1
 have c1b1:decide (10<a0.size)=false:=decide_eq_false (by omega)
 clear c1
 have H':=C H
 clear H
 go_enter func61,ntmps61
 go_wp2
 go_loopg [4,5] k (fun kq v4 v5 w'=>∃(x1_1:Int) (x2_1:Int),v4=V I x1_1∧v5=V I x2_1∧D (spec_ParseUint.l0 kq a0 x1_1 x2_1=some (r1,r2))∧D (kq≤k)∧D (Below w.heap.size w w'))
 case atStart=>exact⟨(0),(0),rS,rS,H',⟨Nat.le_refl _⟩,⟨uB⟩⟩
 case round=>
  clear H'
  obtain⟨x1_1,x2_1,rfl,rfl,HA,HK1,HB⟩:=hrel
  cases gk with
  |zero=>exact absurd HA.out (by simp[spec_ParseUint.l0])
  |succ k1=>
   have H:=HA.out
   clear HA
   simp only[spec_ParseUint.l0]at H
   by_cases c2:x2_1<(a0.size:Int)
   rotate_left
   ·rw[if_neg c2]at H
    replace c2:=decide_eq_false c2
    by_cases c3:x1_1 >1000000000
    ·rw[if_pos c3]at H
     replace c3:=decide_eq_true c3
     simp only[Option.some.injEq,Prod.mk.injEq]at H
     obtain⟨rfl,rfl⟩:=H
     exact spec_ParseUint.W1
    rw[if_neg c3]at H
    replace c3:=decide_eq_false c3
    obtain⟨t1,A1,H⟩:=bnd H
    by_cases c4:t1.toList=a0.toList
    rotate_left
    ·rw[if_neg c4]at H
     have c4b0:(t1.toList==a0.toList)=false:=beq_eq_false_iff_ne.mpr c4
     have c4b1:(t1.toList !=a0.toList)=true:=bne_iff_ne.mpr c4
     simp only[Option.some.injEq,Prod.mk.injEq]at H
     obtain⟨rfl,rfl⟩:=H
     exact spec_ParseUint.W2
    rw[if_pos c4]at H
    have c4b0:(t1.toList==a0.toList)=true:=beq_iff_eq.mpr c4
    have c4b1:(t1.toList !=a0.toList)=false:=bne_eq_false_iff_eq.mpr c4
    clear c4
    simp only[Option.some.injEq,Prod.mk.injEq]at H
    obtain⟨rfl,rfl⟩:=H
    exact spec_ParseUint.W2
   rw[if_pos c2]at H
   replace c2:=decide_eq_true c2
   obtain⟨c3,H⟩:=np H
   replace c3:=decide_eq_true c3
   by_cases c4:(bt a0 x2_1)<48
   ·rw[if_pos c4]at H
    replace c4:=decide_eq_true c4
    simp only[Option.some.injEq,Prod.mk.injEq]at H
    obtain⟨rfl,rfl⟩:=H
    have p1:0≤(x2_1:Int):=oT
    have q1:x2_1<(a0.size:Int):=oT
    have hx1:=bt_at a0 x2_1
    replace p1:=eq_true p1
    replace q1:=eq_true q1
    exact spec_ParseUint.W1
   rw[if_neg c4]at H
   replace c4:=decide_eq_false c4
   by_cases c5:(bt a0 x2_1) >57
   ·rw[if_pos c5]at H
    replace c5:=decide_eq_true c5
    simp only[Option.some.injEq,Prod.mk.injEq]at H
    obtain⟨rfl,rfl⟩:=H
    have p1:0≤(x2_1:Int):=oT
    have q1:x2_1<(a0.size:Int):=oT
    have hx1:=bt_at a0 x2_1
    replace p1:=eq_true p1
    replace q1:=eq_true q1
    have p2:0≤(x2_1:Int):=oT
    have q2:x2_1<(a0.size:Int):=oT
    have hx2:=bt_at a0 x2_1
    replace p2:=eq_true p2
    replace q2:=eq_true q2
    exact spec_ParseUint.W1
   rw[if_neg c5]at H
   replace c5:=decide_eq_false c5
   have H':=C H
   clear H
   have p1:0≤(x2_1:Int):=oT
   have q1:x2_1<(a0.size:Int):=oT
   have hx1:=bt_at a0 x2_1
   replace p1:=eq_true p1
   replace q1:=eq_true q1
   have p2:0≤(x2_1:Int):=oT
   have q2:x2_1<(a0.size:Int):=oT
   have hx2:=bt_at a0 x2_1
   replace p2:=eq_true p2
   replace q2:=eq_true q2
   have p3:0≤(x2_1:Int):=oT
   have q3:x2_1<(a0.size:Int):=oT
   have hx3:=bt_at a0 x2_1
   replace p3:=eq_true p3
   replace q3:=eq_true q3
   go_wp2
   go_roundg k1
   case measure=>have:=HK1.out;omega
   case rel=>exact⟨(wrap64 ((wrap64 ((wrap64 (10 * x1_1))+(wrap64 (bt a0 x2_1)))) - 48)),(wrap64 (x2_1+1)),rS,rS,H',⟨by have:=HK1.out;omega⟩,⟨uB⟩⟩
def spec_JobOk.f (a0_0:Int) (a0_1:Int) (a0_2:Int) (a0_3:Bool) (a0_4:Int) (a0_5:Bool):Option (Bool):=(spec_l01In.f a0_0 1 9999).bind fun t560=>(if t560=true then((spec_l01In.f a0_1 1 64).bind fun t561=>(if t561=true then((spec_l01In.f a0_2 1 20).bind fun t562=>(if t562=true then((spec_l01In.f a0_4 0 9).bind fun t563=>(some t563)) else(some false))) else(some false))) else(some false))
theorem spec_JobOk.W1 {p:Prop} (h:p:=by
 go_enter func85,ntmps85
 go_wp2_with (first|((with_reducible refine gate_dst (N:=1) rfl ?_);refine Fix.be 1 #[V I a0_0,V I a0_1,V I a0_2,O a0_3,V I a0_4,O a0_5] 26 ?_;intro gb1 hg w1 BK1 hb;have GW1:=gE (w:=w) hg;replace HB:=eB hb;clear hb hg;obtain⟨_,_,_,_,_,_,_,_,_,_,_,_⟩:=d6 BK1.out)|((with_reducible refine F (f:=60) rfl ?_);refine gl 60 (some 5) func60 #[V I a0_0,V I 1,V I 9999] ?_;(with_reducible refine(spec_l01In.calls a0_0 1 9999 true _ A1.out).mono ?_);rintro e w' ⟨rfl,⟨nd,rfl⟩⟩;refine⟨_,rfl,?_⟩)|(go_at_call 60;(with_reducible refine(spec_l01In.calls a0_1 1 64 true _ A2.out).mono ?_);rintro e w' ⟨rfl,⟨nd,rfl⟩⟩)|(go_at_call 60;(with_reducible refine(spec_l01In.calls a0_2 1 20 true _ A3.out).mono ?_);rintro e w' ⟨rfl,⟨nd,rfl⟩⟩)|(go_at_call 60;(with_reducible refine(spec_l01In.calls a0_4 0 9 t4 _ A4.out).mono ?_);rintro e w' ⟨rfl,⟨nd,rfl⟩⟩)|(go_at_call 60;(with_reducible refine(spec_l01In.calls a0_2 1 20 false _ A3.out).mono ?_);rintro e w' ⟨rfl,⟨nd,rfl⟩⟩))
 go_ret
 exact⟨rE,uB⟩):p:=h
theorem spec_JobOk.calls (a0_0:Int) (a0_1:Int) (a0_2:Int) (a0_3:Bool) (a0_4:Int) (a0_5:Bool) (r:Bool) (w:World) (h:spec_JobOk.f a0_0 a0_1 a0_2 a0_3 a0_4 a0_5=some r):
 Calls prog 85 #[G #[V I a0_0,V I a0_1,V I a0_2,O a0_3,V I a0_4,O a0_5]] w fun e w'=>e=.returned (O r)∧Below w.heap.size w w':=by
 have hu1:=underlying26
 have HB:=C (Below.refl w.heap.size w)
 have H:=h
 unfold spec_JobOk.f at H
 clear h
 obtain⟨t1,A1,H⟩:=bnd H
 by_cases c1:t1=true
 rotate_left
 ·obtain rfl:=nt c1
  replace H:=nf H
  obtain rfl:=si H
  go_enter func85,ntmps85
  go_wp2_with (first|((with_reducible refine gate_dst (N:=1) rfl ?_);refine Fix.be 1 #[V I a0_0,V I a0_1,V I a0_2,O a0_3,V I a0_4,O a0_5] 26 ?_;intro gb1 hg w1 BK1 hb;have GW1:=gE (w:=w) hg;have GE1:=GW1;replace HB:=eB hb;clear hb hg;obtain⟨_,_,_,_,_,_,_,_,_,_,_,_⟩:=d6 BK1.out)|((with_reducible refine F (f:=60) rfl ?_);refine gl 60 (some 5) func60 #[V I a0_0,V I 1,V I 9999] ?_;(with_reducible refine(spec_l01In.calls a0_0 1 9999 false _ A1.out).mono ?_);rintro e w' ⟨rfl,⟨nd,rfl⟩⟩;refine⟨_,rfl,?_⟩))
  go_ret
  exact⟨rE,uB⟩
 subst c1
 rw[if_pos rfl]at H
 obtain⟨t2,A2,H⟩:=bnd H
 by_cases c2:t2=true
 ·subst c2
  rw[if_pos rfl]at H
  obtain⟨t3,A3,H⟩:=bnd H
  by_cases c3:t3=true
  rotate_left
  ·obtain rfl:=nt c3
   replace H:=nf H
   obtain rfl:=si H
   exact spec_JobOk.W1
  subst c3
  rw[if_pos rfl]at H
  obtain⟨t4,A4,H⟩:=bnd H
  obtain rfl:=si H
  exact spec_JobOk.W1
 obtain rfl:=nt c2
 replace H:=nf H
 obtain rfl:=si H
 go_enter func85,ntmps85
 go_wp2_with (first|((with_reducible refine gate_dst (N:=1) rfl ?_);refine Fix.be 1 #[V I a0_0,V I a0_1,V I a0_2,O a0_3,V I a0_4,O a0_5] 26 ?_;intro gb1 hg w1 BK1 hb;have GW1:=gE (w:=w) hg;have GE1:=GW1;replace HB:=eB hb;clear hb hg;obtain⟨_,_,_,_,_,_,_,_,_,_,_,_⟩:=d6 BK1.out)|((with_reducible refine F (f:=60) rfl ?_);refine gl 60 (some 5) func60 #[V I a0_0,V I 1,V I 9999] ?_;(with_reducible refine(spec_l01In.calls a0_0 1 9999 true _ A1.out).mono ?_);rintro e w' ⟨rfl,⟨nd,rfl⟩⟩;refine⟨_,rfl,?_⟩)|(go_at_call 60;(with_reducible refine(spec_l01In.calls a0_1 1 64 false _ A2.out).mono ?_);rintro e w' ⟨rfl,⟨nd,rfl⟩⟩))
 go_ret
 exact⟨rE,uB⟩
def spec_l39Job.f (a0_0:Int) (a0_1:Int) (a0_2:Int) (a0_3:Int):Option (Int×Int×Int×Bool×Int×Bool):=some (a0_1,a0_2,1,false,a0_3,(a0_3==9))
theorem spec_l39Job.calls (a0_0:Int) (a0_1:Int) (a0_2:Int) (a0_3:Int) (r1:Int) (r2:Int) (r3:Int) (r4:Bool) (r5:Int) (r6:Bool) (w:World) (h:spec_l39Job.f a0_0 a0_1 a0_2 a0_3=some (r1,r2,r3,r4,r5,r6)):
 Calls prog 88 #[G #[V I a0_0,V I a0_1,V I a0_2,V I a0_3]] w fun e w'=>e=.returned (G #[V I r1,V I r2,V I r3,O r4,V I r5,O r6])∧Below w.heap.size w w':=by
 have hu1:=underlying55
 have hu2:=underlying26
 have HB:=C (Below.refl w.heap.size w)
 have H:=h
 unfold spec_l39Job.f at H
 clear h
 simp only[Option.some.injEq,Prod.mk.injEq]at H
 obtain⟨rfl,rfl,rfl,rfl,rfl,rfl⟩:=H
 go_enter func88,ntmps88
 go_wp2_with (first|((with_reducible refine gate_dst (N:=1) rfl ?_);refine Fix.be 1 #[V I a0_0,V I a0_1,V I a0_2,V I a0_3] 55 ?_;intro gb1 hg w1 BK1 hb;have GW1:=gE (w:=w) hg;replace HB:=eB hb;clear hb hg)|((with_reducible refine gate_dst (N:=2) rfl ?_);refine Fix.be 2 #[V I 0,V I 0,V I 0,O false,V I 0,O false] 26 ?_;intro gb2 hg w2 BK2 hb;have GW2:=gE (w:=w) hg;have n0:=nL hg BK1;have n1:=nG hg BK1;replace BK1:=eK BK1 hb;replace HB:=eB hb;clear hb hg;have:=n0.out;have:=n1.out;obtain⟨_,_,_,_,_,_,_,_⟩:=d4 BK1.out;obtain⟨_,_,_,_,_,_,_,_,_,_,_,_⟩:=d6 BK2.out))
 refine bodyPost_ret (results_cell_row rfl _ _ gb2 26 #[V I a0_1,V I a0_2,V I 1,O false,V I a0_3,O (a0_3==9)] (0,0) _ rfl (bK BK2.out) underlying26 rfl (by kernel_rfl)) rfl ?_
 exact⟨rE,uB⟩
def spec_ActOk.j0:Nat→Int→Bool→Int→Int→Int→Int→Option (Bool)
  |0,_,_,_,_,_,_=>none
  |k+1,x4,x25,x567000,x567001,x567002,x567003=>if x25=true then(if x567001=0 then(if x567002=0 then(some (x567003==0)) else(some false)) else(some false)) else(if x4=5 then((spec_l01In.f x567001 1 9999).bind fun t575=>(if t575=true then(if x567002=0 then(some (x567003==0)) else(some false)) else(some false))) else(some false))
def spec_ActOk.f (k:Nat) (a0_0:Int) (a0_1:Int) (a0_2:Int) (a0_3:Int):Option (Bool):=if a0_0=1 then((spec_l39Job.f a0_0 a0_1 a0_2 a0_3).bind fun bt567=>((spec_JobOk.f bt567.1 bt567.2.1 bt567.2.2.1 bt567.2.2.2.1 bt567.2.2.2.2.1 bt567.2.2.2.2.2).bind fun t573=>(some t573))) else(if a0_0=3 then((spec_l01In.f a0_1 1 5).bind fun t574=>(if t574=true then(if a0_2=0 then(some (a0_3==0)) else(some false)) else(some false))) else(if a0_0=2 then(spec_ActOk.j0 k a0_0 (a0_0==2) a0_0 a0_1 a0_2 a0_3) else(spec_ActOk.j0 k a0_0 (a0_0==4) a0_0 a0_1 a0_2 a0_3)))
theorem spec_ActOk.W1 {p:Prop} (h:p:=by
 go_enter func80,ntmps80
 go_wp2_with (first|((with_reducible refine gate_dst (N:=1) rfl ?_);refine Fix.be 1 #[V I a0_0,V I a0_1,V I a0_2,V I a0_3] 55 ?_;intro gb1 hg w1 BK1 hb;have GW1:=gE (w:=w) hg;replace HB:=eB hb;clear hb hg;obtain⟨_,_,_,_,_,_,_,_⟩:=d4 BK1.out)|((with_reducible refine F (f:=88) rfl ?_);refine gl 88 (some 8) func88 #[G #[V I a0_0,V I a0_1,V I a0_2,V I a0_3]] ?_;(with_reducible refine(spec_l39Job.calls a0_0 a0_1 a0_2 a0_3 t1 t2 t3 t4 t5 t6 _ A1.out).mono ?_);rintro e w2 ⟨rfl,hb⟩;refine⟨_,rfl,?_⟩;replace BK1:=eK BK1 hb;replace HB:=eB hb;clear hb)|((with_reducible refine F (f:=85) rfl ?_);refine gl 85 (some 9) func85 #[G #[V I t1,V I t2,V I t3,O t4,V I t5,O t6]] ?_;(with_reducible refine(spec_JobOk.calls t1 t2 t3 t4 t5 t6 t7 _ A2.out).mono ?_);rintro e w3 ⟨rfl,hb⟩;refine⟨_,rfl,?_⟩;replace BK1:=eK BK1 hb;replace HB:=eB hb;clear hb)|((with_reducible refine F (f:=60) rfl ?_);refine gl 60 (some 14) func60 #[V I a0_1,V I 1,V I 5] ?_;(with_reducible refine(spec_l01In.calls a0_1 1 5 true _ A1.out).mono ?_);rintro e w' ⟨rfl,⟨nd,rfl⟩⟩;refine⟨_,rfl,?_⟩))
 go_ret
 exact⟨rE,uB⟩):p:=h
theorem spec_ActOk.W2 {p:Prop} (h:p:=by
 go_wp2
 go_meet
 first
  |(case rel=>exact⟨_,((a0_0==2)),rS,H',⟨oL⟩,⟨bK BK1.out⟩,⟨uB⟩⟩)
  |(case rel=>exact⟨_,((a0_0==4)),rS,H',⟨oL⟩,⟨bK BK1.out⟩,⟨uB⟩⟩)):p:=h
theorem spec_ActOk.W3 {p:Prop} (h:p:=by
 go_wp2
 go_ret
 exact⟨rE,uB⟩):p:=h
theorem spec_ActOk.W4 {p:Prop} (h:p:=by
 go_wp2_with (first|((with_reducible refine F (f:=60) rfl ?_);refine gl 60 (some 45) func60 #[V I a0_1,V I 1,V I 9999] ?_;(with_reducible refine(spec_l01In.calls a0_1 1 9999 true _ A1.out).mono ?_);rintro e w' ⟨rfl,⟨nd,rfl⟩⟩;refine⟨_,rfl,?_⟩))
 go_ret
 exact⟨rE,uB⟩):p:=h
theorem spec_ActOk.calls (k:Nat) (a0_0:Int) (a0_1:Int) (a0_2:Int) (a0_3:Int) (r:Bool) (w:World) (h:spec_ActOk.f k a0_0 a0_1 a0_2 a0_3=some r):
 Calls prog 80 #[G #[V I a0_0,V I a0_1,V I a0_2,V I a0_3]] w fun e w'=>e=.returned (O r)∧Below w.heap.size w w':=by
 have hu1:=underlying55
 have HB:=C (Below.refl w.heap.size w)
 have H:=h
 unfold spec_ActOk.f at H
 clear h
 by_cases c1:a0_0=1
 ·rw[if_pos c1]at H
  have c1b0:(a0_0==1)=true:=beq_iff_eq.mpr c1
  have c1b1:(a0_0 !=1)=false:=bne_eq_false_iff_eq.mpr c1
  clear c1
  obtain⟨⟨t1,t2,t3,t4,t5,t6⟩,A1,H⟩:=bnd H
  dsimp only at H
  obtain⟨t7,A2,H⟩:=bnd H
  obtain rfl:=si H
  exact spec_ActOk.W1
 rw[if_neg c1]at H
 have c1b0:(a0_0==1)=false:=beq_eq_false_iff_ne.mpr c1
 have c1b1:(a0_0 !=1)=true:=bne_iff_ne.mpr c1
 by_cases c2:a0_0=3
 ·rw[if_pos c2]at H
  have c2b0:(a0_0==3)=true:=beq_iff_eq.mpr c2
  have c2b1:(a0_0 !=3)=false:=bne_eq_false_iff_eq.mpr c2
  clear c2
  obtain⟨t1,A1,H⟩:=bnd H
  by_cases c3:t1=true
  ·subst c3
   rw[if_pos rfl]at H
   by_cases c4:a0_2=0
   rotate_left
   ·rw[if_neg c4]at H
    have c4b0:(a0_2==0)=false:=beq_eq_false_iff_ne.mpr c4
    have c4b1:(a0_2 !=0)=true:=bne_iff_ne.mpr c4
    obtain rfl:=si H
    exact spec_ActOk.W1
   rw[if_pos c4]at H
   have c4b0:(a0_2==0)=true:=beq_iff_eq.mpr c4
   have c4b1:(a0_2 !=0)=false:=bne_eq_false_iff_eq.mpr c4
   clear c4
   obtain rfl:=si H
   exact spec_ActOk.W1
  obtain rfl:=nt c3
  replace H:=nf H
  obtain rfl:=si H
  go_enter func80,ntmps80
  go_wp2_with (first|((with_reducible refine gate_dst (N:=1) rfl ?_);refine Fix.be 1 #[V I a0_0,V I a0_1,V I a0_2,V I a0_3] 55 ?_;intro gb1 hg w1 BK1 hb;have GW1:=gE (w:=w) hg;have GE1:=GW1;replace HB:=eB hb;clear hb hg;obtain⟨_,_,_,_,_,_,_,_⟩:=d4 BK1.out)|((with_reducible refine F (f:=60) rfl ?_);refine gl 60 (some 14) func60 #[V I a0_1,V I 1,V I 5] ?_;(with_reducible refine(spec_l01In.calls a0_1 1 5 false _ A1.out).mono ?_);rintro e w' ⟨rfl,⟨nd,rfl⟩⟩;refine⟨_,rfl,?_⟩))
  go_ret
  exact⟨rE,uB⟩
 rw[if_neg c2]at H
 have c2b0:(a0_0==3)=false:=beq_eq_false_iff_ne.mpr c2
 have c2b1:(a0_0 !=3)=true:=bne_iff_ne.mpr c2
 have HC1:=C H
 clear H
 go_enter func80,ntmps80
 go_upto_if 25 with(first|((with_reducible refine gate_dst (N:=1) rfl ?_);refine Fix.be 1 #[V I a0_0,V I a0_1,V I a0_2,V I a0_3] 55 ?_;intro gb1 hg w1 BK1 hb;have GW1:=gE (w:=w) hg;have GE1:=GW1;replace HB:=eB hb;clear hb hg;obtain⟨_,_,_,_,_,_,_,_⟩:=d4 BK1.out))
 (try simp only[Act.put,List.setIfInBounds_toArray,List.set_cons_zero,List.set_cons_succ])
 go_cut [25] (fun v25 wc=>∃(kq:Nat) (x1_18:Bool),v25=O x1_18∧D (spec_ActOk.j0 kq a0_0 x1_18 a0_0 a0_1 a0_2 a0_3=some r)∧D (kq≤k)∧D (wc.heap[gb1]? =some (.cells #[V I a0_0,V I a0_1,V I a0_2,V I a0_3] 55 (0,0)))∧D (Below w.heap.size w wc))
 case first=>
  have H:=HC1.out
  clear HC1
  by_cases c3:a0_0=2
  rotate_left
  ·rw[if_neg c3]at H
   have c3b0:(a0_0==2)=false:=beq_eq_false_iff_ne.mpr c3
   have c3b1:(a0_0 !=2)=true:=bne_iff_ne.mpr c3
   (first|rw[c3b0]|(simp only[i64_w,i32_w];rw[c3b0])|skip)
   have H':=C H
   clear H
   exact spec_ActOk.W2
  rw[if_pos c3]at H
  have c3b0:(a0_0==2)=true:=beq_iff_eq.mpr c3
  have c3b1:(a0_0 !=2)=false:=bne_eq_false_iff_eq.mpr c3
  clear c3
  (first|rw[c3b0]|(simp only[i64_w,i32_w];rw[c3b0])|skip)
  have H':=C H
  clear H
  exact spec_ActOk.W2
 case rest=>
  clear HC1
  obtain⟨kq,x1_18,rfl,HA,HJ1,BK1,HB⟩:=hcut
  cases kq with
  |zero=>exact absurd HA.out (by simp[spec_ActOk.j0])
  |succ kj18=>
   have H:=HA.out
   clear HA
   simp only[spec_ActOk.j0]at H
   by_cases c3:x1_18=true
   ·subst c3
    rw[if_pos rfl]at H
    by_cases c4:a0_1=0
    rotate_left
    ·rw[if_neg c4]at H
     have c4b0:(a0_1==0)=false:=beq_eq_false_iff_ne.mpr c4
     have c4b1:(a0_1 !=0)=true:=bne_iff_ne.mpr c4
     obtain rfl:=si H
     obtain⟨_,_,_,_,_,_,_,_⟩:=d4 BK1.out
     exact spec_ActOk.W3
    rw[if_pos c4]at H
    have c4b0:(a0_1==0)=true:=beq_iff_eq.mpr c4
    have c4b1:(a0_1 !=0)=false:=bne_eq_false_iff_eq.mpr c4
    clear c4
    by_cases c5:a0_2=0
    rotate_left
    ·rw[if_neg c5]at H
     have c5b0:(a0_2==0)=false:=beq_eq_false_iff_ne.mpr c5
     have c5b1:(a0_2 !=0)=true:=bne_iff_ne.mpr c5
     obtain rfl:=si H
     obtain⟨_,_,_,_,_,_,_,_⟩:=d4 BK1.out
     exact spec_ActOk.W3
    rw[if_pos c5]at H
    have c5b0:(a0_2==0)=true:=beq_iff_eq.mpr c5
    have c5b1:(a0_2 !=0)=false:=bne_eq_false_iff_eq.mpr c5
    clear c5
    obtain rfl:=si H
    obtain⟨_,_,_,_,_,_,_,_⟩:=d4 BK1.out
    exact spec_ActOk.W3
   obtain rfl:=nt c3
   replace H:=nf H
   by_cases c4:a0_0=5
   rotate_left
   ·rw[if_neg c4]at H
    have c4b0:(a0_0==5)=false:=beq_eq_false_iff_ne.mpr c4
    have c4b1:(a0_0 !=5)=true:=bne_iff_ne.mpr c4
    obtain rfl:=si H
    exact spec_ActOk.W3
   rw[if_pos c4]at H
   have c4b0:(a0_0==5)=true:=beq_iff_eq.mpr c4
   have c4b1:(a0_0 !=5)=false:=bne_eq_false_iff_eq.mpr c4
   clear c4
   obtain⟨t1,A1,H⟩:=bnd H
   by_cases c5:t1=true
   rotate_left
   ·obtain rfl:=nt c5
    replace H:=nf H
    obtain rfl:=si H
    obtain⟨_,_,_,_,_,_,_,_⟩:=d4 BK1.out
    go_wp2_with (first|((with_reducible refine F (f:=60) rfl ?_);refine gl 60 (some 45) func60 #[V I a0_1,V I 1,V I 9999] ?_;(with_reducible refine(spec_l01In.calls a0_1 1 9999 false _ A1.out).mono ?_);rintro e w' ⟨rfl,⟨nd,rfl⟩⟩;refine⟨_,rfl,?_⟩))
    go_ret
    exact⟨rE,uB⟩
   subst c5
   rw[if_pos rfl]at H
   by_cases c6:a0_2=0
   rotate_left
   ·rw[if_neg c6]at H
    have c6b0:(a0_2==0)=false:=beq_eq_false_iff_ne.mpr c6
    have c6b1:(a0_2 !=0)=true:=bne_iff_ne.mpr c6
    obtain rfl:=si H
    obtain⟨_,_,_,_,_,_,_,_⟩:=d4 BK1.out
    exact spec_ActOk.W4
   rw[if_pos c6]at H
   have c6b0:(a0_2==0)=true:=beq_iff_eq.mpr c6
   have c6b1:(a0_2 !=0)=false:=bne_eq_false_iff_eq.mpr c6
   clear c6
   obtain rfl:=si H
   obtain⟨_,_,_,_,_,_,_,_⟩:=d4 BK1.out
   exact spec_ActOk.W4
def spec_FormatAct.f (k:Nat) (a0_0:Int) (a0_1:Int) (a0_2:Int) (a0_3:Int):Option (ByteArray×Bool):=(spec_ActOk.f k a0_0 a0_1 a0_2 a0_3).bind fun t577=>(if t577=true then((some (([(⟨#[]⟩:ByteArray),(⟨#[97,100,100]⟩:ByteArray),(⟨#[116,97,107,101]⟩:ByteArray),(⟨#[108,105,110,101]⟩:ByteArray),(⟨#[102,105,110,105,115,104]⟩:ByteArray),(⟨#[114,101,108,101,97,115,101]⟩:ByteArray)]:List ByteArray):List ByteArray)).bind fun y578=>(if 0≤a0_0 then(if a0_0<(y578.length:Int) then(if a0_0=1 then(if(rdOf ByteArray.empty y578 a0_0).size+1≤9223372036854775807 then((spec_FormatInt.f k a0_1).bind fun t582=>(if((rdOf ByteArray.empty y578 a0_0)++(⟨#[32]⟩:ByteArray)).size+t582.size≤9223372036854775807 then(if(((rdOf ByteArray.empty y578 a0_0)++(⟨#[32]⟩:ByteArray))++t582).size+1≤9223372036854775807 then((spec_FormatInt.f k a0_2).bind fun t583=>(if((((rdOf ByteArray.empty y578 a0_0)++(⟨#[32]⟩:ByteArray))++t582)++(⟨#[32]⟩:ByteArray)).size+t583.size≤9223372036854775807 then(if(((((rdOf ByteArray.empty y578 a0_0)++(⟨#[32]⟩:ByteArray))++t582)++(⟨#[32]⟩:ByteArray))++t583).size+1≤9223372036854775807 then((spec_FormatInt.f k a0_3).bind fun t584=>(if((((((rdOf ByteArray.empty y578 a0_0)++(⟨#[32]⟩:ByteArray))++t582)++(⟨#[32]⟩:ByteArray))++t583)++(⟨#[32]⟩:ByteArray)).size+t584.size≤9223372036854775807 then(some (((((((rdOf ByteArray.empty y578 a0_0)++(⟨#[32]⟩:ByteArray))++t582)++(⟨#[32]⟩:ByteArray))++t583)++(⟨#[32]⟩:ByteArray))++t584,true)) else(none))) else(none)) else(none))) else(none)) else(none))) else(none)) else(if a0_0=3 then(if(rdOf ByteArray.empty y578 a0_0).size+1≤9223372036854775807 then((spec_FormatInt.f k a0_1).bind fun t585=>(if((rdOf ByteArray.empty y578 a0_0)++(⟨#[32]⟩:ByteArray)).size+t585.size≤9223372036854775807 then(some (((rdOf ByteArray.empty y578 a0_0)++(⟨#[32]⟩:ByteArray))++t585,true)) else(none))) else(none)) else(if a0_0=5 then(if(rdOf ByteArray.empty y578 a0_0).size+1≤9223372036854775807 then((spec_FormatInt.f k a0_1).bind fun t586=>(if((rdOf ByteArray.empty y578 a0_0)++(⟨#[32]⟩:ByteArray)).size+t586.size≤9223372036854775807 then(some (((rdOf ByteArray.empty y578 a0_0)++(⟨#[32]⟩:ByteArray))++t586,true)) else(none))) else(none)) else(some (rdOf ByteArray.empty y578 a0_0,true))))) else(none)) else(none))) else(some ((⟨#[]⟩:ByteArray),false)))
def spec_FormatAct.T5:Bool×List (List Nat×List Nat):=(true,[([],[]),([0],[0]),([],[]),([2],[2]),([3],[3]),([1,4],[1,4]),([5],[5]),([],[]),([7],[7]),([8,4],[8]),([6,9],[6,9]),([10],[10]),([],[]),([12],[12]),([13,9],[13]),([11,14],[11,14]),([15,14,0,1,2,3,4,5,6,7,8,9,10,11,12,13,14,15],[15]),([16,0,1,2,3,4,5,6,7,8,9,10,11,12,13,14,15,16],[])])
def spec_FormatAct.B5:List Nat:= [0,1,0,4,12,31,63,0,128,412,1023,2047,0,4096,13212,32767,65535,131071]
theorem spec_FormatAct.tab5:rtab .any (opsOf Tryz.f62 5)=spec_FormatAct.T5:=by kernel_rfl
theorem spec_FormatAct.bits5:waitsOk spec_FormatAct.T5.2 spec_FormatAct.B5=true:=by kernel_rfl
theorem spec_FormatAct.W1 {p:Prop} (h:p:=by
 go_enter func62,ntmps62
 go_wp2_with (first|((with_reducible refine gate_dst (N:=1) rfl ?_);refine Fix.be 1 #[V I a0_0,V I a0_1,V I a0_2,V I a0_3] 55 ?_;intro gb1 hg w1 BK1 hb;have GW1:=gE (w:=w) hg;replace HB:=eB hb;clear hb hg;obtain⟨_,_,_,_,_,_,_,_⟩:=d4 BK1.out)|((with_reducible refine F (f:=80) rfl ?_);refine gl 80 (some 6) func80 #[G #[V I a0_0,V I a0_1,V I a0_2,V I a0_3]] ?_;(with_reducible refine(spec_ActOk.calls k a0_0 a0_1 a0_2 a0_3 true _ A1.out).mono ?_);rintro e w2 ⟨rfl,hb⟩;refine⟨_,rfl,?_⟩;replace BK1:=eK BK1 hb;replace HB:=eB hb;clear hb)|((with_reducible refine gate_dst (N:=8) rfl ?_);refine Kd.R_lit Kd.string _ 9 ?hg (N:=8) ?hd (xs:=([(⟨#[]⟩:ByteArray),(⟨#[97,100,100]⟩:ByteArray),(⟨#[116,97,107,101]⟩:ByteArray),(⟨#[108,105,110,101]⟩:ByteArray),(⟨#[102,105,110,105,115,104]⟩:ByteArray),(⟨#[114,101,108,101,97,115,101]⟩:ByteArray)]:List ByteArray)) (inner:= [.string (⟨#[]⟩:ByteArray),.string (⟨#[97,100,100]⟩:ByteArray),.string (⟨#[116,97,107,101]⟩:ByteArray),.string (⟨#[108,105,110,101]⟩:ByteArray),.string (⟨#[102,105,110,105,115,104]⟩:ByteArray),.string (⟨#[114,101,108,101,97,115,101]⟩:ByteArray)]) (ok:=fun _=>True) (okp:=fun _=>True) ?hr ?hp (fun _ hk=>hk) trivial (Below.refl _ _) (Nat.le_refl _) (by simp) ?_;(case hd=>rfl);(case hg=>rfl);(case hr=>exact Fix.hr);(case hp=>exact(Reps.one (show Kd.M Kd.string _ _ _ (⟨#[]⟩:ByteArray) [.string (⟨#[]⟩:ByteArray)] from rfl) (Reps.one (show Kd.M Kd.string _ _ _ (⟨#[97,100,100]⟩:ByteArray) [.string (⟨#[97,100,100]⟩:ByteArray)] from rfl) (Reps.one (show Kd.M Kd.string _ _ _ (⟨#[116,97,107,101]⟩:ByteArray) [.string (⟨#[116,97,107,101]⟩:ByteArray)] from rfl) (Reps.one (show Kd.M Kd.string _ _ _ (⟨#[108,105,110,101]⟩:ByteArray) [.string (⟨#[108,105,110,101]⟩:ByteArray)] from rfl) (Reps.one (show Kd.M Kd.string _ _ _ (⟨#[102,105,110,105,115,104]⟩:ByteArray) [.string (⟨#[102,105,110,105,115,104]⟩:ByteArray)] from rfl) (Reps.one (show Kd.M Kd.string _ _ _ (⟨#[114,101,108,101,97,115,101]⟩:ByteArray) [.string (⟨#[114,101,108,101,97,115,101]⟩:ByteArray)] from rfl) (Reps.none _ _))))))));intro v1 w3 ho1 hb hg_ hnew_;clear hg_ hnew_;(first|rw[←Ny1.out]at ho1|(simp only[Int.reduceToNat]at ho1;rw[←Ny1.out]at ho1));have HO1:=lR ho1;replace BK1:=eK BK1 hb;replace HB:=eB hb;clear hb ho1;obtain⟨_,_,_,_,_,_,_,_⟩:=d4 BK1.out;obtain⟨Ao1,co1,rfl⟩:=U HO1.out;have p1:0≤(a0_0:Int):=oT;have q1:a0_0<(y1.length:Int):=oT;obtain⟨ad1,e1,hx1_0⟩:=Kd.at_string (Kd.R_reads' HO1.out).2.2 a0_0 p1 q1;cases e1;replace p1:=eq_true p1;replace q1:=eq_true q1)|((with_reducible refine F (f:=33) rfl ?_);refine gl 33 (some 44) func33 #[V I a0_1] ?_;(with_reducible refine(spec_FormatInt.calls k a0_1 t6 _ A2.out).mono ?_);rintro e w4 ⟨rfl,hb⟩;refine⟨_,rfl,?_⟩;replace HO1:=eR HO1 hb;replace BK1:=eK BK1 hb;replace HB:=eB hb;clear hb))
 go_ret2
 exact⟨rE,uB⟩):p:=h
theorem spec_FormatAct.calls (k:Nat) (a0_0:Int) (a0_1:Int) (a0_2:Int) (a0_3:Int) (r1:ByteArray) (r2:Bool) (w:World) (h:spec_FormatAct.f k a0_0 a0_1 a0_2 a0_3=some (r1,r2)):
 Calls prog 62 #[G #[V I a0_0,V I a0_1,V I a0_2,V I a0_3]] w fun e w'=>e=.returned (.tuple #[.string r1,O r2])∧Below w.heap.size w w':=by
 have hu1:=underlying55
 have HB:=C (Below.refl w.heap.size w)
 have H:=h
 unfold spec_FormatAct.f at H
 clear h
 obtain⟨t1,A1,H⟩:=bnd H
 by_cases c1:t1=true
 rotate_left
 ·obtain rfl:=nt c1
  replace H:=nf H
  simp only[Option.some.injEq,Prod.mk.injEq]at H
  obtain⟨rfl,rfl⟩:=H
  go_enter func62,ntmps62
  go_wp2_with (first|((with_reducible refine gate_dst (N:=1) rfl ?_);refine Fix.be 1 #[V I a0_0,V I a0_1,V I a0_2,V I a0_3] 55 ?_;intro gb1 hg w1 BK1 hb;have GW1:=gE (w:=w) hg;have GE1:=GW1;replace HB:=eB hb;clear hb hg;obtain⟨_,_,_,_,_,_,_,_⟩:=d4 BK1.out)|((with_reducible refine F (f:=80) rfl ?_);refine gl 80 (some 6) func80 #[G #[V I a0_0,V I a0_1,V I a0_2,V I a0_3]] ?_;(with_reducible refine(spec_ActOk.calls k a0_0 a0_1 a0_2 a0_3 false _ A1.out).mono ?_);rintro e w2 ⟨rfl,hb⟩;refine⟨_,rfl,?_⟩;replace BK1:=eK BK1 hb;replace HB:=eB hb;clear hb))
  go_ret2
  exact⟨rE,uB⟩
 subst c1
 rw[if_pos rfl]at H
 obtain⟨y1,hy1⟩:∃y_:List ByteArray,y_=(([(⟨#[]⟩:ByteArray),(⟨#[97,100,100]⟩:ByteArray),(⟨#[116,97,107,101]⟩:ByteArray),(⟨#[108,105,110,101]⟩:ByteArray),(⟨#[102,105,110,105,115,104]⟩:ByteArray),(⟨#[114,101,108,101,97,115,101]⟩:ByteArray)]:List ByteArray)):=⟨_,rfl⟩
 replace H:(if 0≤a0_0 then(if a0_0<(y1.length:Int) then(if a0_0=1 then(if(rdOf ByteArray.empty y1 a0_0).size+1≤9223372036854775807 then((spec_FormatInt.f k a0_1).bind fun t2=>(if((rdOf ByteArray.empty y1 a0_0)++(⟨#[32]⟩:ByteArray)).size+t2.size≤9223372036854775807 then(if(((rdOf ByteArray.empty y1 a0_0)++(⟨#[32]⟩:ByteArray))++t2).size+1≤9223372036854775807 then((spec_FormatInt.f k a0_2).bind fun t3=>(if((((rdOf ByteArray.empty y1 a0_0)++(⟨#[32]⟩:ByteArray))++t2)++(⟨#[32]⟩:ByteArray)).size+t3.size≤9223372036854775807 then(if(((((rdOf ByteArray.empty y1 a0_0)++(⟨#[32]⟩:ByteArray))++t2)++(⟨#[32]⟩:ByteArray))++t3).size+1≤9223372036854775807 then((spec_FormatInt.f k a0_3).bind fun t4=>(if((((((rdOf ByteArray.empty y1 a0_0)++(⟨#[32]⟩:ByteArray))++t2)++(⟨#[32]⟩:ByteArray))++t3)++(⟨#[32]⟩:ByteArray)).size+t4.size≤9223372036854775807 then(some (((((((rdOf ByteArray.empty y1 a0_0)++(⟨#[32]⟩:ByteArray))++t2)++(⟨#[32]⟩:ByteArray))++t3)++(⟨#[32]⟩:ByteArray))++t4,true)) else(none))) else(none)) else(none))) else(none)) else(none))) else(none)) else(if a0_0=3 then(if(rdOf ByteArray.empty y1 a0_0).size+1≤9223372036854775807 then((spec_FormatInt.f k a0_1).bind fun t5=>(if((rdOf ByteArray.empty y1 a0_0)++(⟨#[32]⟩:ByteArray)).size+t5.size≤9223372036854775807 then(some (((rdOf ByteArray.empty y1 a0_0)++(⟨#[32]⟩:ByteArray))++t5,true)) else(none))) else(none)) else(if a0_0=5 then(if(rdOf ByteArray.empty y1 a0_0).size+1≤9223372036854775807 then((spec_FormatInt.f k a0_1).bind fun t6=>(if((rdOf ByteArray.empty y1 a0_0)++(⟨#[32]⟩:ByteArray)).size+t6.size≤9223372036854775807 then(some (((rdOf ByteArray.empty y1 a0_0)++(⟨#[32]⟩:ByteArray))++t6,true)) else(none))) else(none)) else(some (rdOf ByteArray.empty y1 a0_0,true))))) else(none)) else(none))=some (r1,r2):=gy hy1 H
 have Ny1:=C hy1
 clear hy1
 obtain⟨c2,H⟩:=np H
 replace c2:=decide_eq_true c2
 obtain⟨c3,H⟩:=np H
 replace c3:=decide_eq_true c3
 by_cases c4:a0_0=1
 rotate_left
 ·rw[if_neg c4]at H
  have c4b0:(a0_0==1)=false:=beq_eq_false_iff_ne.mpr c4
  have c4b1:(a0_0 !=1)=true:=bne_iff_ne.mpr c4
  by_cases c5:a0_0=3
  rotate_left
  ·rw[if_neg c5]at H
   have c5b0:(a0_0==3)=false:=beq_eq_false_iff_ne.mpr c5
   have c5b1:(a0_0 !=3)=true:=bne_iff_ne.mpr c5
   by_cases c6:a0_0=5
   rotate_left
   ·rw[if_neg c6]at H
    have c6b0:(a0_0==5)=false:=beq_eq_false_iff_ne.mpr c6
    have c6b1:(a0_0 !=5)=true:=bne_iff_ne.mpr c6
    simp only[Option.some.injEq,Prod.mk.injEq]at H
    obtain⟨rfl,rfl⟩:=H
    exact spec_FormatAct.W1
   rw[if_pos c6]at H
   have c6b0:(a0_0==5)=true:=beq_iff_eq.mpr c6
   have c6b1:(a0_0 !=5)=false:=bne_eq_false_iff_eq.mpr c6
   clear c6
   obtain⟨c7,H⟩:=np H
   have c7b0:=eq_true c7
   have c7b1:decide ((rdOf ByteArray.empty y1 a0_0).size+1≤9223372036854775807)=true:=decide_eq_true c7
   try have c7b2:(9223372036854775807<(rdOf ByteArray.empty y1 a0_0).size+1)=False:=eq_false (Nat.not_lt.2 c7)
   try(have h1_:=c7;simp only[ByteArray.size_append,Ito.bsz,List.size_toArray,List.length_cons,List.length_nil]at h1_;have c7b3:=eq_false (Nat.not_lt.2 h1_);clear h1_)
   obtain⟨t6,A2,H⟩:=bnd H
   obtain⟨c8,H⟩:=np H
   have c8b0:=eq_true c8
   have c8b1:decide (((rdOf ByteArray.empty y1 a0_0)++(⟨#[32]⟩:ByteArray)).size+t6.size≤9223372036854775807)=true:=decide_eq_true c8
   try have c8b2:(9223372036854775807<((rdOf ByteArray.empty y1 a0_0)++(⟨#[32]⟩:ByteArray)).size+t6.size)=False:=eq_false (Nat.not_lt.2 c8)
   try(have h1_:=c8;simp only[ByteArray.size_append,Ito.bsz,List.size_toArray,List.length_cons,List.length_nil]at h1_;have c8b3:=eq_false (Nat.not_lt.2 h1_);clear h1_)
   simp only[Option.some.injEq,Prod.mk.injEq]at H
   obtain⟨rfl,rfl⟩:=H
   exact spec_FormatAct.W1
  rw[if_pos c5]at H
  have c5b0:(a0_0==3)=true:=beq_iff_eq.mpr c5
  have c5b1:(a0_0 !=3)=false:=bne_eq_false_iff_eq.mpr c5
  clear c5
  obtain⟨c6,H⟩:=np H
  have c6b0:=eq_true c6
  have c6b1:decide ((rdOf ByteArray.empty y1 a0_0).size+1≤9223372036854775807)=true:=decide_eq_true c6
  try have c6b2:(9223372036854775807<(rdOf ByteArray.empty y1 a0_0).size+1)=False:=eq_false (Nat.not_lt.2 c6)
  try(have h1_:=c6;simp only[ByteArray.size_append,Ito.bsz,List.size_toArray,List.length_cons,List.length_nil]at h1_;have c6b3:=eq_false (Nat.not_lt.2 h1_);clear h1_)
  obtain⟨t5,A2,H⟩:=bnd H
  obtain⟨c7,H⟩:=np H
  have c7b0:=eq_true c7
  have c7b1:decide (((rdOf ByteArray.empty y1 a0_0)++(⟨#[32]⟩:ByteArray)).size+t5.size≤9223372036854775807)=true:=decide_eq_true c7
  try have c7b2:(9223372036854775807<((rdOf ByteArray.empty y1 a0_0)++(⟨#[32]⟩:ByteArray)).size+t5.size)=False:=eq_false (Nat.not_lt.2 c7)
  try(have h1_:=c7;simp only[ByteArray.size_append,Ito.bsz,List.size_toArray,List.length_cons,List.length_nil]at h1_;have c7b3:=eq_false (Nat.not_lt.2 h1_);clear h1_)
  simp only[Option.some.injEq,Prod.mk.injEq]at H
  obtain⟨rfl,rfl⟩:=H
  go_enter func62,ntmps62
  go_wp2_with (first|((with_reducible refine gate_dst (N:=1) rfl ?_);refine Fix.be 1 #[V I a0_0,V I a0_1,V I a0_2,V I a0_3] 55 ?_;intro gb1 hg w1 BK1 hb;have GW1:=gE (w:=w) hg;have GE1:=GW1;replace HB:=eB hb;clear hb hg;obtain⟨_,_,_,_,_,_,_,_⟩:=d4 BK1.out)|((with_reducible refine F (f:=80) rfl ?_);refine gl 80 (some 6) func80 #[G #[V I a0_0,V I a0_1,V I a0_2,V I a0_3]] ?_;(with_reducible refine(spec_ActOk.calls k a0_0 a0_1 a0_2 a0_3 true _ A1.out).mono ?_);rintro e w2 ⟨rfl,hb⟩;refine⟨_,rfl,?_⟩;replace BK1:=eK BK1 hb;replace HB:=eB hb;clear hb)|((with_reducible refine gate_dst (N:=8) rfl ?_);refine Kd.R_lit Kd.string _ 9 ?hg (N:=8) ?hd (xs:=([(⟨#[]⟩:ByteArray),(⟨#[97,100,100]⟩:ByteArray),(⟨#[116,97,107,101]⟩:ByteArray),(⟨#[108,105,110,101]⟩:ByteArray),(⟨#[102,105,110,105,115,104]⟩:ByteArray),(⟨#[114,101,108,101,97,115,101]⟩:ByteArray)]:List ByteArray)) (inner:= [.string (⟨#[]⟩:ByteArray),.string (⟨#[97,100,100]⟩:ByteArray),.string (⟨#[116,97,107,101]⟩:ByteArray),.string (⟨#[108,105,110,101]⟩:ByteArray),.string (⟨#[102,105,110,105,115,104]⟩:ByteArray),.string (⟨#[114,101,108,101,97,115,101]⟩:ByteArray)]) (ok:=fun _=>True) (okp:=fun _=>True) ?hr ?hp (fun _ hk=>hk) trivial (Below.refl _ _) (Nat.le_refl _) (by simp) ?_;(case hd=>rfl);(case hg=>rfl);(case hr=>exact Fix.hr);(case hp=>exact(Reps.one (show Kd.M Kd.string _ _ _ (⟨#[]⟩:ByteArray) [.string (⟨#[]⟩:ByteArray)] from rfl) (Reps.one (show Kd.M Kd.string _ _ _ (⟨#[97,100,100]⟩:ByteArray) [.string (⟨#[97,100,100]⟩:ByteArray)] from rfl) (Reps.one (show Kd.M Kd.string _ _ _ (⟨#[116,97,107,101]⟩:ByteArray) [.string (⟨#[116,97,107,101]⟩:ByteArray)] from rfl) (Reps.one (show Kd.M Kd.string _ _ _ (⟨#[108,105,110,101]⟩:ByteArray) [.string (⟨#[108,105,110,101]⟩:ByteArray)] from rfl) (Reps.one (show Kd.M Kd.string _ _ _ (⟨#[102,105,110,105,115,104]⟩:ByteArray) [.string (⟨#[102,105,110,105,115,104]⟩:ByteArray)] from rfl) (Reps.one (show Kd.M Kd.string _ _ _ (⟨#[114,101,108,101,97,115,101]⟩:ByteArray) [.string (⟨#[114,101,108,101,97,115,101]⟩:ByteArray)] from rfl) (Reps.none _ _))))))));intro v1 w3 ho1 hb hg_ hnew_;clear hg_ hnew_;(first|rw[←Ny1.out]at ho1|(simp only[Int.reduceToNat]at ho1;rw[←Ny1.out]at ho1));have HO1:=lR ho1;replace BK1:=eK BK1 hb;replace HB:=eB hb;clear hb ho1;obtain⟨_,_,_,_,_,_,_,_⟩:=d4 BK1.out;obtain⟨Ao1,co1,rfl⟩:=U HO1.out;have p1:0≤(a0_0:Int):=oT;have q1:a0_0<(y1.length:Int):=oT;obtain⟨ad1,e1,hx1_0⟩:=Kd.at_string (Kd.R_reads' HO1.out).2.2 a0_0 p1 q1;cases e1;replace p1:=eq_true p1;replace q1:=eq_true q1)|((with_reducible refine F (f:=33) rfl ?_);refine gl 33 (some 44) func33 #[V I a0_1] ?_;(with_reducible refine(spec_FormatInt.calls k a0_1 t5 _ A2.out).mono ?_);rintro e w4 ⟨rfl,hb⟩;refine⟨_,rfl,?_⟩;replace HO1:=eR HO1 hb;replace BK1:=eK BK1 hb;replace HB:=eB hb;clear hb))
  go_ret2
  exact⟨rE,uB⟩
 rw[if_pos c4]at H
 have c4b0:(a0_0==1)=true:=beq_iff_eq.mpr c4
 have c4b1:(a0_0 !=1)=false:=bne_eq_false_iff_eq.mpr c4
 clear c4
 obtain⟨c5,H⟩:=np H
 have c5b0:=eq_true c5
 have c5b1:decide ((rdOf ByteArray.empty y1 a0_0).size+1≤9223372036854775807)=true:=decide_eq_true c5
 try have c5b2:(9223372036854775807<(rdOf ByteArray.empty y1 a0_0).size+1)=False:=eq_false (Nat.not_lt.2 c5)
 try(have h1_:=c5;simp only[ByteArray.size_append,Ito.bsz,List.size_toArray,List.length_cons,List.length_nil]at h1_;have c5b3:=eq_false (Nat.not_lt.2 h1_);clear h1_)
 obtain⟨t2,A2,H⟩:=bnd H
 obtain⟨c6,H⟩:=np H
 have c6b0:=eq_true c6
 have c6b1:decide (((rdOf ByteArray.empty y1 a0_0)++(⟨#[32]⟩:ByteArray)).size+t2.size≤9223372036854775807)=true:=decide_eq_true c6
 try have c6b2:(9223372036854775807<((rdOf ByteArray.empty y1 a0_0)++(⟨#[32]⟩:ByteArray)).size+t2.size)=False:=eq_false (Nat.not_lt.2 c6)
 try(have h1_:=c6;simp only[ByteArray.size_append,Ito.bsz,List.size_toArray,List.length_cons,List.length_nil]at h1_;have c6b3:=eq_false (Nat.not_lt.2 h1_);clear h1_)
 obtain⟨c7,H⟩:=np H
 have c7b0:=eq_true c7
 have c7b1:decide ((((rdOf ByteArray.empty y1 a0_0)++(⟨#[32]⟩:ByteArray))++t2).size+1≤9223372036854775807)=true:=decide_eq_true c7
 try have c7b2:(9223372036854775807<(((rdOf ByteArray.empty y1 a0_0)++(⟨#[32]⟩:ByteArray))++t2).size+1)=False:=eq_false (Nat.not_lt.2 c7)
 try(have h1_:=c7;simp only[ByteArray.size_append,Ito.bsz,List.size_toArray,List.length_cons,List.length_nil]at h1_;have c7b3:=eq_false (Nat.not_lt.2 h1_);clear h1_)
 obtain⟨t3,A3,H⟩:=bnd H
 obtain⟨c8,H⟩:=np H
 have c8b0:=eq_true c8
 have c8b1:decide (((((rdOf ByteArray.empty y1 a0_0)++(⟨#[32]⟩:ByteArray))++t2)++(⟨#[32]⟩:ByteArray)).size+t3.size≤9223372036854775807)=true:=decide_eq_true c8
 try have c8b2:(9223372036854775807<((((rdOf ByteArray.empty y1 a0_0)++(⟨#[32]⟩:ByteArray))++t2)++(⟨#[32]⟩:ByteArray)).size+t3.size)=False:=eq_false (Nat.not_lt.2 c8)
 try(have h1_:=c8;simp only[ByteArray.size_append,Ito.bsz,List.size_toArray,List.length_cons,List.length_nil]at h1_;have c8b3:=eq_false (Nat.not_lt.2 h1_);clear h1_)
 obtain⟨c9,H⟩:=np H
 have c9b0:=eq_true c9
 have c9b1:decide ((((((rdOf ByteArray.empty y1 a0_0)++(⟨#[32]⟩:ByteArray))++t2)++(⟨#[32]⟩:ByteArray))++t3).size+1≤9223372036854775807)=true:=decide_eq_true c9
 try have c9b2:(9223372036854775807<(((((rdOf ByteArray.empty y1 a0_0)++(⟨#[32]⟩:ByteArray))++t2)++(⟨#[32]⟩:ByteArray))++t3).size+1)=False:=eq_false (Nat.not_lt.2 c9)
 try(have h1_:=c9;simp only[ByteArray.size_append,Ito.bsz,List.size_toArray,List.length_cons,List.length_nil]at h1_;have c9b3:=eq_false (Nat.not_lt.2 h1_);clear h1_)
 obtain⟨t4,A4,H⟩:=bnd H
 obtain⟨c10,H⟩:=np H
 have c10b0:=eq_true c10
 have c10b1:decide (((((((rdOf ByteArray.empty y1 a0_0)++(⟨#[32]⟩:ByteArray))++t2)++(⟨#[32]⟩:ByteArray))++t3)++(⟨#[32]⟩:ByteArray)).size+t4.size≤9223372036854775807)=true:=decide_eq_true c10
 try have c10b2:(9223372036854775807<((((((rdOf ByteArray.empty y1 a0_0)++(⟨#[32]⟩:ByteArray))++t2)++(⟨#[32]⟩:ByteArray))++t3)++(⟨#[32]⟩:ByteArray)).size+t4.size)=False:=eq_false (Nat.not_lt.2 c10)
 try(have h1_:=c10;simp only[ByteArray.size_append,Ito.bsz,List.size_toArray,List.length_cons,List.length_nil]at h1_;have c10b3:=eq_false (Nat.not_lt.2 h1_);clear h1_)
 simp only[Option.some.injEq,Prod.mk.injEq]at H
 obtain⟨rfl,rfl⟩:=H
 go_enter func62,ntmps62
 try go_wp2_with (first|((with_reducible refine gate_dst (N:=1) rfl ?_);refine Fix.be 1 #[V I a0_0,V I a0_1,V I a0_2,V I a0_3] 55 ?_;intro gb1 hg w1 BK1 hb;have GW1:=gE (w:=w) hg;have GE1:=GW1;replace HB:=eB hb;clear hb hg;obtain⟨_,_,_,_,_,_,_,_⟩:=d4 BK1.out)|((with_reducible refine F (f:=80) rfl ?_);refine gl 80 (some 6) func80 #[G #[V I a0_0,V I a0_1,V I a0_2,V I a0_3]] ?_;(with_reducible refine(spec_ActOk.calls k a0_0 a0_1 a0_2 a0_3 true _ A1.out).mono ?_);rintro e w2 ⟨rfl,hb⟩;refine⟨_,rfl,?_⟩;replace BK1:=eK BK1 hb;replace HB:=eB hb;clear hb)|((with_reducible refine gate_dst (N:=8) rfl ?_);refine Kd.R_lit Kd.string _ 9 ?hg (N:=8) ?hd (xs:=([(⟨#[]⟩:ByteArray),(⟨#[97,100,100]⟩:ByteArray),(⟨#[116,97,107,101]⟩:ByteArray),(⟨#[108,105,110,101]⟩:ByteArray),(⟨#[102,105,110,105,115,104]⟩:ByteArray),(⟨#[114,101,108,101,97,115,101]⟩:ByteArray)]:List ByteArray)) (inner:= [.string (⟨#[]⟩:ByteArray),.string (⟨#[97,100,100]⟩:ByteArray),.string (⟨#[116,97,107,101]⟩:ByteArray),.string (⟨#[108,105,110,101]⟩:ByteArray),.string (⟨#[102,105,110,105,115,104]⟩:ByteArray),.string (⟨#[114,101,108,101,97,115,101]⟩:ByteArray)]) (ok:=fun _=>True) (okp:=fun _=>True) ?hr ?hp (fun _ hk=>hk) trivial (Below.refl _ _) (Nat.le_refl _) (by simp) ?_;(case hd=>rfl);(case hg=>rfl);(case hr=>exact Fix.hr);(case hp=>exact(Reps.one (show Kd.M Kd.string _ _ _ (⟨#[]⟩:ByteArray) [.string (⟨#[]⟩:ByteArray)] from rfl) (Reps.one (show Kd.M Kd.string _ _ _ (⟨#[97,100,100]⟩:ByteArray) [.string (⟨#[97,100,100]⟩:ByteArray)] from rfl) (Reps.one (show Kd.M Kd.string _ _ _ (⟨#[116,97,107,101]⟩:ByteArray) [.string (⟨#[116,97,107,101]⟩:ByteArray)] from rfl) (Reps.one (show Kd.M Kd.string _ _ _ (⟨#[108,105,110,101]⟩:ByteArray) [.string (⟨#[108,105,110,101]⟩:ByteArray)] from rfl) (Reps.one (show Kd.M Kd.string _ _ _ (⟨#[102,105,110,105,115,104]⟩:ByteArray) [.string (⟨#[102,105,110,105,115,104]⟩:ByteArray)] from rfl) (Reps.one (show Kd.M Kd.string _ _ _ (⟨#[114,101,108,101,97,115,101]⟩:ByteArray) [.string (⟨#[114,101,108,101,97,115,101]⟩:ByteArray)] from rfl) (Reps.none _ _))))))));intro v1 w3 ho1 hb hg_ hnew_;clear hg_ hnew_;(first|rw[←Ny1.out]at ho1|(simp only[Int.reduceToNat]at ho1;rw[←Ny1.out]at ho1));have HO1:=lR ho1;replace BK1:=eK BK1 hb;replace HB:=eB hb;clear hb ho1;obtain⟨_,_,_,_,_,_,_,_⟩:=d4 BK1.out;obtain⟨Ao1,co1,rfl⟩:=U HO1.out;have p1:0≤(a0_0:Int):=oT;have q1:a0_0<(y1.length:Int):=oT;obtain⟨ad1,e1,hx1_0⟩:=Kd.at_string (Kd.R_reads' HO1.out).2.2 a0_0 p1 q1;cases e1;replace p1:=eq_true p1;replace q1:=eq_true q1))
 replace HO1:=dR HO1
 replace BK1:=dK BK1
 replace HB:=dB HB
 refine start_ (n:=18) (S:=fun w'=>cl4 w' gb1 (V I a0_0) (V I a0_1) (V I a0_2) (V I a0_3)) (ds:= []) #[false,false,false,false,false,false,false,false,false,false,false,false,false,false,false,false,false,false] (by kernel_rfl) rfl rfl hh (fun hHeld=> ?_);refine with_tabW spec_FormatAct.tab5 spec_FormatAct.bits5 (fun HT_ HW_=> ?_)
 generalize w3.drew=w4 at HO1 BK1 HB hHeld ⊢
 refine pu 0 (some 16) ?_
 refine pu 1 (some 17) ?_
 refine pu 2 (some 18) ?_
 refine pu 7 (some 23) ?_
 refine pu 12 (some 28) ?_
 refine tu 3 (some 19) hHeld ?_
 refine tu 8 (some 24) hHeld ?_
 refine tu 13 (some 29) hHeld ?_
 refine ou 4 (some 20) (fun K hK=> ?_)
 refine gs func33 #[V I a0_1] ?_
 with_reducible refine(spec_FormatInt.calls k a0_1 t2 _ A2.out).mono ?_
 rintro e w5 ⟨rfl,hb⟩
 refine⟨_,rfl,?_⟩
 replace HO1:=eR HO1 hb
 replace BK1:=eK BK1 hb
 replace HB:=eB hb
 (try clear hb)
 refine hK.out _ _ hh (fun hHeld=> ?_)
 clear hK K
 refine nu (N:=(some 20)) ?_
 refine pu 5 (some 21) ?_
 refine pu 6 (some 22) ?_
 refine ou 9 (some 25) (fun K hK=> ?_)
 refine gs func33 #[V I a0_2] ?_
 with_reducible refine(spec_FormatInt.calls k a0_2 t3 _ A3.out).mono ?_
 rintro e w6 ⟨rfl,hb⟩
 refine⟨_,rfl,?_⟩
 replace HO1:=eR HO1 hb
 replace BK1:=eK BK1 hb
 replace HB:=eB hb
 (try clear hb)
 refine hK.out _ _ hh (fun hHeld=> ?_)
 clear hK K
 refine nu (N:=(some 25)) ?_
 refine pu 10 (some 26) ?_
 refine pu 11 (some 27) ?_
 refine ou 14 (some 30) (fun K hK=> ?_)
 refine gs func33 #[V I a0_3] ?_
 with_reducible refine(spec_FormatInt.calls k a0_3 t4 _ A4.out).mono ?_
 rintro e w7 ⟨rfl,hb⟩
 refine⟨_,rfl,?_⟩
 replace HO1:=eR HO1 hb
 replace BK1:=eK BK1 hb
 replace HB:=eB hb
 (try clear hb)
 refine hK.out _ _ hh (fun hHeld=> ?_)
 clear hK K
 refine nu (N:=(some 30)) ?_
 refine pu 15 (some 31) ?_
 refine pu 16 (some 2) ?_
 refine pu 17 (some 3) ?_
 refine done_ (done_of HT_.out (by kernel_rfl)) ?_
 try go_wp2
 go_ret2
 exact⟨rE,uB⟩
end Go.Proofs.YtgdnlmfoghpeoaaGreatDoor.PFnExactRunScript
