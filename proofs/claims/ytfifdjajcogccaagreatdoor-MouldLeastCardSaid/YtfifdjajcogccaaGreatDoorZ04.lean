import Derived.Test.YtfifdjajcogccaaGreatDoorZ03
import Derived.Test.YtfifdjajcogccaaGreatDoorZ01
import Derived.IntWalk
import Derived.Below
import Derived.Laws.OwnMore
import Derived.Deep.AppendLies
import Derived.Deep.Draws
import Derived.Lib.Hide
import Derived.WalkSpells
import Derived.Outline
import Derived.Deep.QuietTactic
import Derived.BigQuiet
import Derived.Laws.IdiomStrings
import Derived.StillTailTactics
import Derived.Deep.RegionHeld3
import Derived.Laws.Rows
set_option linter.all false
set_option maxHeartbeats 64000000
set_option maxRecDepth 20000
open And renaming intro -> Afx
open Array renaming getElem?_setIfInBounds -> Aai, getD_eq_getD_getElem? -> Aaa, replicate -> Aeo
open Bool renaming and_eq_true -> Aax, not_eq_true' -> Afy
open Go renaming World -> Aa4, Goroutine -> Abe, TypeId -> Aa1, Program -> Aa6, TypeInfo -> Afz, maxLen -> Af0, Calls -> Af1
open Go.Conc renaming served -> Ad2
open Go.Instr renaming index -> Af2
open Go.IntKind renaming i64 -> Ack
open Go.Lib renaming hid -> Af3
open Go.Obj renaming cells -> Af4
open Go.RowKit renaming intOf -> Af5
open Go.RowKit.Below renaming refl -> Af6
open Go.World renaming cell?_alloc_lt -> Af7, cell?_alloc_mark -> Af8
open List renaming range -> Af9, mem_cons -> Aef, getElem?_eq_getElem -> Aga, getElem?_eq_some_iff -> Agb, findIdx?_eq_some_iff_getElem -> Agc, findIdx?_eq_none_iff -> Agd, length_take_le -> Age, take_of_length_le -> Agf, mem_of_getElem? -> Agg, drop_of_length_le -> Agh, take_succ_cons -> Agi, take_zero -> Agj, drop_succ_cons -> Agk, drop_zero -> Agl
open Nat renaming le_refl -> Ac2, zero_le -> Agm, lt_succ_iff_lt_or_eq -> Agn, le_of_eq -> Ago, mul_one -> Agp, lt_of_le_of_lt -> Agq, le_trans -> Ac3, le_of_lt -> Agr, lt_of_lt_of_le -> Aeh
open Option renaming bind_eq_some_iff -> Ags
open Option.some renaming injEq -> Ac6, inj -> Ac5
namespace Go.Jn
open Go Go.Proofs Go.Sim
set_option maxRecDepth 100000
theorem BG:∃dir,Tryz.prog.underlying 154=some (.chan dir 3):=⟨_,rfl⟩
theorem Qi:∃dir,Tryz.prog.underlying 155=some (.chan dir 4):=⟨_,rfl⟩
theorem in3:∃i,Tryz.prog.info? 3=some i:=⟨_,rfl⟩
theorem in4:∃i,Tryz.prog.info? 4=some i:=⟨_,rfl⟩
theorem Vx:∃i,Tryz.prog.info? 154=some i/\i.zero=some (.chan none)/\i.size=1:=⟨_,rfl,rfl,rfl⟩
theorem Vy:∃i,Tryz.prog.info? 155=some i/\i.zero=some (.chan none)/\i.size=1:=⟨_,rfl,rfl,rfl⟩
section
variable {t0 t:Array Value}{M0 M:aaa}{w0 w:Aa4}{n:Nat}{l:Array Bool}
theorem I4.step(h:I4 t0 M0 w0 n l t M w){i:Nat}(hi:i∈Region.ready .any iP l):
 ∃o v aq es,iP[i]?=some o/\Region.wanted o (yielded iP t)=true/\
  ((execOp (aS t) o).runT Tryz.prog w #[]=(.ok (.value v) aq,es)\/v=undef/\(execOp (aS t) o).runT Tryz.prog w #[]=(.ok .skip aq,es))/\eO M w aq es/\(∀e∈es,∀b,e.loc≠ .obj b)/\I4 t0 M0 w0 (n+1) (l.setIfInBounds i true) (ay t o.dst v) (M.grow w aq) aq:=by
 obtain⟨⟨a0,a1,a2,a3,a4,a5,cN,cL,p6,p7,rfl,e2,f0,f1,f2,f3,f4,f5,f6,f7⟩,nR,same,O,On,R,kept,size,oF,low,tape,os,out⟩:=h;have hr:=Ru ajO a0 a1 a2 a3 a4 a5;rw[List.all_eq_true] at hr;have hc:=hr i hi;have Iy:∀(o:Obj) b,(M.grow w (w.alloc o)).has b->b<(w.alloc o).heap.size:=by
  intro o b hb;rw[fa];rcases hb with(hb|hb) |hb
  ·have:=low b (.inl hb);omega
  ·rw[fa] at hb;omega
  ·have:=low b (.inr hb);omega
 have Iw:∀(o:Obj) b,(M.grow w (w.alloc o)).O b->M0.O b\/w0.heap.size<=b:=by
  rintro o b (hb|hb)
  ·exact On b hb
  ·right;omega
 have Iv:∀(o:Obj) b,M0.has b->(w.alloc o).heap[b]?=w0.heap[b]?:=fun o b hb=>(kB (by have:=oF b hb;omega)).trans (kept b hb)
 have Ix:∀o:Obj,w0.heap.size<=(w.alloc o).heap.size:=fun o=>by rw[fa];omega
 have own:∀o:Obj,(M.grow w (w.alloc o)).O w.heap.size:=fun o=>.inr ⟨Ac2 _,by rw[fa];omega⟩
 have sm:∀(d:Nat) (v:Value),(d=19\/d=20\/d=6\/d=7)->∀j,j≠19->j≠20->j≠6->j≠7->(t.setIfInBounds d v)[j]?=t0[j]?:=by
  intro d v hd j h1 h2 h3 h4;rw[Aai,if_neg (by rcases hd with rfl|rfl|rfl|rfl<;>omega)]
  exact same j h1 h2 h3 h4
 have at_:∀(d:Nat) (v:Value),d<41->(t.setIfInBounds d v)[d]?=some v:=by
  intro d v hd;rw[Aai,if_pos rfl,if_pos (by omega)]
 have cJ:∀ {s:Nat} {v:Value},t[s]?=some v->t.getD s undef=v:=by
  intro s v h;rw[Aaa,h];rfl
 match i,hc with
 |0,hc=>
  have ha:a0=false:=by simpa [uO] using hc
  subst ha;obtain⟨o,ho,ab,hd,hg⟩:=ajd;obtain⟨dir,hu⟩:=BG;have h4:a4=false:=by cases a4;rfl;exact absurd (f4 rfl).1 (by simp)
  subst h4;refine⟨o,_,_,_,ho,cf hg,.inl (WU t ab hu w in3),xe,by simp,?_⟩
  rw[hd];refine⟨⟨true,a1,a2,a3,false,a5,w.heap.size,cL,p6,p7,rfl,by simp only[bn] at *;simp at *;omega,fun _=>⟨at_ 19 _ (by omega),own _,size,jO⟩,fun h=>(f1 h).alloc low (by omega),fun h=>?_,fun h=>(f3 h).alloc low (by omega),by simp,f5,fun _ h=>?_,f7⟩,
   by simp[ay,nR],sm 19 _ (by simp),fun b hb=>.inl (O b hb),Iw _,R,Iv _,Ix _,oF,Iy _,tape,os,out⟩
  ·have:=(f2 h).alloc low (d:=19) (v:=.chan (some w.heap.size)) (o:=.chan 0 #[] false 0 0 false) (by omega)
   simpa [ay] using this
  ·have:=low cL (.inl (f1 h).2.1);omega
 |1,hc=>
  have ha:a1=false:=by simpa [uO] using hc
  subst ha;obtain⟨o,ho,ab,hd,hg⟩:=aje;obtain⟨dir,hu⟩:=Qi;have h5:a5=false:=by cases a5;rfl;exact absurd (f5 rfl).1 (by simp)
  subst h5;refine⟨o,_,_,_,ho,cf hg,.inl (WU t ab hu w in4),xe,by simp,?_⟩
  rw[hd];refine⟨⟨a0,true,a2,a3,a4,false,cN,w.heap.size,p6,p7,rfl,by simp only[bn] at *;simp at *;omega,fun h=>(f0 h).alloc low (by omega),fun _=>⟨at_ 20 _ (by omega),own _,size,jO⟩,fun h=>(f2 h).alloc low (by omega),fun h=>?_,f4,by simp,fun h _=>?_,f7⟩,
   by simp[ay,nR],sm 20 _ (by simp),fun b hb=>.inl (O b hb),Iw _,R,Iv _,Ix _,oF,Iy _,tape,os,out⟩
  ·have:=(f3 h).alloc low (d:=20) (v:=.chan (some w.heap.size)) (o:=.chan 0 #[] false 0 0 false) (by omega)
   simpa [ay] using this
  ·have:=low cN (.inl (f0 h).2.1);omega
 |2,hc=>
  have ha:a2=false:=by simpa [uO] using hc
  subst ha;obtain⟨o,ho,ab,hd,hg⟩:=ajf;obtain⟨ti,lU,hz,_⟩:=Vx;have h4:a4=false:=by cases a4;rfl;exact absurd (f4 rfl).2 (by simp)
  subst h4;refine⟨o,_,_,_,ho,cf hg,.inl (Py t ab lU hz rfl w),xe,by simp,?_⟩
  rw[hd];refine⟨⟨a0,a1,true,a3,false,a5,cN,cL,w.heap.size,p7,rfl,by simp only[bn] at *;simp at *;omega,fun h=>(f0 h).alloc low (by omega),fun h=>(f1 h).alloc low (by omega),fun _=>⟨at_ 6 _ (by omega),own _,size,jO⟩,fun h=>(f3 h).alloc low (by omega),by simp,f5,f6,fun _ h=>?_⟩,
   by simp[ay,nR],sm 6 _ (by simp),fun b hb=>.inl (O b hb),Iw _,R,Iv _,Ix _,oF,Iy _,tape,os,out⟩
  have:=low p7 (.inl (f3 h).2.1);omega
 |3,hc=>
  have ha:a3=false:=by simpa [uO] using hc
  subst ha;obtain⟨o,ho,ab,hd,hg⟩:=ajg;obtain⟨ti,lU,hz,_⟩:=Vy;have h5:a5=false:=by cases a5;rfl;exact absurd (f5 rfl).2 (by simp)
  subst h5;refine⟨o,_,_,_,ho,cf hg,.inl (Py t ab lU hz rfl w),xe,by simp,?_⟩
  rw[hd];refine⟨⟨a0,a1,a2,true,a4,false,cN,cL,p6,w.heap.size,rfl,by simp only[bn] at *;simp at *;omega,fun h=>(f0 h).alloc low (by omega),fun h=>(f1 h).alloc low (by omega),fun h=>(f2 h).alloc low (by omega),fun _=>⟨at_ 7 _ (by omega),own _,size,jO⟩,f4,by simp,f6,fun h _=>?_⟩,
   by simp[ay,nR],sm 7 _ (by simp),fun b hb=>.inl (O b hb),Iw _,R,Iv _,Ix _,oF,Iy _,tape,os,out⟩
  have:=low p6 (.inl (f2 h).2.1);omega
 |4,hc=>
  have ha:(a4=false/\a0=true)/\a2=true:=by simpa [uO] using hc
  obtain⟨⟨rfl,rfl⟩,rfl⟩:=ha;obtain⟨o,ho,ab,hd,hg⟩:=ajh;obtain⟨ti,lU,_,hs⟩:=Vx;have g0:=f0 rfl;have g2:=f2 rfl;refine⟨o,undef,jh w p6 (.cells #[.chan (some cN)] 154 (0,0)),_,ho,cf hg,.inr ⟨rfl,PC t ab (cJ g2.1) (cJ g0.1) rfl rfl lU hs w g2.2.2.2⟩,LZ g2.2.1,by simp,?_⟩
  rw[hd,GQ];refine⟨⟨true,a1,true,a3,true,a5,cN,cL,p6,p7,rfl,by simp only[bn] at *;simp at *;omega,fun _=>g0.set g2.2.2.2,fun h=>(f1 h).set g2.2.2.2,fun _=>⟨g2.1,g2.2.1,g2.2.2.1,PM (low _ (.inl g2.2.1))⟩,fun h=>(f3 h).set (f7 rfl h),fun _=>⟨rfl,rfl⟩,f5,f6,f7⟩,
   nR,same,O,On,R,fun b hb=>(wa (by have:=oF b hb;have:=g2.2.2.1;omega)).trans (kept b hb),by rw[qS];exact size,oF,fun b hb=>by rw[qS];exact low b hb,tape,os,out⟩
 |5,hc=>
  have ha:(a5=false/\a1=true)/\a3=true:=by simpa [uO] using hc
  obtain⟨⟨rfl,rfl⟩,rfl⟩:=ha;obtain⟨o,ho,ab,hd,hg⟩:=aji;obtain⟨ti,lU,_,hs⟩:=Vy;have g1:=f1 rfl;have g3:=f3 rfl;refine⟨o,undef,jh w p7 (.cells #[.chan (some cL)] 155 (0,0)),_,ho,cf hg,.inr ⟨rfl,PC t ab (cJ g3.1) (cJ g1.1) rfl rfl lU hs w g3.2.2.2⟩,LZ g3.2.1,by simp,?_⟩
  rw[hd,GQ];refine⟨⟨a0,true,a2,true,a4,true,cN,cL,p6,p7,rfl,by simp only[bn] at *;simp at *;omega,fun h=>(f0 h).set g3.2.2.2,fun _=>g1.set g3.2.2.2,fun h=>(f2 h).set (Ne.symm (f7 h rfl)),fun _=>⟨g3.1,g3.2.1,g3.2.2.1,PM (low _ (.inl g3.2.1))⟩,f4,fun _=>⟨rfl,rfl⟩,f6,f7⟩,
   nR,same,O,On,R,fun b hb=>(wa (by have:=oF b hb;have:=g3.2.2.1;omega)).trans (kept b hb),by rw[qS];exact size,oF,fun b hb=>by rw[qS];exact low b hb,tape,os,out⟩
 |n+6,hc=>exact absurd hc (by simp[uO])
structure R4(t0:Array Value)(M0:aaa)(w0:Aa4)(cN cL p6 p7:Nat)(t:Array Value)(M:aaa)(w:Aa4):Prop where
 n:ChanAt t M w0 w 19 cN
 l:ChanAt t M w0 w 20 cL
 vn:nU t M w0 w 6 p6 (.chan (some cN)) 154
 vl:nU t M w0 w 7 p7 (.chan (some cL)) 155
 nl:cN≠cL
 np:p6≠p7
 nR:t.size=41
 same:∀j,j≠19->j≠20->j≠6->j≠7->t[j]?=t0[j]?
 O:∀b,M0.O b->M.O b
 On:∀b,M.O b->M0.O b\/w0.heap.size<=b
 R:M.R=M0.R
 kept:∀b,M0.has b->w.heap[b]?=w0.heap[b]?
 size:w0.heap.size<=w.heap.size
 low:∀b,M.has b->b<w.heap.size
 tape:w.tape=w0.tape
 os:w.os=w0.os
 out:w.output=w0.output
theorem I4.done(h:I4 t0 M0 w0 n l t M w)(hd:Region.ready .any iP l=[]\/n=iP.size):∃cN cL p6 p7,R4 t0 M0 w0 cN cL p6 p7 t M w:=by
 obtain⟨⟨a0,a1,a2,a3,a4,a5,cN,cL,p6,p7,rfl,e2,f0,f1,f2,f3,f4,f5,f6,f7⟩,nR,same,O,On,R,kept,size,oF,low,tape,os,out⟩:=h;have eA:a0=true/\a1=true/\a2=true/\a3=true/\a4=true/\a5=true:=by
  rcases hd with hd|hd
  ·have:=Ru abf a0 a1 a2 a3 a4 a5
   rw[hd] at this;simpa [and_assoc] using this
  ·rw[alu] at hd
   rw[e2] at hd;cases a0<;>cases a1<;>cases a2<;>cases a3<;>cases a4<;>cases a5<;>simp_all [bn]
 obtain⟨rfl,rfl,rfl,rfl,rfl,rfl⟩:=eA;exact⟨cN,cL,p6,p7,f0 rfl,f1 rfl,f2 rfl,f3 rfl,f6 rfl rfl,f7 rfl rfl,nR,same,O,On,R,kept,size,low,tape,os,out⟩
theorem mixed:Tryz.prog.follows .mixedOrders=true:=by decide+kernel
theorem am1{main:Bool}{N:Nat}{Stop:aaa->Abe->Aa4->Prop}{f:FuncId}{k:List Item}{D:List Deferred}{kd:CallKind}{cs:List Frame}(hk:(kd==.early)=false)
 (hs:t0.size=41)(gN:∀b,M0.has b->b<w0.heap.size)
 (h:∀cN cL p6 p7 t M w,R4 t0 M0 w0 cN cL p6 p7 t M w->WalkE Tryz.prog main N Stop M (rg f t k D kd cs) w):
 WalkE Tryz.prog main N Stop M0 (rg f t0 (.code (.region 4 iP true)::k) D kd cs) w0:=by
 refine amU mixed hk (I4 t0 M0 w0) (fun n l t M w aa hI kp=>hI.keep kp) (fun n l t M w i hI hi=>hI.step hi) (fun n l t M w hI hd=>?_) ?_
 ·obtain⟨cN,cL,p6,p7,hR⟩:=hI.done hd
  exact h _ _ _ _ _ _ _ hR
 ·refine⟨⟨false,false,false,false,false,false,0,0,0,0,rfl,rfl,by simp,by simp,by simp,by simp,by simp,by simp,by simp,by simp⟩,hs,fun _ _ _ _ _=>rfl,fun _ h=>h,fun _ h=>.inl h,rfl,fun _ _=>rfl,Ac2 _,gN,gN,rfl,rfl,rfl⟩
end
end Go.Jn
namespace Go.Jn
open Go Go.Proofs Go.Sim Go.Conc
set_option maxRecDepth 100000
def qV:Code->Code
 | .block _ c=>c
 | .loop c=>c
 |c=>c
noncomputable def Lx:Code:=(Tryz.f124.body).getD .skip
noncomputable def pS:Code:=qV (qV (a8 (bO Lx)))
noncomputable def qA:Array Oper:=opsOf (bO (bO Lx))
noncomputable def qB:Array Oper:=opsOf (bO pS)
noncomputable def qC:Array Oper:=opsOf (qV (bO (a8 (a8 pS))))
noncomputable def qD:Array Oper:=opsOf (a8 (a8 (a8 pS)))
noncomputable def qE:Array Oper:=opsOf (a8 Lx)
theorem Sa:Tryz.f124.body=some (.seq (.seq (.region 0 qA false) (.block 0 (.loop pS))) (.region 4 qE false)):=rfl
theorem Rj:pS=.seq (.region 1 qB false) (.seq (.cond (.tmp 7) .skip (.exit 0)) (.seq (.block 1 (.region 2 qC false)) (.region 3 qD false))):=rfl
theorem Z0:∃o,qA[0]?=some o/\o.op=.fieldAddr 26 (.tmp 0) 2/\o.dst=some 3/\o.guard=none:=⟨_,rfl,rfl,rfl,rfl⟩
theorem cA1:∃o,qA[1]?=some o/\o.op=.load 23 (.tmp 3)/\o.dst=some 4/\o.guard=none:=⟨_,rfl,rfl,rfl,rfl⟩
theorem cA2:∃o,qA[2]?=some o/\o.op=.call {callee:=.builtin .len,args:=#[.tmp 4],argTypes:=#[23]}/\o.dst=some 5/\o.guard=none:=⟨_,rfl,rfl,rfl,rfl⟩
theorem Z3:∃o,qA[3]?=some o/\o.op=.move (.const (.int .i64 0))/\o.dst=some 6/\o.guard=none:=⟨_,rfl,rfl,rfl,rfl⟩
theorem Si:∃o,qB[0]?=some o/\o.op=.binOp .lss 3 (.tmp 6) (.tmp 5) 3/\o.dst=some 7/\o.guard=none:=⟨_,rfl,rfl,rfl,rfl⟩
theorem Z4:∃o,qC[0]?=some o/\o.op=.load 155 (.tmp 1)/\o.dst=some 8/\o.guard=none:=⟨_,rfl,rfl,rfl,rfl⟩
theorem Z5:∃o,qC[1]?=some o/\o.op=.recv 155 (.tmp 8) false/\o.dst=some 9/\o.guard=none:=⟨_,rfl,rfl,rfl,rfl⟩
theorem Z6:∃o,qD[0]?=some o/\o.op=.binOp .add 3 (.tmp 6) (.const (.int .i64 1)) 3/\o.dst=some 10/\o.guard=none:=⟨_,rfl,rfl,rfl,rfl⟩
theorem Z7:∃o,qD[1]?=some o/\o.op=.move (.tmp 10)/\o.dst=some 6/\o.guard=none:=⟨_,rfl,rfl,rfl,rfl⟩
theorem Z8:∃o,qE[0]?=some o/\o.op=.load 154 (.tmp 2)/\o.dst=some 11/\o.guard=none:=⟨_,rfl,rfl,rfl,rfl⟩
theorem Sj:∃o,qE[1]?=some o/\o.op=.call {callee:=.builtin .close,args:=#[.tmp 11],argTypes:=#[154]}/\o.dst=none/\o.guard=none:=⟨_,rfl,rfl,rfl,rfl⟩
theorem zA:qA.size=4:=rfl
theorem zB:qB.size=1:=rfl
theorem zC:qC.size=2:=rfl
theorem zD:qD.size=2:=rfl
theorem zE:qE.size=2:=rfl
theorem agb:∃i,Tryz.prog.info? 4=some i/\i.zero=some (.bool false):=⟨_,rfl,rfl⟩
theorem XU:∃fs fd i,Tryz.prog.underlying 26=some (.struct fs)/\fs[2]?=some fd/\fd.offset=2/\ Tryz.prog.info? fd.type=some i/\i.size≠0:=⟨_,_,_,rfl,rfl,rfl,rfl,by decide⟩
theorem XT:∃e,Tryz.prog.underlying 23=some (.slice e):=⟨_,rfl⟩
theorem vY{M:aaa}{b:Nat}(h:M.has b)(a:Addr)(ha:a.block=b):∀e∈(#[⟨.cell a,false,false⟩]:Array Event),wK M e:=fun e he=>by
 simp only[List.mem_toArray,List.mem_singleton] at he;subst he;exact .inl ⟨b,.inr ⟨a,rfl,ha⟩,rfl,h,fun h=>absurd h (by simp)⟩
theorem eo{M:aaa}:∀e∈(#[]:Array Event),wK M e:=fun e he=>absurd he (by simp)
end Go.Jn
namespace Go.Jn
open Go Go.Proofs Go.Sim Go.Conc
theorem cJ{t:Array Value}{s:Nat}{v:Value}(h:t[s]?=some v):t.getD s undef=v:=by
 rw[Aaa,h];rfl
theorem eM{t:Array Value}{d:Nat}{v:Value}(h:d<t.size):(t.setIfInBounds d v)[d]?=some v:=by
 rw[Aai,if_pos rfl,if_pos h]
theorem bL{t:Array Value}{d s:Nat}{v:Value}(h:d≠s):(t.setIfInBounds d v)[s]?=t[s]?:=by
 rw[Aai,if_neg h]
section
variable {n N0 cL cN:Nat}{eU:Nat->Bool}{val:Nat->Value}{End:List Nat->aaa->Abe->Aa4->Prop}
theorem aaQ{M:aaa}{w:Aa4}{t:Array Value}(ht:t.getD 11 undef=.chan (some cN)):
 AtClose (Pm.mk Tryz.prog n N0 cL cN eU val End) M (rg 124 t [.inRegion qE [1]] [] .deferred [dp Tryz.prog]) w:=by
 refine⟨rfl,?_,fun s r hw=>?_⟩
 ·obtain⟨o,ho,ab,hd,hg⟩:=Sj
  show mayWake Tryz.prog (rg 124 t [.inRegion qE [1]] [] .deferred [dp Tryz.prog])=true;simp[mayWake,Frame.oper?,ho,ab]
 ·obtain⟨o,ho,ab,hd,hg⟩:=Sj
  have aQ:=Jd (P:=Tryz.prog) (main:=false) (f:=124) (k:=[]) (D:=[]) (kd:=.deferred) (cs:=[dp Tryz.prog]) (rest:=[]) ho (cf hg) rfl (aks t w ab ht hw);rw[hd] at aQ;refine⟨rg 124 t [.inRegion qE []] [] .deferred [dp Tryz.prog],4,aQ.trans ?_,?_⟩
  ·have e:seen Tryz.prog 124 #[⟨.obj cN,false,true⟩,⟨.obj cN,true,true⟩]=#[⟨.obj cN,false,true⟩,⟨.obj cN,true,true⟩]:=by simp[seen]
   rw[e];rfl
  ·refine .inr ⟨rfl,rg 124 t [] [] .deferred [dp Tryz.prog],fun aa=>by simp[stepG,stepG.exec,ay],.inr ⟨rfl,aO ⟨124,t,[],[],.returning,.deferred,none⟩ [dp Tryz.prog],fun aa=>by simp[stepG,stepG.exec],WD Tryz.func124 rfl⟩⟩
theorem ib{t:Array Value}{d:Nat}{v:Value}(h:d<t.size):(ay t (some d) v).getD d undef=v:=cJ (eM h)
theorem wrap_small{x:Int}(h0:0<=x)(h1:x<2 ^ 62):Ack.wrap x=x:=by
 rw[IntWalk.i64_left];exact IntWalk.wrap64_in x (by omega)
theorem aaR{M:aaa}{w:Aa4}{p6 p7:Nat}{e6 e7:Aa1}{f6 f7:Nat×Nat}(m6:M.has p6)(m7:M.has p7)(h6:w.heap[p6]?=some (.cells #[.chan (some cN)] e6 f6))(h7:w.heap[p7]?=some (.cells #[.chan (some cL)] e7 f7))(hn:n<2 ^ 61):
 ∀(r:Nat) (t:Array Value),r<=n->t.size=12->t[1]?=some (.pointer (some ⟨p7,0,none⟩))->t[2]?=some (.pointer (some ⟨p6,0,none⟩))->t[5]?=some (.int .i64 n)->t[6]?=some (.int .i64 ((n:Int) - r))->
  Walk Tryz.prog false (pW (Pm.mk Tryz.prog n N0 cL cN eU val End) r) M (rg 124 t [.code pS,.inLoop pS,.inBlock 0,.code (.region 4 qE false)] [] .deferred [dp Tryz.prog]) w:=by
 intro r;induction r with
 |zero=>
  intro t hr hs t1 t2 t5 t6;rw[Rj];refine fF (gH ?_)
  rw[zB];obtain⟨o,ho,ab,hd,hg⟩:=Si;refine du ho (cf hg) rfl (fun aa _=>⟨_,I3 t aa ab (cJ t6) (cJ t5),eo⟩) ?_
  rw[hd];refine iA (fF (BM (q:=false) ?_ ?_))
  ·have:¬ ((n:Int) - ((0:Nat):Int)<n):=by omega
   exact(ib (by omega)).trans (congrArg Value.bool (by simp only[this,decide_true,decide_false]))
  ·refine Qm (k':=[.code (.region 4 qE false)]) rfl (gH ?_)
   rw[zE];obtain⟨o,ho,ab,hd,hg⟩:=Z8;obtain⟨dir,hu⟩:=BG;refine du ho (cf hg) rfl (fun aa hk=>⟨_,v8 _ aa ab (cJ ((bL (by omega)).trans t2)) hu rfl (lL ((hk.kept _ m6).trans h6) rfl rfl),vY m6 _ rfl⟩) ?_
   rw[hd];exact .stop fun aa _=>aaQ (cJ (eM (by simp[ay];omega)))
 |succ r ih=>
  intro t hr hs t1 t2 t5 t6;rw[Rj];refine fF (gH ?_)
  rw[zB];obtain⟨o,ho,ab,hd,hg⟩:=Si;refine du ho (cf hg) rfl (fun aa _=>⟨_,I3 t aa ab (cJ t6) (cJ t5),eo⟩) ?_
  rw[hd];refine iA (fF (BM (q:=true) ?_ ?_))
  ·have:(n:Int) - ((r+1:Nat):Int)<n:=by omega
   exact(ib (by omega)).trans (congrArg Value.bool (by simp only[this,decide_true,decide_false]))
  ·refine Qq (fF (BL (gH ?_)))
   rw[zC];obtain⟨o,ho,ab,hd,hg⟩:=Z4;obtain⟨dir,hu⟩:=Qi;refine du ho (cf hg) rfl (fun aa hk=>⟨_,v8 _ aa ab (cJ ((bL (by omega)).trans t1)) hu rfl (lL ((hk.kept _ m7).trans h7) rfl rfl),vY m7 _ rfl⟩) ?_
   rw[hd];suffices rest:∀T:Array Value,T.size=12->T[8]?=some (.chan (some cL))->(∀j,j≠7->j≠8->T[j]?=t[j]?)->
    Walk Tryz.prog false (pW (Pm.mk Tryz.prog n N0 cL cN eU val End) (r+1)) M (rg 124 T (.inRegion qC [1]:: .inBlock 1:: .code (.region 3 qD false):: .inLoop pS:: .inBlock 0:: [.code (.region 4 qE false)]) [] .deferred [dp Tryz.prog]) w from
    rest _ (by simp[ay,hs]) (eM (by simp[ay];omega)) (fun j h1 h2=>(bL (Ne.symm h2)).trans (bL (Ne.symm h1)))
   intro T MI hT8 hTo;obtain⟨o,ho,ab,hd,hg⟩:=Z5;obtain⟨i,hi,hz⟩:=agb;refine .stop fun aa hk=>⟨rfl,rfl,⟨.bool false,FG ho (cf hg) rfl (PB T aa ab (cJ hT8) hu hi hz)⟩,?_⟩
   have D1:Ad2 (rg 124 T (.inRegion qC [1]:: .inBlock 1:: .code (.region 3 qD false):: .inLoop pS:: .inBlock 0:: [.code (.region 4 qE false)]) [] .deferred [dp Tryz.prog]) (recvd false (.bool true) true)=
    rg 124 (T.setIfInBounds 9 (.bool true)) (.inRegion qC []:: .inBlock 1:: .code (.region 3 qD false):: .inLoop pS:: .inBlock 0:: [.code (.region 4 qE false)]) [] .deferred [dp Tryz.prog]:=by
    simp[Ad2,Frame.finish,ho,hd,recvd]
   show Walk Tryz.prog false (pW (Pm.mk Tryz.prog n N0 cL cN eU val End) r) M (Ad2 (rg 124 T (.inRegion qC [1]:: .inBlock 1:: .code (.region 3 qD false):: .inLoop pS:: .inBlock 0:: [.code (.region 4 qE false)]) [] .deferred [dp Tryz.prog]) (recvd false (.bool true) true)) aa;rw[D1];refine Walk.rely ?_ hk
   refine iA (Qn (gH ?_))
   rw[zD];obtain⟨o,ho,ab,hd,hg⟩:=Z6;have hU:∀j,j≠7->j≠8->j≠9->(T.setIfInBounds 9 (.bool true))[j]?=t[j]?:=fun j h1 h2 h3=>(bL (Ne.symm h3)).trans (hTo j h1 h2)
   refine du ho (cf hg) rfl (fun aa _=>⟨_,WL _ aa ab (cJ ((hU 6 (by omega) (by omega) (by omega)).trans t6)) rfl,eo⟩) ?_
   rw[hd];obtain⟨o,ho,ab,hd,hg⟩:=Z7;refine du ho (cf hg) rfl (fun aa _=>⟨_,run_move _ aa ab,eo⟩) ?_
   rw[hd];refine iA (Qo ?_)
   have hw:Ack.wrap ((n:Int) - ((r+1:Nat):Int)+1)=(n:Int) - r:=by rw[wrap_small (by omega) (by omega)];omega
   rw[hw];have N7:(T.setIfInBounds 9 (.bool true)).size=12:=by simp[MI]
   refine ih _ (by omega) (by simp[ay,MI]) ?_ ?_ ?_ ?_
   ·exact(bL (by omega)).trans ((bL (by omega)).trans ((hU 1 (by omega) (by omega) (by omega)).trans t1))
   ·exact(bL (by omega)).trans ((bL (by omega)).trans ((hU 2 (by omega) (by omega) (by omega)).trans t2))
   ·exact(bL (by omega)).trans ((bL (by omega)).trans ((hU 5 (by omega) (by omega) (by omega)).trans t5))
   ·refine(eM (by simp[ay,MI])).trans ?_
    exact congrArg some (cJ (eM (by omega)))
theorem aiM:(Tryz.f124.name== "runtime.NumGoroutine")=false:=by decide+kernel
theorem closer{M:aaa}{w:Aa4}{bk p6 p7:Nat}{e6 e7 eb:Aa1}{f6 f7 fb:Nat×Nat}{bc:Array Value}{A:Option Addr}{c:Nat}(mb:M.has bk)(m6:M.has p6)(m7:M.has p7)(hb:w.heap[bk]?=some (.cells bc eb fb))(hc:bc[2]?=some (.slice A n c))
 (h6:w.heap[p6]?=some (.cells #[.chan (some cN)] e6 f6))(h7:w.heap[p7]?=some (.cells #[.chan (some cL)] e7 f7))(hn:n<2 ^ 61):
 Walk Tryz.prog false (pW (Pm.mk Tryz.prog n N0 cL cN eU val End) n) M (born Tryz.prog {target:=.fn (.func 124) #[.pointer (some ⟨bk,0,none⟩),.pointer (some ⟨p7,0,none⟩),.pointer (some ⟨p6,0,none⟩)],args:=#[]}) w:=by
 refine Ya Tryz.func124 Sa (fun aa=>CK Tryz.func124 Sa aiM _ aa) ?_
 have ht:((#[]++#[.pointer (some ⟨bk,0,none⟩),.pointer (some ⟨p7,0,none⟩),.pointer (some ⟨p6,0,none⟩)])++Aeo (Tryz.f124.ntmps - (#[]++#[.pointer (some ⟨bk,0,none⟩),.pointer (some ⟨p7,0,none⟩),.pointer (some ⟨p6,0,none⟩)]:Array Value).size) undef:Array Value)=
  #[.pointer (some ⟨bk,0,none⟩),.pointer (some ⟨p7,0,none⟩),.pointer (some ⟨p6,0,none⟩),undef,undef,undef,undef,undef,undef,undef,undef,undef]:=rfl
 rw[ht];generalize hT:(#[.pointer (some ⟨bk,0,none⟩),.pointer (some ⟨p7,0,none⟩),.pointer (some ⟨p6,0,none⟩),undef,undef,undef,undef,undef,undef,undef,undef,undef]:Array Value)=t;have hs:t.size=12:=by rw[<-hT];rfl
 have t0:t[0]?=some (.pointer (some ⟨bk,0,none⟩)):=by rw[<-hT];rfl
 have t1:t[1]?=some (.pointer (some ⟨p7,0,none⟩)):=by rw[<-hT];rfl
 have t2:t[2]?=some (.pointer (some ⟨p6,0,none⟩)):=by rw[<-hT];rfl
 clear hT ht;refine fF (fF (gH ?_))
 rw[zA];obtain⟨o,ho,ab,hd,hg⟩:=Z0;obtain⟨fs,fd,fi,hu,hf,NT,hi,aI⟩:=XU;refine du ho (cf hg) rfl (fun aa _=>⟨_,WN t aa ab (cJ t0) hu hf hi aI,eo⟩) ?_
 rw[hd,NT];obtain⟨o,ho,ab,hd,hg⟩:=cA1;obtain⟨e,D7⟩:=XT;refine du ho (cf hg) rfl (fun aa hk=>⟨_,v8 _ aa ab (cJ (eM (by omega))) D7 rfl (lL ((hk.kept _ mb).trans hb) rfl hc),vY mb _ rfl⟩) ?_
 rw[hd];obtain⟨o,ho,ab,hd,hg⟩:=cA2;refine du ho (cf hg) rfl (fun aa _=>⟨_,WQ _ aa ab (cJ (eM (by simp[ay];omega))) D7,eo⟩) ?_
 rw[hd];obtain⟨o,ho,ab,hd,hg⟩:=Z3;refine du ho (cf hg) rfl (fun aa _=>⟨_,run_move _ aa ab,eo⟩) ?_
 rw[hd];refine iA (BL (Qp ?_))
 refine aaR m6 m7 h6 h7 hn n _ (Ac2 _) (by simp[ay,hs]) ?_ ?_ ?_ ?_
 ·exact(bL (by omega)).trans ((bL (by omega)).trans ((bL (by omega)).trans ((bL (by omega)).trans t1)))
 ·exact(bL (by omega)).trans ((bL (by omega)).trans ((bL (by omega)).trans ((bL (by omega)).trans t2)))
 ·exact(bL (by omega)).trans ((eM (by simp[ay];omega)).trans rfl)
 ·refine(eM (by simp[ay];omega)).trans ?_
  have:(n:Int) - n=0:=by omega
  rw[this];rfl
end
end Go.Jn
namespace Go.Jn
open Go Go.Proofs Go.Sim Go.Conc
set_option maxRecDepth 100000
noncomputable def yN:Array Oper:=opsOf ((Tryz.f121.body).getD .skip)
theorem R9:Tryz.f121.body=some (.region 0 yN false):=rfl
theorem ZV:∃o,yN[0]?=some o/\o.op=.load 155 (.tmp 0)/\o.dst=some 1/\o.guard=none:=⟨_,rfl,rfl,rfl,rfl⟩
theorem ZW:∃o,yN[1]?=some o/\o.op=.send (.tmp 1) (.const (.bool true))/\o.dst=none/\o.guard=none:=⟨_,rfl,rfl,rfl,rfl⟩
theorem ann:yN.size=2:=rfl
theorem aiL:(Tryz.f121.name== "runtime.NumGoroutine")=false:=by decide+kernel
theorem alS{P:Aa6}{main:Bool}{g f:FuncId}{t eQ:Array Value}{k:List Item}{D:List Deferred}{kd:CallKind}{cs:List Frame}{fn:Func}{c:Code}(hf:P.funcs[f]?=some fn)(hb:fn.body=some c){aa:Aa4}(hr:(callFunc f (#[]++eQ)).runT P aa #[]=(.ok (.enter f (#[]++eQ)) aa,#[])):
 stepG P main (aO ⟨g,t,k,{target:=.fn (.func f) eQ,args:=#[]}::D,.returning,kd,none⟩ cs) aa=.go (rg f ((#[]++eQ)++Aeo (fn.ntmps - (#[]++eQ:Array Value).size) undef) [.code c] [] .deferred (⟨g,t,k,D,.returning,kd,none⟩::cs)) aa #[]:=by
 have hi:invoke (.fn (.func f) eQ) #[]=callFunc f (#[]++eQ):=rfl;have e:callDeferred P ⟨g,t,k,D,.returning,kd,none⟩ cs none {target:=.fn (.func f) eQ,args:=#[]} aa=.go (aO (Frame.enter P f (#[]++eQ) .deferred) (⟨g,t,k,D,.returning,kd,none⟩::cs)) aa #[]:=by
  unfold callDeferred;simp only[hi,hr,ud,GStep.after,Bool.false_and,Bool.false_eq_true,if_false];rfl
 exact e.trans (by rw[zQ hf hb])
theorem alO{P:Aa6}{f g:FuncId}{t t':Array Value}{k k':List Item}{kd:CallKind}{cs:List Frame}{fn:Func}(hf:P.funcs[f]?=some fn)(hr:fn.results=#[])(aa:Aa4):
 stepG P false (aO ⟨f,t,k,[],.returning,.deferred,none⟩ (⟨g,t',k',[],.returning,kd,none⟩::cs)) aa=.go (aO ⟨g,t',k',[],.returning,kd,none⟩ cs) aa #[]:=by
 have e:unwind P false ⟨f,t,k,[],.returning,.deferred,none⟩ (⟨g,t',k',[],.returning,kd,none⟩::cs) none aa=.go (aO ⟨g,t',k',[],.returning,kd,none⟩ cs) aa #[]:=by
  unfold unwind;simp only[hf,results_none hr,ud,GStep.after,doReturn];rfl
 exact e
section
variable {n N0 cL cN:Nat}{eU:Nat->Bool}{val:Nat->Value}{End:List Nat->aaa->Abe->Aa4->Prop}
theorem am8{M:aaa}{w:Aa4}{p7:Nat}{e7:Aa1}{f7:Nat×Nat}(m7:M.has p7)(h7:w.heap[p7]?=some (.cells #[.chan (some cL)] e7 f7)){t:Array Value}{k:List Item}(aft:Tryz.f120.results=#[]):
 Walk Tryz.prog false (W2 (Pm.mk Tryz.prog n N0 cL cN eU val End)) M (aO ⟨120,t,k,[{target:=.fn (.func 121) #[.pointer (some ⟨p7,0,none⟩)],args:=#[]}],.returning,.deferred,none⟩ [dp Tryz.prog]) w:=by
 refine kM rfl (fun aa=>alS Tryz.func121 R9 (CK Tryz.func121 R9 aiL _ aa)) ?_
 have ht:((#[]++#[.pointer (some ⟨p7,0,none⟩)])++Aeo (Tryz.f121.ntmps - (#[]++#[.pointer (some ⟨p7,0,none⟩)]:Array Value).size) undef:Array Value)=#[.pointer (some ⟨p7,0,none⟩),undef]:=rfl;rw[ht];refine gH ?_
 rw[ann];obtain⟨o,ho,ab,hd,hg⟩:=ZV;obtain⟨dir,hu⟩:=Qi;refine du ho (cf hg) rfl (fun aa hk=>⟨_,v8 _ aa ab (v:=.chan (some cL)) (a:=⟨p7,0,none⟩) rfl hu rfl (lL ((hk.kept _ m7).trans h7) rfl rfl),vY m7 _ rfl⟩) ?_
 rw[hd];obtain⟨o,ho,ab,hd,hg⟩:=ZW;refine .stop fun aa _=>⟨rfl,rfl,⟨.tuple #[],FG ho (cf hg) rfl (WV _ aa ab rfl)⟩,5,?_⟩
 have D1:Ad2 (rg 121 #[.pointer (some ⟨p7,0,none⟩),.chan (some cL)] [.inRegion yN [1]] [] .deferred [⟨120,t,k,[],.returning,.deferred,none⟩,dp Tryz.prog]) undef=
  rg 121 #[.pointer (some ⟨p7,0,none⟩),.chan (some cL)] [.inRegion yN []] [] .deferred [⟨120,t,k,[],.returning,.deferred,none⟩,dp Tryz.prog]:=by
  simp[Ad2,Frame.finish,ho,hd]
 show QuitsIn Tryz.prog 5 (Ad2 (rg 121 #[.pointer (some ⟨p7,0,none⟩),.chan (some cL)] [.inRegion yN [1]] [] .deferred [⟨120,t,k,[],.returning,.deferred,none⟩,dp Tryz.prog]) undef);rw[D1];refine .inr ⟨rfl,rg 121 #[.pointer (some ⟨p7,0,none⟩),.chan (some cL)] [] [] .deferred [⟨120,t,k,[],.returning,.deferred,none⟩,dp Tryz.prog],fun aa=>by simp[stepG,stepG.exec],?_⟩
 refine .inr ⟨rfl,aO ⟨121,#[.pointer (some ⟨p7,0,none⟩),.chan (some cL)],[],[],.returning,.deferred,none⟩ [⟨120,t,k,[],.returning,.deferred,none⟩,dp Tryz.prog],fun aa=>by simp[stepG,stepG.exec],?_⟩
 exact .inr ⟨rfl,_,fun aa=>alO Tryz.func121 rfl aa,WD Tryz.func120 aft⟩
noncomputable def Cy:Code:=(Tryz.f120.body).getD .skip
noncomputable def IN:Array Oper:=opsOf (bO Cy)
noncomputable def pz:Array Oper:=opsOf (a8 (a8 (a8 Cy)))
noncomputable def ur:Code:=bO (a8 Cy)
noncomputable def sL:Code:=bO (a8 (a8 Cy))
theorem R8:Tryz.f120.body=some (.seq (.region 0 IN false) (.seq ur (.seq sL (.region 3 pz false)))):=rfl
theorem ZQ:∃o,IN[0]?=some o/\o.op=.makeFunc (.func 121) #[] #[.tmp 0]/\o.dst=some 6/\o.guard=none:=⟨_,rfl,rfl,rfl,rfl⟩
theorem ZR:∃o,IN[1]?=some o/\o.op=.defer {callee:=.value (.tmp 6),args:=#[],argTypes:=#[]}/\o.dst=none/\o.guard=none:=⟨_,rfl,rfl,rfl,rfl⟩
theorem ZS:∃o,pz[0]?=some o/\o.op=.load 154 (.tmp 3)/\o.dst=some 16/\o.guard=none:=⟨_,rfl,rfl,rfl,rfl⟩
theorem ZT:∃o,pz[1]?=some o/\o.op=.load 3 (.tmp 2)/\o.dst=some 17/\o.guard=none:=⟨_,rfl,rfl,rfl,rfl⟩
theorem ZU:∃o,pz[2]?=some o/\o.op=.send (.tmp 16) (.tmp 17)/\o.dst=none/\o.guard=none:=⟨_,rfl,rfl,rfl,rfl⟩
theorem ano:IN.size=2:=rfl
theorem anp:pz.size=3:=rfl
theorem ty3:Tryz.prog.underlying 3=some (.int .i64):=rfl
theorem aiK:(Tryz.f120.name== "runtime.NumGoroutine")=false:=by decide+kernel
theorem am9{Stop:aaa->Abe->Aa4->Prop}{M:aaa}{w:Aa4}{bk p6 p7 pk:Nat}
 (h:∀t:Array Value,t.size=18->t[0]?=some (.pointer (some ⟨p7,0,none⟩))->t[1]?=some (.pointer (some ⟨bk,0,none⟩))->t[2]?=some (.pointer (some ⟨pk,0,none⟩))->t[3]?=some (.pointer (some ⟨p6,0,none⟩))->
   t[6]?=some (.func (.func 121) #[] #[.pointer (some ⟨p7,0,none⟩)])->(∀j,4<=j->j<18->j≠6->t[j]?=some undef)->
   Walk Tryz.prog false Stop M (rg 120 t [.code (.seq ur (.seq sL (.region 3 pz false)))] [{target:=.fn (.func 121) #[.pointer (some ⟨p7,0,none⟩)],args:=#[]}] .deferred [dp Tryz.prog]) w):
 Walk Tryz.prog false Stop M (born Tryz.prog {target:=.fn (.func 120) #[.pointer (some ⟨p7,0,none⟩),.pointer (some ⟨bk,0,none⟩),.pointer (some ⟨pk,0,none⟩),.pointer (some ⟨p6,0,none⟩)],args:=#[]}) w:=by
 refine Ya Tryz.func120 R8 (fun aa=>CK Tryz.func120 R8 aiK _ aa) ?_
 have hn:Tryz.f120.ntmps=18:=rfl;have ht:∀a b c d:Value,((#[]++#[a,b,c,d])++Aeo (18 - (#[]++#[a,b,c,d]:Array Value).size) undef:Array Value)=#[a,b,c,d,undef,undef,undef,undef,undef,undef,undef,undef,undef,undef,undef,undef,undef,undef]:=fun _ _ _ _=>by simp[Aeo]
 rw[hn];rw[ht];generalize hT:(#[.pointer (some ⟨p7,0,none⟩),.pointer (some ⟨bk,0,none⟩),.pointer (some ⟨pk,0,none⟩),.pointer (some ⟨p6,0,none⟩),undef,undef,undef,undef,undef,undef,undef,undef,undef,undef,undef,undef,undef,undef]:Array Value)=T;have hs:T.size=18:=by rw[<-hT];rfl
 have t0:T[0]?=some (.pointer (some ⟨p7,0,none⟩)):=by rw[<-hT];rfl
 have t1:T[1]?=some (.pointer (some ⟨bk,0,none⟩)):=by rw[<-hT];rfl
 have t2:T[2]?=some (.pointer (some ⟨pk,0,none⟩)):=by rw[<-hT];rfl
 have t3:T[3]?=some (.pointer (some ⟨p6,0,none⟩)):=by rw[<-hT];rfl
 have tu:∀j,4<=j->j<18->T[j]?=some undef:=by
  intro j h4 GV;have:j=4\/j=5\/j=6\/j=7\/j=8\/j=9\/j=10\/j=11\/j=12\/j=13\/j=14\/j=15\/j=16\/j=17:=by omega
  rw[<-hT];rcases this with rfl|rfl|rfl|rfl|rfl|rfl|rfl|rfl|rfl|rfl|rfl|rfl|rfl|rfl<;>rfl
 clear hT ht;refine fF (gH ?_)
 rw[ano];obtain⟨o,ho,ab,hd,hg⟩:=ZQ;have hv:(#[Operand.tmp 0].map (aS T))=#[.pointer (some ⟨p7,0,none⟩)]:=by
  have:aS T (.tmp 0)=.pointer (some ⟨p7,0,none⟩):=cJ t0;simp only[List.map_toArray,List.map_cons,List.map_nil,this]
 refine du ho (cf hg) rfl (fun aa _=>⟨_,(Pz T aa ab).trans (by rw[hv]),eo⟩) ?_
 rw[hd];obtain⟨o,ho,ab,hd,hg⟩:=ZR;refine amZ ho (cf hg) rfl (d:={target:=.fn (.func 121) #[.pointer (some ⟨p7,0,none⟩)],args:=#[]}) (fun aa=>akt _ aa ab (ib (by omega))) ?_
 rw[hd];refine iA (h _ ?_ ?_ ?_ ?_ ?_ ?_ ?_)
 ·simp[ay,hs]
 ·exact(bL (by omega)).trans t0
 ·exact(bL (by omega)).trans t1
 ·exact(bL (by omega)).trans t2
 ·exact(bL (by omega)).trans t3
 ·exact eM (by omega)
 ·exact fun j h4 GV h6=>(bL (Ne.symm h6)).trans (tu j h4 GV)
end
end Go.Jn
namespace Go.Sim
open Go
theorem Th{α σ:Type}{f:α->σ->Option (ForInStep σ)}(I:σ->Prop)(hf:∀x s r,I s->f x s=some r->I r.value):∀(l:List α) (s s':σ),I s->forIn l s f=some s'->I s'
 | [],s,s',hs,h=>by
   simp only[List.forIn_nil] at h;cases h;exact hs
 |x::l,s,s',hs,h=>by
  rw[List.forIn_cons] at h;simp only[bind,Ags] at h;obtain⟨r,h1,h2⟩:=h;have hr:=hf x s r hs h1;cases r with
  |done b=>cases h2;exact hr
  |yield b=>exact Th I hf l b s' hr h2
def Rr(z:Option (Array Value)):Prop:=∀c,z=some c->aP (fun _ _=>False) c c
theorem ajR{info:Aa1->Option Afz}(hi:∀t i v,info t=some i->i.zero=some v->Flat v){fs:Array Field}{i:Afz}(h:Made.reckonStruct info fs=some i){v:Value}(hv:i.zero=some v):Flat v:=by
 unfold Made.reckonStruct at h;simp only[bind,Ags] at h;obtain⟨r,h1,h2⟩:=h;have inv:Rr r.2.2.2.2.2.2.2.1:=by
  rw[<-Array.forIn_toList] at h1;refine Th (fun s=>Rr s.2.2.2.2.2.2.2.1) ?_ _ _ _ ?_ h1
  ·intro x s r hs h
   simp only[Ags] at h;obtain⟨j,hj,h⟩:=h;have key:r.value.2.2.2.2.2.2.2.1=(if s.2.1+j.size>Made.mostCells then none else s.2.2.2.2.2.2.2.1.bind fun a=>j.zero.bind fun b=>some (a++b.cells)):=by
    by_cases e1:j.str.isEmpty=true
    ·simp[e1] at h
    by_cases e2:x.embedded=true
    ·simp[e1,e2] at h
    by_cases e3:x.tag.isEmpty=true<;>by_cases e4:j.bytes=0<;>simp only[e1,e2,e3,e4,if_true,if_false,Ags,pure,Ac6,Bool.false_eq_true] at h<;>obtain⟨tag,ht,rfl⟩:=h<;>rfl
   intro c hc;rw[key] at hc;split at hc
   ·exact absurd hc (by simp)
   ·simp only[Ags] at hc
    obtain⟨a,ha,b,hb,hc⟩:=hc;cases hc;exact(hs a ha).append (ah.cells (hi _ _ _ hj hb))
  ·intro c hc;cases hc;exact .empty
 have hz:i.zero=Option.map Value.agg r.2.2.2.2.2.2.2.1:=by
  split at h2<;>cases h2<;>rfl
 rw[hz] at hv;cases hr:r.2.2.2.2.2.2.2.1 with
 |none=>rw[hr] at hv;exact absurd hv (by simp)
 |some c=>rw[hr] at hv;cases hv;exact .uF (inv c hr)
theorem aj8{c:Array Value}(h:aP (fun _ _=>False) c c):∀n:Nat,aP (fun _ _=>False) (Aeo n c).flatten (Aeo n c).flatten:=by
 intro n;refine bU.refl fun a ha=>?_
 simp only[Array.mem_flatten,Array.mem_replicate] at ha;obtain⟨x,⟨_,rfl⟩,hx⟩:=ha;obtain⟨i,hi,rfl⟩:=Array.mem_iff_getElem.1 hx;exact h.2 i hi hi
theorem ajS{info:Aa1->Option Afz}(hi:∀t i v,info t=some i->i.zero=some v->Flat v){d:TypeDesc}{i:Afz}(h:Made.reckon info d=some i){v:Value}(hv:i.zero=some v):Flat v:=by
 unfold Made.reckon at h;split at h
 ·simp only[bind,Ags] at h
  obtain⟨j,h1,h2⟩:=h;split at h2
  ·exact absurd h2 (by simp)
  ·split at h2
   ·exact absurd h2 (by simp)
   ·simp only[Ags,pure,Ac6] at h2
    obtain⟨_,_,rfl⟩:=h2;cases hv;exact .ptrNone
  ·simp only[Ags,pure,Ac6] at h2
   obtain⟨_,_,rfl⟩:=h2;cases hv;exact .ptrNone
 ·simp only[bind,Ags,pure,Ac6] at h
  obtain⟨_,_,_,_,rfl⟩:=h;cases hv;exact .sliceNone _ _
 ·simp only[bind,Ags,pure,Ac6] at h
  obtain⟨_,_,_,_,_,_,_,_,rfl⟩:=h;cases hv;exact .mapNone
 ·simp only[bind,Ags,pure,Ac6] at h
  obtain⟨_,_,_,_,rfl⟩:=h;cases hv;exact .chanNone
 ·simp only[bind,Ags,pure,Ac6] at h
  obtain⟨_,_,rfl⟩:=h;cases hv;exact .nilFunc
 ·simp only[bind,Ags,pure,Ac6] at h
  obtain⟨j,hj,_,_,rfl⟩:=h;simp only at hv;split at hv
  ·exact absurd hv (by simp)
  ·split at hv
   ·cases hv;exact .uF .empty
   ·cases hz:j.zero with
    |none=>rw[hz] at hv;exact absurd hv (by simp)
    |some z=>rw[hz] at hv;cases hv;exact .uF (aj8 (ah.cells (hi _ _ _ hj hz)) _)
 ·exact ajR hi h hv
 ·exact absurd h (by simp)
theorem VF{T:Tables}(h0:∀(t:Nat) (i:Afz) (v:Value),T.types[t]?=some i->i.zero=some v->Flat v):∀(f:Nat) (t:Aa1) (i:Afz) (v:Value),Made.infoAt T f t=some i->i.zero=some v->Flat v
 |0,_,_,_,h,_=>absurd h (by simp[Made.infoAt])
 |f+1,t,i,v,h,hv=>by
  unfold Made.infoAt at h;split at h
  ·exact h0 _ _ _ h hv
  ·simp only[Ags] at h
   obtain⟨d,_,h2⟩:=h;exact ajS (VF h0 f) h2 hv
theorem agf{P:Aa6}(h0:∀(t:Nat) (i:Afz) (v:Value),P.types[t]?=some i->i.zero=some v->Flat v):oe P where
 zero t i v h hv:=by
  have h':(if t<P.types.size then P.types[t]? else Made.infoAt P.toTables Made.depth t)=some i:=h
  split at h'
  ·exact h0 _ _ _ h' hv
  ·exact VF (T:=P.toTables) h0 _ _ _ _ h' hv
end Go.Sim
namespace Go.Jn
open Go Go.Proofs Go.Sim
def G0:Nat->Bool:=fun g=>g==0
def Sb(P:Aa6)(fn:Func):Bool:=match fn.body with
 |some c=>cr P G0 c && !(fn.name== "runtime.NumGoroutine") && (readies c).isEmpty
 |none=>false
def okB(P:Aa6)(i:Nat):Bool:=Tw.vH i||match P.funcs[i]? with
 |some fn=>Sb P fn
 |none=>false
set_option maxRecDepth 100000
def nF:Nat:=241
theorem ajb:(Af9 nF).all (okB Tryz.prog)=true:=by decide+kernel
theorem few:Tryz.prog.funcs.size=nF:=by decide+kernel
def QA(i:Afz):Bool:=match i.zero with
 |some v=>kF 10 v
 |none=>true
theorem anr:Tryz.prog.types.all QA=true:=by decide+kernel
theorem Mg:Tryz.prog.follows .staticDataAhead=true:=by decide+kernel
theorem GG:QS Tw.dead where
 name:=by decide+kernel
 body:=rfl
 next:=by decide+kernel
 row:=by decide+kernel
 init:=by decide+kernel
end Go.Jn
namespace Go.Jn
open Go Go.Proofs Go.Sim
theorem Qf(P:Aa6)(F:Array Func):∀(d:Nat) (t:Aa1),gK (tw P F) d t=gK P d t
 |0,_=>rfl
 |d+1,t=>by
  unfold gK;have e:gK (tw P F) d=gK P d:=funext fun t=>Qf P F d t
  rw[ly,jH,e]
theorem XN(P:Aa6)(F:Array Func)(G:Nat->Bool):∀c:Code,cr (tw P F) G c=cr P G c:=by
 have e0:CR (tw P F)=CR P:=funext fun t=>by unfold CR;rw[Qf,Jk,BF]
 have e1:zK (tw P F)=zK P:=funext fun t=>by unfold zK;rw[jH]
 have e2:zO (tw P F)=zO P:=funext fun s=>funext fun d=>by unfold zO;rw[jH,jH,e1]
 have e3:CV (tw P F)=CV P:=funext fun s=>funext fun i=>by
  unfold CV;rw[jH]
  have:(tw P F).info? = P.info? :=funext fun t=>ly P F t
  simp only[this]
 have e4:yG (tw P F)=yG P:=funext fun t=>by
  unfold yG;rw[jH]
  have:gK (tw P F) 20=gK P 20:=funext fun t=>Qf P F _ t
  simp only[this]
 have e5:EH (tw P F)=EH P:=funext fun t=>by
  unfold EH;have:(tw P F).underlying=P.underlying:=funext fun t=>jH P F t
  simp only[this]
 have e6:uL (tw P F)=uL P:=funext fun ts=>funext fun n=>funext fun b=>by unfold uL;rw[e5]
 have e7:iO (tw P F)=iO P:=funext fun o=>by unfold iO;rw[e0,e2,e3,e4,e6]
 have e8:j7 (tw P F) G=j7 P G:=funext fun o=>by unfold j7;rw[e7]
 intro c;induction c with
 |region id ops d=>simp only[cr,e8]
 |seq a b El Em=>simp only[cr,El,Em]
 |cond c a b El Em=>simp only[cr,El,Em]
 |block n b ih=>simp only[cr,ih]
 |loop b ih=>simp only[cr,ih]
 |scope b ih=>simp only[cr,ih]
 |rangeFunc f ps a b El Em=>simp only[cr,El,Em]
 |_=>simp only[cr]
def okF(f:Nat):Bool:=decide (f<nF) && !Tw.vH f
def self(P:Aa6)(F:Array Func):Aa6:={P with funcs:=F}
theorem Qh(P:Aa6)(F:Array Func):tw (self P F) F=tw P F:=rfl
theorem Xf(P:Aa6)(F:Array Func):(self P F).funcs=F:=rfl
theorem Xe(P:Aa6)(F:Array Func)(G:Nat->Bool)(c:Code):cr (self P F) G c=cr P G c:=by
 rw[<-XN (self P F) F G c,Qh,XN]
theorem ale(P:Aa6)(F:Array Func)(t:Aa1):(self P F).info? t= P.info? t:=by
 rw[<-ly (self P F) F t,Qh,ly]
theorem Qg(P:Aa6)(F:Array Func):(tw P F).follows .staticDataAhead=P.follows .staticDataAhead:=rfl
theorem sG:oe Tryz.prog:=agf fun t i v h hv=>by
 have hz:QA i=true:=by
  have:=anr;rw[Array.all_eq_true_iff_forall_mem] at this;exact this i (Array.mem_of_getElem? h)
 unfold QA at hz;rw[hv] at hz
 exact Tb 10 hz
@[reducible] noncomputable def iQ:Tw.aR:=⟨Tw.dead⟩
def kg:Array Oper:=#[⟨some 1,.assign (.const (.bool true)),4,"",#[],none⟩,⟨none,.extract (.const (.bool true)) 0,4,"",#[],some (0,true)⟩,⟨some 0,.assign (.const (.bool true)),4,"",#[],none⟩]
noncomputable def stub:Func:={Tryz.f21 with body:=some (.seq (.region 0 kg false) .ret),ntmps:=1,results:=#[.tmp 0]}
@[reducible] noncomputable def jg:Tw.aR:=⟨stub⟩
section
variable [Tw.aR]
theorem IC{f:Nat}(h:okF f=true):∃fn c,Tryz.prog.funcs[f]?=some fn/\Tw.F[f]?=some fn/\fn.body=some c/\cr Tryz.prog G0 c=true/\(fn.name== "runtime.NumGoroutine")=false/\readies c=[]:=by
 unfold okF at h;simp only[Aax,decide_eq_true_eq,Afy] at h;have h1:=ajb;rw[List.all_eq_true] at h1;have h2:=h1 f (List.mem_range.2 h.1);unfold okB at h2;rw[h.2,Bool.false_or] at h2;cases e:Tryz.prog.funcs[f]? with
 |none=>rw[e] at h2;exact absurd h2 (by simp)
 |some fn=>
  rw[e] at h2;simp only[Sb] at h2;cases eb:fn.body with
  |none=>rw[eb] at h2;exact absurd h2 (by simp)
  |some c=>
   rw[eb] at h2;simp only[Aax,Afy,List.isEmpty_iff] at h2;exact⟨fn,c,rfl,(Tw.QU f h.2).trans e,eb,h2.1.1,h2.1.2,h2.2⟩
theorem Yt:Tw.F.size=nF:=by
 unfold Tw.F;rw[Array.size_setIfInBounds,Array.size_mapIdx,few]
theorem Cd(f:Nat):okF f=true\/f=21\/Tw.F[f]?=none\/Tw.F[f]?=some Tw.dead:=by
 by_cases h:okF f=true
 ·exact .inl h
 by_cases rC:f=21
 ·exact .inr (.inl rC)
 right;right
 by_cases hn:f<nF
 ·have:Tw.vH f=true:=by
   unfold okF at h;simp only[Aax,decide_eq_true_eq,Afy,not_and,Bool.not_eq_false] at h;exact h hn
  exact Tw.Ys f this (Ne.symm rC)
 ·left;exact Array.getElem?_eq_none (by rw[Yt];omega)
theorem Wi(hs:∀c,Tw.aR.I7.body=some c->readies c=[])(g:Nat):Tw.prog.stepOf g=none:=by
 unfold Program.stepOf;rw[Tw.Pe,Array.findIdx?_eq_none_iff]
 intro fn Du;obtain⟨f,hf⟩:=Array.getElem?_of_mem Du
 rcases Cd f with h|rfl|h|h
 ·obtain⟨fn',c,_,h1,h2,_,_,h3⟩:=IC h
  rw[hf] at h1;cases h1
  rw[h2];simp[h3]
 ·rw[Tw.zh] at hf;cases hf
  cases e:Tw.aR.I7.body with
  |none=>rfl
  |some c=>simp[hs c e]
 ·rw[hf] at h;exact absurd h (by simp)
 ·rw[hf] at h;cases h;rfl
end
def C0:bQ:=⟨okF,fun _=>false,fun c=>cr Tryz.prog G0 c=true⟩
theorem GJ:Env Tryz.prog (@Tw.F iQ) C0 G0 where
 sG:=sG
 clean _:=Iff.rfl
 get f h:=by letI:=iQ;obtain⟨fn,c,h1,h2,h3,h4,h5,_⟩:=IC h;exact⟨fn,c,h2,h1,h3,h4,h5⟩
 dead f h _:=by
  letI:=iQ
  rcases Cd f with k|rfl|k|k
  ·rw[show okF f=false from h] at k;exact absurd k (by simp)
  ·exact .inr ⟨_,Tw.zh,GG⟩
  ·exact .inl k
  ·exact .inr ⟨_,k,GG⟩
 DT f h:=absurd h (by simp[C0])
 ahead:=(Qg _ _).trans Mg
 steps:=by letI:=iQ;exact Wi fun c h=>absurd h (by show Tw.dead.body≠_;simp[Tw.dead])
def C1:bQ:=⟨okF,fun f=>f==21,fun c=>cr Tryz.prog G0 c=true⟩
def CA:bQ:=⟨fun f=>okF f||f==21,fun _=>false,fun c=>cr Tryz.prog G0 c=true⟩
noncomputable def PA:Aa6:=self Tryz.prog (@Tw.F jg)
theorem Ji:tw PA (@Tw.F jg)= @Tw.prog jg:=by unfold PA Tw.prog;exact Qh _ _
theorem Je:∃c,stub.body=some c/\cr Tryz.prog G0 c=true/\readies c=[]:=⟨_,rfl,by decide+kernel,rfl⟩
theorem P4:(stub.name== "runtime.NumGoroutine")=false:=by decide+kernel
theorem ak2:∃c,Tryz.f21.body=some c:=⟨_,rfl⟩
theorem ak5:(Tryz.f21.name== "runtime.NumGoroutine")=false:=by decide+kernel
theorem stepT(g:Nat):(@Tw.prog jg).stepOf g=none:=by
 letI:=jg
 refine Wi (fun c h=>?_) g
 obtain⟨c',h1,_,h2⟩:=Je;have:stub.body=some c:=h;rw[h1] at this;cases this;exact h2
theorem abO:Env Tryz.prog (@Tw.F jg) C1 G0 where
 sG:=sG
 clean _:=Iff.rfl
 get f h:=by letI:=jg;obtain⟨fn,c,h1,h2,h3,h4,h5,_⟩:=IC h;exact⟨fn,c,h2,h1,h3,h4,h5⟩
 dead f h h':=by
  letI:=jg
  rcases Cd f with k|rfl|k|k
  ·rw[show okF f=false from h] at k;exact absurd k (by simp)
  ·exact absurd h' (by decide)
  ·exact .inl k
  ·exact .inr ⟨_,k,GG⟩
 DT f h:=by
  have h:f=21:=by simpa [C1] using h
  subst h;obtain⟨c,h1,_⟩:=Je;obtain⟨c',h2⟩:=ak2;exact⟨stub,_,c,c',@Tw.zh jg,Tryz.func21,h1,h2,P4,ak5⟩
 ahead:=(Qg _ _).trans Mg
 steps:=stepT
theorem abN:Env PA (@Tw.F jg) CA G0 where
 sG:=⟨fun t i v h hv=>sG.zero t i v ((ale Tryz.prog _ t).symm.trans h) hv⟩
 clean c:=by show cr Tryz.prog G0 c=true↔cr PA G0 c=true;rw[show cr PA G0 c=cr Tryz.prog G0 c from Xe _ _ _ _]
 get f h:=by
  letI:=jg
  have hc:∀c,cr PA G0 c=cr Tryz.prog G0 c:=fun c=>Xe _ _ _ _
  have h:okF f=true\/f=21:=by simpa [CA] using h
  rcases h with h|rfl
  ·obtain⟨fn,c,h1,h2,h3,h4,h5,_⟩:=IC h;exact⟨fn,c,h2,(congrArg (·[f]?) (Xf _ _)).trans h2,h3,by rw[hc];exact h4,h5⟩
  ·obtain⟨c,h1,h2,_⟩:=Je
   exact⟨stub,c,Tw.zh,(congrArg (·[21]?) (Xf _ _)).trans Tw.zh,h1,by rw[hc];exact h2,P4⟩
 dead f h _:=by
  letI:=jg
  rcases Cd f with k|rfl|k|k
  ·simp[CA,k] at h
  ·exact absurd h (by decide)
  ·exact .inl k
  ·exact .inr ⟨_,k,GG⟩
 DT f h:=absurd h (by simp[CA])
 ahead:=by rw[Ji];exact(Qg _ _).trans Mg
 steps g:=by rw[Ji];exact stepT g
end Go.Jn
namespace Go.Jn
open Go Go.Proofs Go.Sim Go.Conc
set_option maxRecDepth 100000
theorem aaw:C0.clean ur:=by show cr Tryz.prog G0 ur=true;decide+kernel
theorem aax:C0.clean sL:=by show cr Tryz.prog G0 sL=true;decide+kernel
theorem Qd:tw Tryz.prog (@Tw.F iQ)= @Tw.prog iQ:=rfl
theorem piece{main:Bool}(S:Tl){M:aaa}{ρ:Ren}{f:FuncId}{c:Code}(hc:C0.clean c){a:Act}{t':Array Value}{w w':Aa4}(hk:(S.kind==.early)=false)
 (hd:a.defers=[cQ]){QL:Exit->Act->Aa4->Prop}
 (hl:∀T,c.wp (@Tw.prog iQ) (fun e bB aa=>(e=.normal/\bB.defers=[cQ]\/e=.ret)/\QL e bB aa) a (aZ w T))
 (hw:bV C0 ρ w w')(hg:ρ 0 0)(hf:Fits M ρ w)(gN:∀b,M.has b->b<w'.heap.size)(hn:bJ w.heap)(ht:aP ρ a.tmps t')
 {Stop:aaa->Abe->Aa4->Prop}
 (post:∀e bB aa bS aE eV aA,QL e bB aa->gX M ρ w w' bS aE aa aA->bV C0 aE aa aA->Fits bS aE aa->(∀b,bS.has b->b<aA.heap.size)->(∀g,G0 g=true->aE g g)->bJ aa.heap->aP aE bB.tmps eV->
   (e=.normal->bB.defers=[cQ]->Walk Tryz.prog main Stop bS (aO ⟨f,eV,S.items,S.defers,.run,S.kind,none⟩ S.callers) aA)/\
   (e=.ret->∀sH D',jJ S aE true bB.defers D'->Walk Tryz.prog main Stop bS (aO ⟨f,eV,sH,D',.returning,S.kind,none⟩ S.callers) aA)):
 Walk Tryz.prog main Stop M (aO ⟨f,t',.code c::S.items,S.defers,.run,S.kind,none⟩ S.callers) w':=by
 refine Walk.bind (amT GJ (fun _=>rfl) S hc hk hd (fun T=>by rw[Qd];exact hl T) hw (fun g oy=>?_) hf gN hn ht post) fun _ _ _ h=>h
 have:g=0:=by simpa [G0] using oy
 subst this;exact hg
end Go.Jn
namespace Go.Jn
open Go Go.Proofs Go.Sim Go.Conc
theorem akw{P:Aa6}{r:Nat}{w:Aa4}(h:w.heap[r]?=some (.deferred (some []))):(Instr.takeDeferred r).runT P w #[]=(.ok [] (jh w r (.deferred none)),#[⟨.obj r,false,false⟩,⟨.obj r,true,false⟩]):=by
 unfold Instr.takeDeferred;simp only[Go.getObj,Go.setObj,bind,Sem.bind,Sem.runT,h,pure,Array.push_eq_append];rfl
theorem abd{M:aaa}{w:Aa4}{r:Nat}{o:Obj}(hO:M.O r){es:Array Event}(rF:∀e∈es,e=⟨.obj r,false,false⟩\/e=⟨.obj r,true,false⟩):eO M w (jh w r o) es:=
 ⟨by rw[qS];exact Ac2 _,fun b _ hb=>wa (by rintro rfl;exact hb hO),rfl,rfl,rfl,fun e he=>by
   rcases rF e he with rfl|rfl
   ·exact .inl ⟨r,.inl rfl,rfl,.inl (.inl hO),fun h=>absurd h (by simp)⟩
   ·exact .inl ⟨r,.inl rfl,rfl,.inl (.inl hO),fun _=>.inl hO⟩⟩
theorem amY{P:Aa6}{main:Bool}{Stop:aaa->Abe->Aa4->Prop}{M:aaa}{w:Aa4}{f:FuncId}{t:Array Value}{k:List Item}{D:List Deferred}{x:Array Value}{kd:CallKind}{cs:List Frame}{r:Nat}(hO:M.O r)(hr:w.heap[r]?=some (.deferred (some [])))
 (h:∀aa,bN M w aa->Walk P main Stop M (aO ⟨f,t,k,D,.returning,kd,none⟩ cs) (jh aa r (.deferred none))):
 Walk P main Stop M (aO ⟨f,t,k,⟨.collected r,x⟩::D,.returning,kd,none⟩ cs) w:=by
 have aQ:∀aa,bN M w aa->stepG P main (aO ⟨f,t,k,⟨.collected r,x⟩::D,.returning,kd,none⟩ cs) aa=.go (aO ⟨f,t,k,D,.returning,kd,none⟩ cs) (jh aa r (.deferred none)) (seen P f #[⟨.obj r,false,false⟩,⟨.obj r,true,false⟩]):=by
  intro aa hk;have e:unwind P main ⟨f,t,k,⟨.collected r,x⟩::D,.returning,kd,none⟩ cs none aa=.go (aO ⟨f,t,k,D,.returning,kd,none⟩ cs) (jh aa r (.deferred none)) (seen P f #[⟨.obj r,false,false⟩,⟨.obj r,true,false⟩]):=by
   unfold unwind;simp only[akw ((hk.kept r (.inl hO)).trans hr),GStep.after,List.nil_append];simp
  exact e
 refine .step rfl (fun aa=>(aO ⟨f,t,k,D,.returning,kd,none⟩ cs,jh aa r (.deferred none),seen P f #[⟨.obj r,false,false⟩,⟨.obj r,true,false⟩])) (fun aa hk=>⟨aQ aa hk,abd hO fun e he=>?_⟩) fun aa hk=>?_
 ·have:=Sim.mem_seen he
  simp only[List.mem_toArray,Aef,List.not_mem_nil,or_false] at this;exact this
 ·show Walk P main Stop (M.grow aa (jh aa r (.deferred none))) _ _
  rw[GQ];exact h aa hk
end Go.Jn
namespace Go.Jn
open Go Go.Proofs Go.Sim Go.Conc
def chain:List Code->Code->Code
 | [],z=>z
 |c::cs,z=>.seq c (chain cs z)
def eX(P:Aa6):List Code->(Exit->Act->Aa4->Prop)->Act->Aa4->Prop
 | [],Q=>Q .normal
 |c::cs,Q=>c.wp P (Exit.then (eX P cs Q) Q)
theorem akr{P:Aa6}{z:Code}{Q:Exit->Act->Aa4->Prop}(hQ:∀e a w,Q e a w->e=.normal\/e=.ret)(b:Frame)(k:List Item)(fs:List Frame):
 ∀(cs:List Code) {a:Act} {w:Aa4},eX P cs Q a w->∃e bB aa,Q e bB aa/\
  (e=.normal/\Steps P (lone (b.at a (.code (chain cs z)::k)) fs w) (lone (b.at bB (.code z::k)) fs aa)\/
   e=.ret/\∃todo,Steps P (lone (b.at a (.code (chain cs z)::k)) fs w) (lone {b.at bB todo with mode:=.returning} fs aa)):=by
 intro cs;induction cs with
 |nil=>exact fun {a w} h=>⟨.normal,a,w,h,.inl ⟨rfl,⟨0,rfl⟩⟩⟩
 |cons c cs ih=>
  intro a w h;obtain⟨e,bB,aa,hq,Ag⟩:=h b (.code (chain cs z)::k) fs;have aQ:Steps P (lone (b.at a (.code (chain (c::cs) z)::k)) fs w) (lone (b.at a (.code c:: .code (chain cs z)::k)) fs w):=.one step_seq;cases e with
  |normal=>
   obtain⟨e2,a2,w2,tI,h2⟩:=ih hq;refine⟨e2,a2,w2,tI,?_⟩
   rcases h2 with⟨rfl,h2⟩ | ⟨rfl,todo,h2⟩
   ·exact .inl ⟨rfl,aQ.trans (Steps.trans Ag h2)⟩
   ·exact .inr ⟨rfl,todo,aQ.trans (Steps.trans Ag h2)⟩
  |ret=>
   obtain⟨todo,h2⟩:=Ag;exact⟨.ret,bB,aa,hq,.inr ⟨rfl,todo,aQ.trans h2⟩⟩
  |exit id=>rcases hQ _ _ _ hq with h|h<;>cases h
  |goto l=>rcases hQ _ _ _ hq with h|h<;>cases h
  |panic ch=>rcases hQ _ _ _ hq with h|h<;>cases h
  |outgrown=>rcases hQ _ _ _ hq with h|h<;>cases h
theorem SH{C:bQ}{S:Tl}:∀(cs:List Code),(∀c∈cs,C.clean c)->Cut C S (chain cs di) (chain cs S.code)
 | [],_=>.stop
 |c::cs,h=>.seq (h c (by simp)) (SH cs fun d hd=>h d (by simp[hd]))
section
variable {P:Aa6}{F:Array Func}{C:bQ}{G:Nat->Bool}
theorem aa8{S:Tl}{c':Code}(h:Cut C S di c'):c'=S.code:=by
 generalize e:di=c at h;cases h with
 |stop=>rfl
 |seq _ _=>cases e
theorem agz(hcut:¬C.clean di){S:Tl}{ρ:Ren}{k':List Item}(h:oc C S ρ true [.code di,.code di] k'):k'=.code S.code::S.items:=by
 cases h with
 |cons hi t=>
  rw[VR t];cases hi with
  |code _ hc=>exact absurd hc hcut
  |cut hc=>rw[aa8 hc]
theorem amS(E:Env P F C G)(hcut:¬C.clean di)(hh:∀f,C.hole f=false){main:Bool}(S:Tl){M:aaa}{ρ:Ren}{f:FuncId}{cs:List Code}(hc:∀c∈cs,C.clean c){a:Act}{t':Array Value}{w w':Aa4}(hk:(S.kind==.early)=false)
 (hd:a.defers=[cQ]){QL:Exit->Act->Aa4->Prop}(hQ:∀e a w,QL e a w->e=.normal\/e=.ret)
 (hl:∀T,eX (tw P F) cs QL a (aZ w T))
 (hw:bV C ρ w w')(hg:∀g,G g=true->ρ g g)(hf:Fits M ρ w)(gN:∀b,M.has b->b<w'.heap.size)(hn:bJ w.heap)(ht:aP ρ a.tmps t')
 {Stop:aaa->Abe->Aa4->Prop}
 (post:∀e bB aa bS aE eV aA D',QL e bB aa->gX M ρ w w' bS aE aa aA->bV C aE aa aA->Fits bS aE aa->(∀b,bS.has b->b<aA.heap.size)->(∀g,G g=true->aE g g)->bJ aa.heap->aP aE bB.tmps eV->jJ S aE true bB.defers D'->
   (e=.normal->Stop bS (aO ⟨f,eV,.code S.code::S.items,D',.run,S.kind,none⟩ S.callers) aA)/\
   (e=.ret->∀sH,Stop bS (aO ⟨f,eV,sH,D',.returning,S.kind,none⟩ S.callers) aA)):
 Walk P main Stop M (aO ⟨f,t',.code (chain cs S.code)::S.items,S.defers,.run,S.kind,none⟩ S.callers) w':=by
 let b:Frame:={ (default:Frame) with fn:=f,kind:=.normal}
 let c:=chain cs di
 let Q:Abe->Aa4->Prop:=fun g w=>∃T e bB todo m,QL e bB (aZ w T)/\g=aO ⟨f,bB.tmps,todo,bB.defers,m,.normal,none⟩ []/\
  (e=.normal/\todo=[.code di,.code di]/\m=.run\/e=.ret/\m=.returning)
 have b7:ea C S ρ true (b.at a [.code c,.code di]) ⟨f,t',.code (chain cs S.code)::S.items,S.defers,.run,S.kind,none⟩:=
  .mk f ht (.cons (.cut (SH cs hc)) .stop) (by rw[hd];exact .stop) .run .none ⟨fun h=>by simp at h,fun _=>rfl,fun h=>absurd rfl h,fun h=>by simp at h,hk,fun _=>rfl⟩
 have eh:sP P (tw P F) C S ρ (aO (b.at a [.code c,.code di]) []) (aO ⟨f,t',.code (chain cs S.code)::S.items,S.defers,.run,S.kind,none⟩ S.callers):=.inside b7 .base;have hi:Inv C S G (aO (b.at a [.code c,.code di]) []) w:=⟨hn,ρ,true,_,_,_,_,w',rfl,hg,b7,.base,hw⟩;have N8:Sim.Safe (tw P F) Q (aO (b.at a [.code c,.code di]) []) w:=by
  refine PD (S:=S) E hh ?_ ?_ hi ?_
  ·rintro g w T ⟨T',e,bB,todo,m,h1,h2,h3⟩
   exact⟨T',e,bB,todo,m,h1,h2,h3⟩
  ·rintro g w ⟨T',e,bB,todo,m,h1,rfl,h3⟩ ch
   rcases h3 with⟨_,_,rfl⟩ | ⟨_,rfl⟩<;>simp
  ·intro T
   obtain⟨e,bB,aa,h1,h3⟩:=akr (z:=di) hQ b [.code di] [] cs (hl T);rcases h3 with⟨rfl,n,hr⟩ | ⟨rfl,todo,n,hr⟩
   ·exact⟨n,_,_,aa,hr,aa.tape,.normal,bB,[.code di,.code di],.run,h1,rfl,.inl ⟨rfl,rfl,rfl⟩⟩
   ·exact⟨n,_,_,aa,hr,aa.tape,.ret,bB,todo,.returning,h1,rfl,.inr ⟨rfl,rfl⟩⟩
 refine X7 E main (WY E hh N8 hi) ⟨eh,hw,hg,hf,gN⟩ ?_
 intro bS aE dG aa en aA hR bY _ _ hq;obtain⟨gr,core,gL,fits,low⟩:=hR;cases gr with
 |hole f hf=>rw[hh] at hf;simp at hf
 |inside vg Dc=>
  obtain⟨⟨T,e,bB,todo,m,h1,h2,h3⟩,qx⟩:=hq.resolve_right fun h=>h ⟨_,_,_,_,_,rfl,rfl,vg,Dc⟩
  have e1:=congrArg Goroutine.frame h2;have e2:=congrArg Goroutine.callers h2;simp only at e1 e2;subst e1 e2;obtain⟨rfl,rfl⟩:=Lu Dc;have LU:bV C aE (aZ aa T) aA:=core.left rfl;cases vg with
  |mk _ ym dg jT rM ye gM=>
   cases ye;have PK:gX M ρ w w' bS aE (aZ aa T) aA:=⟨bY.le,bY.new,bY.mP,bY.fQ,bY.kE,bY.im,bY.R,bY.O,bY.On,bY.tape,bY.os,bY.out⟩;have qt:=gM.Cv rfl;subst qt;have:=post e bB (aZ aa T) bS aE _ aA _ h1 PK LU fits low gL qx ym jT;rcases h3 with⟨rfl,rfl,rfl⟩ | ⟨rfl,rfl⟩
   ·rw[agz hcut dg]
    exact this.1 rfl
   ·exact this.2 rfl _
end
theorem aa7:¬C0.clean di:=by
 intro h;have h:cr Tryz.prog G0 di=true:=h;exact absurd h (by decide)
theorem pieces{main:Bool}(S:Tl){M:aaa}{ρ:Ren}{f:FuncId}{cs:List Code}(hc:∀c∈cs,C0.clean c){a:Act}{t':Array Value}{w w':Aa4}(hk:(S.kind==.early)=false)
 (hd:a.defers=[cQ]){QL:Exit->Act->Aa4->Prop}(hQ:∀e a w,QL e a w->e=.normal\/e=.ret)
 (hl:∀T,eX (@Tw.prog iQ) cs QL a (aZ w T))
 (hw:bV C0 ρ w w')(hg:ρ 0 0)(hf:Fits M ρ w)(gN:∀b,M.has b->b<w'.heap.size)(hn:bJ w.heap)(ht:aP ρ a.tmps t')
 {Stop:aaa->Abe->Aa4->Prop}
 (post:∀e bB aa bS aE eV aA D',QL e bB aa->gX M ρ w w' bS aE aa aA->bV C0 aE aa aA->Fits bS aE aa->(∀b,bS.has b->b<aA.heap.size)->aE 0 0->bJ aa.heap->aP aE bB.tmps eV->jJ S aE true bB.defers D'->
   (e=.normal->Walk Tryz.prog main Stop bS (aO ⟨f,eV,.code S.code::S.items,D',.run,S.kind,none⟩ S.callers) aA)/\
   (e=.ret->∀sH,Walk Tryz.prog main Stop bS (aO ⟨f,eV,sH,D',.returning,S.kind,none⟩ S.callers) aA)):
 Walk Tryz.prog main Stop M (aO ⟨f,t',.code (chain cs S.code)::S.items,S.defers,.run,S.kind,none⟩ S.callers) w':=by
 refine Walk.bind (amS GJ aa7 (fun _=>rfl) S hc hk hd hQ (fun T=>by rw[Qd];exact hl T) hw (fun g oy=>?_) hf gN hn ht fun e bB aa bS aE eV aA D' h1 h2 h3 h4 h5 h6 h7 h8 h9=>post e bB aa bS aE eV aA D' h1 h2 h3 h4 h5 (h6 0 rfl) h7 h8 h9) fun _ _ _ h=>h
 have:g=0:=by simpa [G0] using oy
 subst this;exact hg
end Go.Jn
namespace Go.Tw
open Go Go.RowKit
theorem cq(a:Addr)(n:Nat):(a.add n).block=a.block:=by unfold Addr.add;split<;>rfl
theorem Rt(a:Addr)(i j:Nat):(a.add i).add j=a.add (i+j):=by
 unfold Addr.add;by_cases hi:i=0<;>by_cases hj:j=0<;>simp[hi,hj,Nat.add_assoc]
def Still(B:Nat)(w w':Aa4):Prop:=∀p:Addr,p.block<B-> w'.cell? p= w.cell? p
theorem Still.refl{B:Nat}(w:Aa4):Still B w w:=fun _ _=>rfl
theorem Still.trans{B:Nat}{a b c:Aa4}(h:Still B a b)(k:Still B b c):Still B a c:=fun p hp=>(k p hp).trans (h p hp)
theorem Still.aK{B B':Nat}{w w':Aa4}(h:Below B' w w')(hB:B<=B'):Still B w w':=fun _ hp=>h.cell (by omega)
theorem Still.alloc{B:Nat}{a w:Aa4}(h:Still B a w)(hB:B<=w.heap.size)(o:Obj):Still B a (w.alloc o):=fun p hp=>(Af7 w o p (by omega)).trans (h p hp)
def Row{α:Type}(w:Aa4)(B sz:Nat)(R:α->List Value->Prop)(v:Value)(xs:List α):Prop:=
 ∃A c,v=.slice A xs.length c/\xs.length<=c/\c<=Af0/\(xs≠ []->∃ad,A=some ad/\ad.block<B/\
  ∀i x,xs[i]?=some x->∃cs,R x cs/\cs.length=sz/\∀j u,cs[j]?=some u-> w.cell? (ad.add (i * sz+j))=some u)
section
variable {α:Type}{w w':Aa4}{B B' sz:Nat}{R R':α->List Value->Prop}{v:Value}{xs:List α}
theorem Row.still(h:Row w B sz R v xs)(hs:Still B w w')(hR:∀x cs,R x cs->R' x cs):Row w' B sz R' v xs:=by
 obtain⟨A,c,hv,h1,h2,h3⟩:=h;refine⟨A,c,hv,h1,h2,fun hx=>?_⟩
 obtain⟨ad,ha,hb,hc⟩:=h3 hx;refine⟨ad,ha,hb,fun i x hi=>?_⟩
 obtain⟨cs,r,hl,au⟩:=hc i x hi;exact⟨cs,hR _ _ r,hl,fun j u hu=>(hs _ (by rw[cq];exact hb)).trans (au j u hu)⟩
theorem Row.more(h:Row w B sz R v xs)(hB:B<=B'):Row w B' sz R v xs:=by
 obtain⟨A,c,hv,h1,h2,h3⟩:=h;refine⟨A,c,hv,h1,h2,fun hx=>?_⟩
 obtain⟨ad,ha,hb,hc⟩:=h3 hx;exact⟨ad,ha,by omega,hc⟩
theorem Row.nil:Row w B sz R (.slice none 0 0) ([]:List α):=⟨none,0,rfl,Ac2 _,by unfold Af0;omega,fun h=>absurd rfl h⟩
theorem Row.open_(h:Row w B sz R v xs):∃A n c,v=.slice A n c/\xs.length=n/\n<=c/\c<=Af0/\
 ∀i,i<n->∃ad x cs,A=some ad/\ad.block<B/\xs[i]?=some x/\R x cs/\cs.length=sz/\∀j u,cs[j]?=some u-> w.cell? (ad.add (i * sz+j))=some u:=by
 obtain⟨A,c,hv,h1,h2,h3⟩:=h;refine⟨A,xs.length,c,hv,rfl,h1,h2,fun i hi=>?_⟩
 obtain⟨ad,ha,hb,hc⟩:=h3 (by intro e;subst e;simp at hi)
 obtain⟨cs,r,hl,au⟩:=hc i xs[i] (Aga hi)
 exact⟨ad,xs[i],cs,ha,hb,Aga hi,r,hl,au⟩
end
theorem cC{w w':Aa4}{B:Nat}{ad:Addr}{k:Nat}{cs:List Value}(h:∀j u,cs[j]?=some u-> w.cell? (ad.add (k+j))=some u)(hs:Still B w w')(hb:ad.block<B){u:Value}(hu:cs[0]?=some u): w'.cell? (ad.add k)=some u:=
 (hs _ (by rw[cq];exact hb)).trans (h 0 u hu)
theorem bK{w w':Aa4}{B:Nat}{ad:Addr}{k:Nat}{cs:List Value}(h:∀j u,cs[j]?=some u-> w.cell? (ad.add (k+j))=some u)(hs:Still B w w')(hb:ad.block<B)(j:Nat){u:Value}(hu:cs[j+1]?=some u): w'.cell? ⟨(ad.add k).block,(ad.add k).off+(j+1),none⟩=some u:=by
 have e:(⟨(ad.add k).block,(ad.add k).off+(j+1),none⟩:Addr)=ad.add (k+(j+1)):=by rw[<-Rt];rfl
 rw[e];exact(hs _ (by rw[cq];exact hb)).trans (h (j+1) u hu)
theorem iY{B:Nat}{a w:Aa4}(h:Below B a w):Below B a w.drew:=⟨h.os,h.tape,h.output,h.size,h.block⟩
theorem jq{B:Nat}{a w:Aa4}(h:Below B a w)(n:Nat):Below B a (w.drewN n):=⟨h.os,h.tape,h.output,h.size,h.block⟩
theorem aX{a b:Int}(h:a=b):Ending.returned (.int .i64 a)=.returned (.int .i64 b):=by rw[h]
theorem b9{a b:Bool}(h:a=b):Ending.returned (.bool a)=.returned (.bool b):=by rw[h]
structure Span where
 lo:Int
 hi:Int
 deriving DecidableEq
structure Piece where
 name:ByteArray
 len:Span
 bears:Int
structure bR where
 name:ByteArray
 aH:Int
 cM:List Span
structure Tape where
 pieces:List Int
 sum:Span
structure ao where
 ag:Int
 pieces:List Piece
 aF:List bR
 aJ:List Tape
structure Cut where
 bp:Int
 from_:Int
 deriving DecidableEq
def Span.R(x:Span)(cs:List Value):Prop:=cs=[.int .i64 x.lo,.int .i64 x.hi]
structure an where
 a:Int
 b:Int
 c:Int
 deriving DecidableEq
def an.R(x:an)(cs:List Value):Prop:=cs=[.int .i64 x.a,.int .i64 x.b,.int .i64 x.c]
def pj{α:Type}(p:α->Bool)(l:List α):Int:=match l.findIdx? p with
 |some i=>i
 |none=> -1
theorem Ej{α:Type}{p:α->Bool}{l:List α}{i:Nat}{x:α}(hx:l[i]?=some x)(hp:p x=true)(h:∀(j:Nat) (y:α),j<i->l[j]?=some y->p y=false):pj p l=i:=by
 have hl:=(Agb.1 hx)
 obtain⟨al,e⟩:=hl;have: l.findIdx? p=some i:=by
  rw[Agc]
  exact⟨al,by rw[e];exact hp,fun j hj=>by simpa using h j _ hj (Aga (by omega))⟩
 unfold pj;rw[this]
theorem Ei{α:Type}{p:α->Bool}{l:List α}(h:∀(j:Nat) (y:α),l[j]?=some y->p y=false):pj p l= -1:=by
 have: l.findIdx? p=none:=by
  rw[Agd]
  intro x hx;obtain⟨j,hj⟩:=List.getElem?_of_mem hx
  simpa using h j x hj
 unfold pj;rw[this]
theorem AR{α:Type}{p:α->Bool}{l:List α}:l.any p=true↔0<=pj p l:=by
 unfold pj;cases h: l.findIdx? p with
 |none=>rw[Agd] at h;simp;exact fun x hx=>by simpa using h x hx
 |some i=>
  rw[Agc] at h
  obtain⟨hi,hp,_⟩:=h;simp only[List.any_eq_true];exact⟨fun _=>by simp,fun _=>⟨_,List.getElem_mem hi,hp⟩⟩
theorem Eh{α:Type}{p:α->Bool}{l:List α}:l.any p=false↔pj p l<0:=by
 have:=AR (p:=p) (l:=l);rw[<-Int.not_le,<-this];simp
def cH(n:Int)(cs:List Value):Prop:=cs=[.int .i64 n]
def Cut.R(x:Cut)(cs:List Value):Prop:=cs=[.int .i64 x.bp,.int .i64 x.from_]
def Piece.R(x:Piece)(cs:List Value):Prop:=cs=[.string x.name,.int .i64 x.len.lo,.int .i64 x.len.hi,.int .i64 x.bears]/\x.name.size<=Af0
def bR.R(w:Aa4)(B:Nat)(x:bR)(cs:List Value):Prop:=∃kv,cs=[.string x.name,.int .i64 x.aH,kv]/\x.name.size<=Af0/\Row w B 2 Span.R kv x.cM
def Tape.R(w:Aa4)(B:Nat)(x:Tape)(cs:List Value):Prop:=∃pv,cs=[pv,.int .i64 x.sum.lo,.int .i64 x.sum.hi]/\Row w B 1 cH pv x.pieces
theorem bR.R.still{w w':Aa4}{B:Nat}{x:bR}{cs:List Value}(h:bR.R w B x cs)(hs:Still B w w'):bR.R w' B x cs:=by
 obtain⟨kv,h1,h2,h3⟩:=h;exact⟨kv,h1,h2,h3.still hs fun _ _ h=>h⟩
theorem Tape.R.still{w w':Aa4}{B:Nat}{x:Tape}{cs:List Value}(h:Tape.R w B x cs)(hs:Still B w w'):Tape.R w' B x cs:=by
 obtain⟨kv,h1,h3⟩:=h;exact⟨kv,h1,h3.still hs fun _ _ h=>h⟩
structure bg(w:Aa4)(B:Nat)(b:ao)(pv bv tv:Value):Prop where
 pieces:Row w B 4 Piece.R pv b.pieces
 aF:Row w B 3 (bR.R w B) bv b.aF
 aJ:Row w B 3 (Tape.R w B) tv b.aJ
theorem bg.still{w w':Aa4}{B:Nat}{b:ao}{pv bv tv:Value}(h:bg w B b pv bv tv)(hs:Still B w w'):bg w' B b pv bv tv:=
 ⟨h.pieces.still hs fun _ _ h=>h,h.aF.still hs fun _ _ h=>h.still hs,h.aJ.still hs fun _ _ h=>h.still hs⟩
end Go.Tw
namespace Go.Tw
variable [Go.Tw.aR]
open Go Go.Proofs Go.RowKit
def bX(n lo hi:Int):Bool:=decide (lo<=n) && decide (n<=hi)
theorem inside(n lo hi:Int)(w:Aa4):Af1 prog 134 #[.int .i64 n,.int .i64 lo,.int .i64 hi] w fun e w'=>e=.returned (.bool (bX n lo hi))/\w=w':=by
 go_enter func134,Tryz.ntmps134;go_wp2;all_goals go_ret
 all_goals (refine⟨b9 ?_,rfl⟩;unfold bX;first| (simp;done) | (simp;omega))
def jr(i:Nat)(c:Int):Bool:=(decide (97<=c) && decide (c<=122)) || (decide (0<i) && (decide (48<=c) && decide (c<=57)))
def uN:Nat->List UInt8->Bool
 |_,[]=>true
 |i,c::l=>jr i c.toNat && uN (i+1) l
def mK(l:List UInt8):Bool:=uN 0 l && bX l.length 1 10
theorem Sm:∀(l:List UInt8) (i k:Nat) (c:UInt8),uN i l=true->l[k]?=some c->jr (i+k) c.toNat=true
 | [],_,_,_,_,h=>by simp at h
 |d::l,i,0,c,h,hk=>by simp at hk;subst hk;simp[uN] at h;exact h.1
 |d::l,i,k+1,c,h,hk=>by
  simp[uN] at h;have:=Sm l (i+1) k c h.2 (by simpa using hk)
  rwa[show i+(k+1)=i+1+k by omega]
theorem LR:∀(l:List UInt8) (i:Nat),(∀k c,l[k]?=some c->jr (i+k) c.toNat=true)->uN i l=true
 | [],_,_=>rfl
 |d::l,i,h=>by
  simp only[uN,Aax];exact⟨h 0 d rfl,LR l (i+1) fun k c hk=>by have:=h (k+1) c (by simpa using hk);rwa[show i+(k+1)=i+1+k by omega] at this⟩
theorem aaY(s:ByteArray)(w:Aa4):∃C cap m,(convert 9 228 (.string s)).run prog w=.ok (.slice (some ⟨w.heap.size,0,none⟩) s.size cap) (w.drew.alloc (.cells C 5 m))/\
 ∀i (h:i<s.size),C[i]?=some (.int .u8 (s[i].toNat:Int)):=by
 refine⟨_,_,_,run_bytes_of_string (P:=prog) w 9 228 5 s ((Jh _).trans Tryz.underlying9) ((Jh _).trans Tryz.underlying228) ((Jh _).trans Tryz.underlying5),fun i h=>?_⟩
 rw[bytesRow,Array.getElem?_append_left (by simpa using h)]
 simp[Array.getElem?_map]
 exact⟨_,Array.getElem?_eq_getElem (by simpa using h),rfl⟩
theorem CF{s:ByteArray}{n:Nat}(h:n<s.size):s.data.toList[n]?=some s[n]:=by
 rw[Aga (by simpa using h)];rfl
theorem O2{l:List UInt8}{n:Nat}{c:UInt8}(h:l[n]?=some c)(hb:jr n c.toNat=false):mK l=false:=by
 unfold mK;cases e:uN 0 l with
 |false=>rfl
 |true=>have:=Sm l 0 n c e h;rw[Nat.zero_add,hb] at this;cases this
theorem isName{s:ByteArray}(hs:s.size<=Af0)(w:Aa4):
 Af1 prog 182 #[.string s] w fun e w'=>e=.returned (.bool (mK s.data.toList))/\Below w.heap.size w w':=by
 unfold Af0 at hs;obtain⟨C,cap,m,aee,hC⟩:=aaY s w;have H:=Af3 hC;clear hC;go_enter func182,Tryz.ntmps182;go_wp2;clear aee
 go_loop [3,4,8] (fun i c k=>∃n:Nat,n<=s.size/\k=.int .i64 n/\∀j c,j<n->s.data.toList[j]?=some c->jr j c.toNat=true) (fun _ _ k=>s.size - (Af5 k).toNat)
 case atStart=>exact⟨0,Agm _,rfl,fun j _ hj=>by omega⟩
 case round=>
  obtain⟨n,hn,rfl,bt⟩:=hrel;have HA:=Af3 bt;clear bt;by_cases al:n<s.size
  ·have hc:(w.alloc (.cells C 5 m)).cell? ⟨w.heap.size,n,none⟩=some (.int .u8 (s[n].toNat:Int)):=by
    rw[Af8];exact H.out n al
   go_wp2;all_goals try simp only[Afy,Bool.not_eq_false',decide_eq_true_eq,decide_eq_false_iff_not] at *
   all_goals first
    | (go_round
       case rel=>
        refine⟨n+1,by omega,by go_num,fun j c hj o8=>?_⟩
        rcases Agn.1 hj with h|rfl
        ·exact HA.out j c h o8
        ·have e:c=s[j]:=by simpa using((CF al).symm.trans o8).symm
         subst e;simp only[jr,Bool.or_eq_true,Aax,decide_eq_true_eq];omega
       case measure=>simp[Af5];omega)
    | (go_ret
       refine⟨b9 (Eq.symm (O2 (CF al) ?_)),iY ((Af6 _ _).alloc (Ac2 _) _)⟩
       simp only[jr,Bool.or_eq_false_iff,Bool.and_eq_false_iff,decide_eq_false_iff_not];omega)
  ·obtain rfl:n=s.size:=by omega
   go_wp2_with (first
    | (go_at_call 134;refine(inside _ _ _ _).mono ?_;rintro e w' ⟨rfl,rfl⟩))
   go_ret;refine⟨b9 ?_,iY ((Af6 _ _).alloc (Ac2 _) _)⟩
   simp[mK,LR s.data.toList 0 (fun k c hk=>by
    have:=HA.out k c (by have:=(Agb.1 hk).1;simpa using this) hk;simpa using this)]
def Ex(a b:Int)(k:Span):Bool:=decide (k.lo<=b) && decide (a<=k.hi)
def lh(l:List Span)(a b:Int):Int:=(l.filter (Ex a b)).length
theorem ah5(l:List Span)(a b:Int):0<=lh l a b/\lh l a b<=l.length:=by
 unfold lh;have:=List.length_filter_le (Ex a b) l;omega
theorem ah6(l:List Span)(x:Span)(a b:Int):lh (l++ [x]) a b=lh l a b+if Ex a b x then 1 else 0:=by
 unfold lh;by_cases h:Ex a b x<;>simp[h]
theorem oJ{α:Type}{l:List α}{i:Nat}{x:α}(h:l[i]?=some x):l.take (i+1)=l.take i++ [x]:=by
 rw[List.take_add_one,h];rfl
theorem met{nm:ByteArray}{aH a b:Int}{ks:List Span}{kv:Value}{w:Aa4}{B:Nat}(hk:Row w B 2 Span.R kv ks)(hB:B<=w.heap.size):
 Af1 prog 132 #[.agg #[.string nm,.int .i64 aH,kv],.agg #[.int .i64 a,.int .i64 b]] w fun e w'=>e=.returned (.int .i64 (lh ks a b))/\Below w.heap.size w w':=by
 obtain⟨A,n,c,rfl,hl,dX,hc,hr⟩:=hk.open_;unfold Af0 at hc;have H:=Af3 hl;have H2:=Af3 hr;clear hl hr hk;go_enter func132,Tryz.ntmps132;go_wp2;go_loopw [5,7,11] (fun m t k wr=>∃i:Nat,i<=n/\k=.int .i64 i/\m=.int .i64 (lh (ks.take i) a b)/\Below (w.heap.size+2) ((w.alloc (Af4 #[Value.string nm,Value.int Ack aH,Value.slice A n c] 59)).alloc
 (Af4 #[Value.int Ack a,Value.int Ack b] 37)) wr) (fun _ _ k _=>n - (Af5 k).toNat)
 case atStart=>exact⟨0,Agm _,rfl,rfl,Af6 _ _⟩
 case round=>
  obtain⟨i,hi,rfl,rfl,hb⟩:=hrel;have hm:=ah5 (ks.take i) a b;have hml:(ks.take i).length<=i:=Age _ _;by_cases al:i<n
  ·obtain⟨ad,x,cs,rfl,aC,hx,rfl,-,au⟩:=H2.out i al
   have st:=(Still.aK hb (by omega:B<=w.heap.size+2))
   have P1:=((Still.refl (B:=B) w).alloc hB (Af4 #[Value.string nm,Value.int Ack aH,Value.slice (some ad) n c] 59)).alloc (by simp;omega) (Af4 #[Value.int Ack a,Value.int Ack b] 37)
   have h0:=cC au (P1.trans st) aC rfl;have h1:=bK au (P1.trans st) aC 0 rfl;have h2: wr.cell? ⟨w.heap.size+1,0,none⟩=some (.int .i64 a):=(hb.cell (p:=⟨w.heap.size+1,0,none⟩) (by simp)).trans (by simp[go_sem])
   have h3: wr.cell? ⟨w.heap.size+1,1,none⟩=some (.int .i64 b):=(hb.cell (p:=⟨w.heap.size+1,1,none⟩) (by simp)).trans (by simp[go_sem])
   have hz:w.heap.size+1<wr.heap.size:=by have:=hb.size;simp at this;omega
   have HH:=Af3 (Afx hx hb);clear hx hb au st P1;go_wp2;all_goals
    go_roundw;case rel=>
     have hb:=HH.out.2;refine⟨i+1,by omega,by go_num,?_,hb.trans ((Af6 _ _).alloc (by omega) _)⟩
     rw[oJ HH.out.1,ah6];have e:Ex a b x=(decide (x.lo<=b) && decide (a<=x.hi)):=rfl
     first
      | (rw[if_pos (by rw[e];simp;omega)])
      | (rw[if_neg (by rw[e];simp;omega)];go_num)
    case measure=>simp[Af5];omega
  ·have dL:i=n:=by omega
   subst dL;go_wp2;go_ret;refine⟨aX ?_,?_⟩
   ·have:=H.out
    simp[Agf (Ago this)]
   ·exact(((Af6 _ _).alloc (Ac2 _) _).alloc (by simp) _).trans (hb.mono (by simp))
abbrev fv(K:Nat)(lb:Array Value):Value:=.func (.func K) #[] lb
theorem VB{K:Nat}{lb:Array Value}{v:Value}{w:Aa4}{B:Nat}{l:List Piece}(p:Piece->Bool)(eg:∀args w,(callFunc K args).run prog w=.ok (.enter K args) w)
 (hv:Row w B 4 Piece.R v l)(hB:B<=w.heap.size)
 (hK:∀(W:Aa4) (x:Piece),Below w.heap.size w W->x.name.size<=Af0->x∈l->Af1 prog K (#[.agg #[.string x.name,.int .i64 x.len.lo,.int .i64 x.len.hi,.int .i64 x.bears]]++lb) W fun e W'=>e=.returned (.bool (p x))/\Below W.heap.size W W'):
 Af1 prog 204 #[v,fv K lb] w fun e w'=>e=.returned (.int .i64 (pj p l))/\Below w.heap.size w w':=by
 obtain⟨A,n,c,rfl,hl,dX,hc,hr⟩:=hv.open_;unfold Af0 at hc;have H:=Af3 hl;have H2:=Af3 hr;have HK:=Af3 hK;clear hl hr hv hK;go_enter func204,Tryz.ntmps204;go_wp2;go_loopw [5,8] (fun t k wr=>∃i:Nat,i<=n/\k=.int .i64 i/\(∀j x,j<i->l[j]?=some x->p x=false)/\Below w.heap.size w wr) (fun _ k _=>n - (Af5 k).toNat)
 case atStart=>exact⟨0,Agm _,rfl,fun j _ hj=>by omega,Af6 _ _⟩
 case round=>
  obtain⟨i,hi,rfl,bt,hb⟩:=hrel;have HH:=Af3 (Afx bt hb);by_cases al:i<n
  ·obtain⟨ad,x,cs,rfl,aC,hx,⟨rfl,dH⟩,-,au⟩:=H2.out i al
   have st:=Still.aK hb hB;have h0:=cC au st aC rfl;have h1:=bK au st aC 0 rfl;have h2:=bK au st aC 1 rfl;have h3:=bK au st aC 2 rfl;have HX:=Af3 hx;clear bt hb hx au st;go_wp2;refine(HK.out wr x HH.out.2 dH (Agg HX.out)).mono ?_
   rintro e w1 ⟨rfl,ae⟩;have HB:=Af3 ae;clear ae;cases hp:p x with
   |true=>
    go_wp2;go_ret;exact⟨aX (Ej HX.out hp HH.out.1).symm,HH.out.2.trans (HB.out.mono HH.out.2.size)⟩
   |false=>
    go_wp2;go_roundw;case rel=>exact⟨i+1,by omega,by go_num,fun j y hj hy=>by
     rcases Agn.1 hj with h|rfl
     ·exact HH.out.1 j y h hy
     ·rw[HX.out] at hy;cases hy;exact hp,HH.out.2.trans (HB.out.mono HH.out.2.size)⟩
    case measure=>simp[Af5];omega
  ·have dL:i=n:=by omega
   subst dL;go_wp2;go_ret;exact⟨aX (Ei (fun j x hj=>HH.out.1 j x (by have:=(Agb.1 hj).1;have:=H.out;omega) hj)).symm,HH.out.2⟩
theorem GC{K:Nat}{lb:Array Value}{v:Value}{w:Aa4}{B:Nat}{l:List Piece}(p:Piece->Bool)(eg:∀args w,(callFunc K args).run prog w=.ok (.enter K args) w)
 (hv:Row w B 4 Piece.R v l)(hB:B<=w.heap.size)
 (hK:∀(W:Aa4) (x:Piece),Below w.heap.size w W->x.name.size<=Af0->x∈l->Af1 prog K (#[.agg #[.string x.name,.int .i64 x.len.lo,.int .i64 x.len.hi,.int .i64 x.bears]]++lb) W fun e W'=>e=.returned (.bool (p x))/\Below W.heap.size W W'):
 Af1 prog 183 #[v,fv K lb] w fun e w'=>e=.returned (.bool (l.any p))/\Below w.heap.size w w':=by
 have HV:=Af3 hv;have HK:=Af3 hK;clear hv hK;cases hp:l.any p with
 |true=>
  have hi:=(AR (l:=l) (p:=p)).1 hp;go_enter func183,Tryz.ntmps183;go_wp2;refine(VB p eg HV.out hB HK.out).mono ?_
  rintro e w1 ⟨rfl,ae⟩;go_wp2;go_ret;exact⟨b9 rfl,ae⟩
 |false=>
  have hi:=(Eh (l:=l) (p:=p)).1 hp;go_enter func183,Tryz.ntmps183;go_wp2;refine(VB p eg HV.out hB HK.out).mono ?_
  rintro e w1 ⟨rfl,ae⟩;go_wp2;go_ret;exact⟨b9 (by simp;omega),ae⟩
theorem VC{K:Nat}{lb:Array Value}{v:Value}{w:Aa4}{B:Nat}{l:List bR}(p:bR->Bool)(eg:∀args w,(callFunc K args).run prog w=.ok (.enter K args) w)
 (hv:Row w B 3 (bR.R w B) v l)(hB:B<=w.heap.size)
 (hK:∀(W:Aa4) (x:bR) (kv:Value),Below w.heap.size w W->x.name.size<=Af0->Row w B 2 Span.R kv x.cM->x∈l->Af1 prog K (#[.agg #[.string x.name,.int .i64 x.aH,kv]]++lb) W fun e W'=>e=.returned (.bool (p x))/\Below W.heap.size W W'):
 Af1 prog 215 #[v,fv K lb] w fun e w'=>e=.returned (.int .i64 (pj p l))/\Below w.heap.size w w':=by
 obtain⟨A,n,c,rfl,hl,dX,hc,hr⟩:=hv.open_;unfold Af0 at hc;have H:=Af3 hl;have H2:=Af3 hr;have HK:=Af3 hK;clear hl hr hv hK;go_enter func215,Tryz.ntmps215;go_wp2;go_loopw [5,8] (fun t k wr=>∃i:Nat,i<=n/\k=.int .i64 i/\(∀j x,j<i->l[j]?=some x->p x=false)/\Below w.heap.size w wr) (fun _ k _=>n - (Af5 k).toNat)
 case atStart=>exact⟨0,Agm _,rfl,fun j _ hj=>by omega,Af6 _ _⟩
 case round=>
  obtain⟨i,hi,rfl,bt,hb⟩:=hrel;have HH:=Af3 (Afx bt hb);by_cases al:i<n
  ·obtain⟨ad,x,cs,rfl,aC,hx,⟨kv,rfl,dH,dj⟩,-,au⟩:=H2.out i al
   have st:=Still.aK hb hB;have h0:=cC au st aC rfl;have h1:=bK au st aC 0 rfl;have h2:=bK au st aC 1 rfl;have HX:=Af3 hx;clear bt hb hx au st;go_wp2;refine(HK.out wr x kv HH.out.2 dH dj (Agg HX.out)).mono ?_
   rintro e w1 ⟨rfl,ae⟩;have HB:=Af3 ae;clear ae;cases hp:p x with
   |true=>
    go_wp2;go_ret;exact⟨aX (Ej HX.out hp HH.out.1).symm,HH.out.2.trans (HB.out.mono HH.out.2.size)⟩
   |false=>
    go_wp2;go_roundw;case rel=>exact⟨i+1,by omega,by go_num,fun j y hj hy=>by
     rcases Agn.1 hj with h|rfl
     ·exact HH.out.1 j y h hy
     ·rw[HX.out] at hy;cases hy;exact hp,HH.out.2.trans (HB.out.mono HH.out.2.size)⟩
    case measure=>simp[Af5];omega
  ·have dL:i=n:=by omega
   subst dL;go_wp2;go_ret;exact⟨aX (Ei (fun j x hj=>HH.out.1 j x (by have:=(Agb.1 hj).1;have:=H.out;omega) hj)).symm,HH.out.2⟩
theorem GD{K:Nat}{lb:Array Value}{v:Value}{w:Aa4}{B:Nat}{l:List bR}(p:bR->Bool)(eg:∀args w,(callFunc K args).run prog w=.ok (.enter K args) w)
 (hv:Row w B 3 (bR.R w B) v l)(hB:B<=w.heap.size)
 (hK:∀(W:Aa4) (x:bR) (kv:Value),Below w.heap.size w W->x.name.size<=Af0->Row w B 2 Span.R kv x.cM->x∈l->Af1 prog K (#[.agg #[.string x.name,.int .i64 x.aH,kv]]++lb) W fun e W'=>e=.returned (.bool (p x))/\Below W.heap.size W W'):
 Af1 prog 205 #[v,fv K lb] w fun e w'=>e=.returned (.bool (l.any p))/\Below w.heap.size w w':=by
 have HV:=Af3 hv;have HK:=Af3 hK;clear hv hK;cases hp:l.any p with
 |true=>
  have hi:=(AR (l:=l) (p:=p)).1 hp;go_enter func205,Tryz.ntmps205;go_wp2;refine(VC p eg HV.out hB HK.out).mono ?_
  rintro e w1 ⟨rfl,ae⟩;go_wp2;go_ret;exact⟨b9 rfl,ae⟩
 |false=>
  have hi:=(Eh (l:=l) (p:=p)).1 hp;go_enter func205,Tryz.ntmps205;go_wp2;refine(VC p eg HV.out hB HK.out).mono ?_
  rintro e w1 ⟨rfl,ae⟩;go_wp2;go_ret;exact⟨b9 (by simp;omega),ae⟩
theorem VD{K:Nat}{lb:Array Value}{v:Value}{w:Aa4}{B:Nat}{l:List Tape}(p:Tape->Bool)(eg:∀args w,(callFunc K args).run prog w=.ok (.enter K args) w)
 (hv:Row w B 3 (Tape.R w B) v l)(hB:B<=w.heap.size)
 (hK:∀(W:Aa4) (x:Tape) (kv:Value),Below w.heap.size w W->Row w B 1 cH kv x.pieces->x∈l->Af1 prog K (#[.agg #[kv,.int .i64 x.sum.lo,.int .i64 x.sum.hi]]++lb) W fun e W'=>e=.returned (.bool (p x))/\Below W.heap.size W W'):
 Af1 prog 216 #[v,fv K lb] w fun e w'=>e=.returned (.int .i64 (pj p l))/\Below w.heap.size w w':=by
 obtain⟨A,n,c,rfl,hl,dX,hc,hr⟩:=hv.open_;unfold Af0 at hc;have H:=Af3 hl;have H2:=Af3 hr;have HK:=Af3 hK;clear hl hr hv hK;go_enter func216,Tryz.ntmps216;go_wp2;go_loopw [5,8] (fun t k wr=>∃i:Nat,i<=n/\k=.int .i64 i/\(∀j x,j<i->l[j]?=some x->p x=false)/\Below w.heap.size w wr) (fun _ k _=>n - (Af5 k).toNat)
 case atStart=>exact⟨0,Agm _,rfl,fun j _ hj=>by omega,Af6 _ _⟩
 case round=>
  obtain⟨i,hi,rfl,bt,hb⟩:=hrel;have HH:=Af3 (Afx bt hb);by_cases al:i<n
  ·obtain⟨ad,x,cs,rfl,aC,hx,⟨kv,rfl,dj⟩,-,au⟩:=H2.out i al
   have st:=Still.aK hb hB;have h0:=cC au st aC rfl;have h1:=bK au st aC 0 rfl;have h2:=bK au st aC 1 rfl;have HX:=Af3 hx;clear bt hb hx au st;go_wp2;refine(HK.out wr x kv HH.out.2 dj (Agg HX.out)).mono ?_
   rintro e w1 ⟨rfl,ae⟩;have HB:=Af3 ae;clear ae;cases hp:p x with
   |true=>
    go_wp2;go_ret;exact⟨aX (Ej HX.out hp HH.out.1).symm,HH.out.2.trans (HB.out.mono HH.out.2.size)⟩
   |false=>
    go_wp2;go_roundw;case rel=>exact⟨i+1,by omega,by go_num,fun j y hj hy=>by
     rcases Agn.1 hj with h|rfl
     ·exact HH.out.1 j y h hy
     ·rw[HX.out] at hy;cases hy;exact hp,HH.out.2.trans (HB.out.mono HH.out.2.size)⟩
    case measure=>simp[Af5];omega
  ·have dL:i=n:=by omega
   subst dL;go_wp2;go_ret;exact⟨aX (Ei (fun j x hj=>HH.out.1 j x (by have:=(Agb.1 hj).1;have:=H.out;omega) hj)).symm,HH.out.2⟩
theorem aaX{K:Nat}{lb:Array Value}{v:Value}{w:Aa4}{B:Nat}{l:List Tape}(p:Tape->Bool)(eg:∀args w,(callFunc K args).run prog w=.ok (.enter K args) w)
 (hv:Row w B 3 (Tape.R w B) v l)(hB:B<=w.heap.size)
 (hK:∀(W:Aa4) (x:Tape) (kv:Value),Below w.heap.size w W->Row w B 1 cH kv x.pieces->x∈l->Af1 prog K (#[.agg #[kv,.int .i64 x.sum.lo,.int .i64 x.sum.hi]]++lb) W fun e W'=>e=.returned (.bool (p x))/\Below W.heap.size W W'):
 Af1 prog 208 #[v,fv K lb] w fun e w'=>e=.returned (.bool (l.any p))/\Below w.heap.size w w':=by
 have HV:=Af3 hv;have HK:=Af3 hK;clear hv hK;cases hp:l.any p with
 |true=>
  have hi:=(AR (l:=l) (p:=p)).1 hp;go_enter func208,Tryz.ntmps208;go_wp2;refine(VD p eg HV.out hB HK.out).mono ?_
  rintro e w1 ⟨rfl,ae⟩;go_wp2;go_ret;exact⟨b9 rfl,ae⟩
 |false=>
  have hi:=(Eh (l:=l) (p:=p)).1 hp;go_enter func208,Tryz.ntmps208;go_wp2;refine(VD p eg HV.out hB HK.out).mono ?_
  rintro e w1 ⟨rfl,ae⟩;go_wp2;go_ret;exact⟨b9 (by simp;omega),ae⟩
theorem VA{K:Nat}{lb:Array Value}{v:Value}{w:Aa4}{B:Nat}{l:List Int}(p:Int->Bool)(eg:∀args w,(callFunc K args).run prog w=.ok (.enter K args) w)
 (hv:Row w B 1 cH v l)(hB:B<=w.heap.size)
 (hK:∀(W:Aa4) (x:Int),Below w.heap.size w W->x∈l->Af1 prog K (#[.int .i64 x]++lb) W fun e W'=>e=.returned (.bool (p x))/\Below W.heap.size W W'):
 Af1 prog 202 #[v,fv K lb] w fun e w'=>e=.returned (.int .i64 (pj p l))/\Below w.heap.size w w':=by
 obtain⟨A,n,c,rfl,hl,dX,hc,hr⟩:=hv.open_;unfold Af0 at hc;have H:=Af3 hl;have H2:=Af3 hr;have HK:=Af3 hK;clear hl hr hv hK;go_enter func202,Tryz.ntmps202;go_wp2;go_loopw [5,8] (fun t k wr=>∃i:Nat,i<=n/\k=.int .i64 i/\(∀j x,j<i->l[j]?=some x->p x=false)/\Below w.heap.size w wr) (fun _ k _=>n - (Af5 k).toNat)
 case atStart=>exact⟨0,Agm _,rfl,fun j _ hj=>by omega,Af6 _ _⟩
 case round=>
  obtain⟨i,hi,rfl,bt,hb⟩:=hrel;have HH:=Af3 (Afx bt hb);by_cases al:i<n
  ·obtain⟨ad,x,cs,rfl,aC,hx,rfl,-,au⟩:=H2.out i al
   have st:=Still.aK hb hB;have h0:=cC au st aC rfl;rw[Agp] at h0;have HX:=Af3 hx;clear bt hb hx au st;go_wp2;refine(HK.out wr x HH.out.2 (Agg HX.out)).mono ?_
   rintro e w1 ⟨rfl,ae⟩;have HB:=Af3 ae;clear ae;cases hp:p x with
   |true=>
    go_wp2;go_ret;exact⟨aX (Ej HX.out hp HH.out.1).symm,HH.out.2.trans (HB.out.mono HH.out.2.size)⟩
   |false=>
    go_wp2;go_roundw;case rel=>exact⟨i+1,by omega,by go_num,fun j y hj hy=>by
     rcases Agn.1 hj with h|rfl
     ·exact HH.out.1 j y h hy
     ·rw[HX.out] at hy;cases hy;exact hp,HH.out.2.trans (HB.out.mono HH.out.2.size)⟩
    case measure=>simp[Af5];omega
  ·have dL:i=n:=by omega
   subst dL;go_wp2;go_ret;exact⟨aX (Ei (fun j x hj=>HH.out.1 j x (by have:=(Agb.1 hj).1;have:=H.out;omega) hj)).symm,HH.out.2⟩
theorem SD{K:Nat}{lb:Array Value}{v:Value}{w:Aa4}{B:Nat}{l:List Int}(p:Int->Bool)(eg:∀args w,(callFunc K args).run prog w=.ok (.enter K args) w)
 (hv:Row w B 1 cH v l)(hB:B<=w.heap.size)
 (hK:∀(W:Aa4) (x:Int),Below w.heap.size w W->x∈l->Af1 prog K (#[.int .i64 x]++lb) W fun e W'=>e=.returned (.bool (p x))/\Below W.heap.size W W'):
 Af1 prog 177 #[v,fv K lb] w fun e w'=>e=.returned (.bool (l.any p))/\Below w.heap.size w w':=by
 have HV:=Af3 hv;have HK:=Af3 hK;clear hv hK;cases hp:l.any p with
 |true=>
  have hi:=(AR (l:=l) (p:=p)).1 hp;go_enter func177,Tryz.ntmps177;go_wp2;refine(VA p eg HV.out hB HK.out).mono ?_
  rintro e w1 ⟨rfl,ae⟩;go_wp2;go_ret;exact⟨b9 rfl,ae⟩
 |false=>
  have hi:=(Eh (l:=l) (p:=p)).1 hp;go_enter func177,Tryz.ntmps177;go_wp2;refine(VA p eg HV.out hB HK.out).mono ?_
  rintro e w1 ⟨rfl,ae⟩;go_wp2;go_ret;exact⟨b9 (by simp;omega),ae⟩
theorem Vz{K:Nat}{lb:Array Value}{v:Value}{w:Aa4}{B:Nat}{l:List an}(p:an->Bool)(eg:∀args w,(callFunc K args).run prog w=.ok (.enter K args) w)
 (hv:Row w B 3 an.R v l)(hB:B<=w.heap.size)
 (hK:∀(W:Aa4) (x:an),Below w.heap.size w W->x∈l->Af1 prog K (#[.agg #[.int .i64 x.a,.int .i64 x.b,.int .i64 x.c]]++lb) W fun e W'=>e=.returned (.bool (p x))/\Below W.heap.size W W'):
 Af1 prog 187 #[v,fv K lb] w fun e w'=>e=.returned (.int .i64 (pj p l))/\Below w.heap.size w w':=by
 obtain⟨A,n,c,rfl,hl,dX,hc,hr⟩:=hv.open_;unfold Af0 at hc;have H:=Af3 hl;have H2:=Af3 hr;have HK:=Af3 hK;clear hl hr hv hK;go_enter func187,Tryz.ntmps187;go_wp2;go_loopw [5,8] (fun t k wr=>∃i:Nat,i<=n/\k=.int .i64 i/\(∀j x,j<i->l[j]?=some x->p x=false)/\Below w.heap.size w wr) (fun _ k _=>n - (Af5 k).toNat)
 case atStart=>exact⟨0,Agm _,rfl,fun j _ hj=>by omega,Af6 _ _⟩
 case round=>
  obtain⟨i,hi,rfl,bt,hb⟩:=hrel;have HH:=Af3 (Afx bt hb);by_cases al:i<n
  ·obtain⟨ad,x,cs,rfl,aC,hx,rfl,-,au⟩:=H2.out i al
   have st:=Still.aK hb hB;have h0:=cC au st aC rfl;have h1:=bK au st aC 0 rfl;have h2:=bK au st aC 1 rfl;have HX:=Af3 hx;clear bt hb hx au st;go_wp2;refine(HK.out wr x HH.out.2 (Agg HX.out)).mono ?_
   rintro e w1 ⟨rfl,ae⟩;have HB:=Af3 ae;clear ae;cases hp:p x with
   |true=>
    go_wp2;go_ret;exact⟨aX (Ej HX.out hp HH.out.1).symm,HH.out.2.trans (HB.out.mono HH.out.2.size)⟩
   |false=>
    go_wp2;go_roundw;case rel=>exact⟨i+1,by omega,by go_num,fun j y hj hy=>by
     rcases Agn.1 hj with h|rfl
     ·exact HH.out.1 j y h hy
     ·rw[HX.out] at hy;cases hy;exact hp,HH.out.2.trans (HB.out.mono HH.out.2.size)⟩
    case measure=>simp[Af5];omega
  ·have dL:i=n:=by omega
   subst dL;go_wp2;go_ret;exact⟨aX (Ei (fun j x hj=>HH.out.1 j x (by have:=(Agb.1 hj).1;have:=H.out;omega) hj)).symm,HH.out.2⟩
theorem aaW{K:Nat}{lb:Array Value}{v:Value}{w:Aa4}{B:Nat}{l:List an}(p:an->Bool)(eg:∀args w,(callFunc K args).run prog w=.ok (.enter K args) w)
 (hv:Row w B 3 an.R v l)(hB:B<=w.heap.size)
 (hK:∀(W:Aa4) (x:an),Below w.heap.size w W->x∈l->Af1 prog K (#[.agg #[.int .i64 x.a,.int .i64 x.b,.int .i64 x.c]]++lb) W fun e W'=>e=.returned (.bool (p x))/\Below W.heap.size W W'):
 Af1 prog 150 #[v,fv K lb] w fun e w'=>e=.returned (.bool (l.any p))/\Below w.heap.size w w':=by
 have HV:=Af3 hv;have HK:=Af3 hK;clear hv hK;cases hp:l.any p with
 |true=>
  have hi:=(AR (l:=l) (p:=p)).1 hp;go_enter func150,Tryz.ntmps150;go_wp2;refine(Vz p eg HV.out hB HK.out).mono ?_
  rintro e w1 ⟨rfl,ae⟩;go_wp2;go_ret;exact⟨b9 rfl,ae⟩
 |false=>
  have hi:=(Eh (l:=l) (p:=p)).1 hp;go_enter func150,Tryz.ntmps150;go_wp2;refine(Vz p eg HV.out hB HK.out).mono ?_
  rintro e w1 ⟨rfl,ae⟩;go_wp2;go_ret;exact⟨b9 (by simp;omega),ae⟩
theorem fy{B:Nat}{W w1:Aa4}(hb:Below B W w1)(hB:B=W.heap.size):(∀b o,b<W.heap.size-> w1.cell? ⟨b,o,none⟩= W.cell? ⟨b,o,none⟩)/\(∀b o,b<W.heap.size-> w1.frozen? ⟨b,o,none⟩= W.frozen? ⟨b,o,none⟩):=by
 subst hB;exact⟨fun b o h=>hb.cell (p:=⟨b,o,none⟩) h,fun b o h=>hb.frozen (p:=⟨b,o,none⟩) h⟩
theorem Row.take{α:Type}{w:Aa4}{B sz:Nat}{R:α->List Value->Prop}{A:Option Addr}{n c:Nat}{l:List α}(h:Row w B sz R (.slice A n c) l){i:Nat}(hi:i<=n):Row w B sz R (.slice A i c) (l.take i):=by
 obtain⟨A',c',hv,h1,h2,h3⟩:=h;injection hv with e1 e2 e3
 subst e1;subst e3;subst e2
 have e:(l.take i).length=i:=by rw[List.length_take];omega
 refine⟨A,c,by rw[e],by omega,h2,fun hx=>?_⟩
 obtain⟨ad,ha,hb,hc⟩:=h3 (by rintro rfl;simp at hx)
 refine⟨ad,ha,hb,fun j x hj=>hc j x ?_⟩
 rw[List.getElem?_take] at hj;split at hj<;>simp_all
def scan{α:Type}(f:List α->α->Int):List α->List α->Int
 |_,[]=>0
 |dw,x::l=>if f dw x≠0 then f dw x else scan f (dw++ [x]) l
theorem W9{α:Type}{f:List α->α->Int}:∀(l dw:List α) (i:Nat) (x:α),l[i]?=some x->(∀(j:Nat) (y:α),j<i->l[j]?=some y->f (dw++l.take j) y=0)->f (dw++l.take i) x≠0->scan f dw l=f (dw++l.take i) x
 | [],_,_,_,h,_,_=>by simp at h
 |a::l,dw,0,x,h,_,hf=>by simp at h;subst h;simp at hf;simp[scan,hf]
 |a::l,dw,i+1,x,h,hz,hf=>by
  have h0:=hz 0 a (by omega) rfl
  simp at h0;have:=W9 l (dw++ [a]) i x (by simpa using h) (fun j y hj hy=>by simpa using hz (j+1) y (by omega) (by simpa using hy)) (by simpa using hf)
  simp[scan,h0,this]
theorem sf{α:Type}{f:List α->α->Int}{l:List α}{i:Nat}{x:α}(h:l[i]?=some x)(hz:∀(j:Nat) (y:α),j<i->l[j]?=some y->f (l.take j) y=0)(hf:f (l.take i) x≠0):scan f [] l=f (l.take i) x:=by
 simpa using W9 l [] i x h (by simpa using hz) (by simpa using hf)
theorem W8{α:Type}{f:List α->α->Int}:∀(l dw:List α),(∀(j:Nat) (y:α),l[j]?=some y->f (dw++l.take j) y=0)->scan f dw l=0
 | [],_,_=>rfl
 |a::l,dw,hz=>by
  have h0:=hz 0 a rfl;simp at h0;have:=W8 l (dw++ [a]) (fun j y hy=>by simpa using hz (j+1) y (by simpa using hy))
  simp[scan,h0,this]
theorem se{α:Type}{f:List α->α->Int}{l:List α}(hz:∀(j:Nat) (y:α),l[j]?=some y->f (l.take j) y=0):scan f [] l=0:=W8 l [] (by simpa using hz)
def ma(a b lo hi many:Int):Bool:=decide (lo<=a) && decide (a<=b) && decide (b<=hi) && decide (b - a<many)
theorem yu{a b lo hi many:Int}(pb:0<=lo)(Un:hi<=1000000)(w:Aa4):Af1 prog 154 #[.agg #[.int .i64 a,.int .i64 b],.int .i64 lo,.int .i64 hi,.int .i64 many] w fun e w'=>e=.returned (.bool (ma a b lo hi many))/\Below w.heap.size w w':=by
 go_enter func154,Tryz.ntmps154;go_wp2;all_goals go_ret
 all_goals (refine⟨b9 ?_,(Af6 _ _).alloc (Ac2 _) _⟩;unfold ma;first| (simp;done) | (simp;omega) | (simp[*];omega) | (simp[*];done))
theorem ag{n:Int}{pv bv tv:Value}(w:Aa4):Af1 prog 141 #[.agg #[.int .i64 n,pv,bv,tv]] w fun e w'=>e=.returned (.int .i64 (if bX n 0 3 then 0 else 1))/\Below w.heap.size w w':=by
 cases h:bX n 0 3;all_goals
  go_enter func141,Tryz.ntmps141;go_wp2_with (first
   | (go_at_call 134;refine(inside _ _ _ _).mono ?_;rintro e w' ⟨rfl,rfl⟩))
  go_ret;exact⟨aX rfl,(Af6 _ _).alloc (Ac2 _) _⟩
theorem there(k n:Int)(hn:0<=n)(w:Aa4)(TI:n<=9223372036854775807):Af1 prog 100 #[.int .i64 k,.int .i64 n] w fun e w'=>e=.returned (.int .i64 (if bX k 0 (n - 1) then 0 else 6))/\w=w':=by
 cases h:bX k 0 (n - 1);all_goals
  go_enter func100,Tryz.ntmps100;go_wp2_with (first
   | (go_at_call 134;refine(inside _ _ _ _).mono ?_;rintro e w' ⟨rfl,rfl⟩))
  go_ret;exact⟨aX rfl,rfl⟩
def jF(a b:ByteArray):Bool:=a.toList==b.toList
theorem I5{nm EE:ByteArray}{a b c:Int}{w:Aa4}{p:Addr}(hp: w.cell? p=some (.string EE))(DW:p.block<w.heap.size):
 Af1 prog 184 #[.agg #[.string nm,.int .i64 a,.int .i64 b,.int .i64 c],.pointer (some p)] w fun e w'=>e=.returned (.bool (jF nm EE))/\Below w.heap.size w w':=by
 go_enter func184,Tryz.ntmps184;go_wp2;go_ret;exact⟨b9 rfl,(Af6 _ _).alloc (Ac2 _) _⟩
theorem I6{nm EE:ByteArray}{a:Int}{kv:Value}{w:Aa4}{p:Addr}(hp: w.cell? p=some (.string EE))(DW:p.block<w.heap.size):
 Af1 prog 206 #[.agg #[.string nm,.int .i64 a,kv],.pointer (some p)] w fun e w'=>e=.returned (.bool (jF nm EE))/\Below w.heap.size w w':=by
 go_enter func206,Tryz.ntmps206;go_wp2;go_ret;exact⟨b9 rfl,(Af6 _ _).alloc (Ac2 _) _⟩
theorem cU{B:Nat}{w wr w1:Aa4}{o:Obj}(h:Below B w wr)(h1:Below (wr.alloc o).heap.size (wr.alloc o) w1)(hB:B<=wr.heap.size):Below B w w1:=
 h.trans (((Af6 _ _).alloc hB _).trans (h1.mono (by simp;omega)))
theorem chain{B:Nat}{w wr w1:Aa4}(h:Below B w wr)(h1:Below wr.heap.size wr w1)(hB:B<=wr.heap.size):Below B w w1:=h.trans (h1.mono hB)
theorem oE{wr w1:Aa4}{o:Obj}{B:Nat}(h:Below B (wr.alloc o) w1):wr.heap.size<w1.heap.size:=by have:=h.size;simp at this;omega
theorem app1{P:Aa6}{f:Nat}{a b:Value}{w:Aa4}{R:Ending->Aa4->Prop}(h:Af1 P f #[a,b] w R):Af1 P f (#[a]++#[b]) w R:=by
 have e:(#[a]++#[b]:Array Value)=#[a,b]:=by simp
 rw[e];exact h
theorem iU{B:Nat}{a w:Aa4}(h:Below B a.drew w):Below B a w:=⟨h.os,h.tape,h.output,h.size,h.block⟩
theorem iH{w wr:Aa4}{o:Obj}(h:Below (w.heap.size+1) (w.alloc o) wr):Below w.heap.size w wr:=((Af6 _ _).alloc (Ac2 _) _).trans (h.mono (by omega))
def kJ(dw:List Piece)(p:Piece):Int:=
 if mK p.name.data.toList then if dw.any (fun q=>jF q.name p.name) then 5 else if ma p.len.lo p.len.hi 1 40 3 then if bX p.bears 0 2 then 0 else 1 else 1 else 4
def iw(l:List Piece):Int:=if bX l.length 1 3 then scan kJ [] l else 2
theorem pieces{n:Int}{pv bv tv:Value}{w:Aa4}{B:Nat}{l:List Piece}(hv:Row w B 4 Piece.R pv l)(hB:B<=w.heap.size):
 Af1 prog 142 #[.agg #[.int .i64 n,pv,bv,tv]] w fun e w'=>e=.returned (.int .i64 (iw l))/\Below w.heap.size w w':=by
 have HV:=Af3 hv;obtain⟨A,m,c,rfl,hl,dX,hc,hr⟩:=hv.open_;have dC:=Af3 hl;unfold Af0 at hc;have H2:=Af3 hr;clear hl hr hv;cases hlen:bX m 1 3 with
 |false=>
  go_enter func142,Tryz.ntmps142;go_wp2_with (first
   | (go_at_call 134;refine(inside _ _ _ _).mono ?_;rintro e w' ⟨rfl,rfl⟩))
  go_ret;exact⟨aX (by unfold iw;rw[dC.out,hlen];rfl),(Af6 _ _).alloc (Ac2 _) _⟩
 |true=>
  go_enter func142,Tryz.ntmps142;go_wp2_with (first
   | (go_at_call 134;refine(inside _ _ _ _).mono ?_;rintro e w' ⟨rfl,rfl⟩))
  go_loopw [2,3,4,15] (fun r t q k wr=>∃i:Nat,i<=m/\k=.int .i64 i/\(∀(j:Nat) (x:Piece),j<i->l[j]?=some x->kJ (l.take j) x=0)/\Below (w.heap.size+1) (w.alloc (Af4 #[.int .i64 n,.slice A m c,bv,tv] 117)) wr) (fun _ _ _ k _=>m - (Af5 k).toNat)
  case atStart=>exact⟨0,Agm _,rfl,fun j _ hj=>by omega,Af6 _ _⟩
  case round=>
   obtain⟨i,hi,rfl,bt,hb⟩:=hrel;have HH:=Af3 (Afx bt hb);have dY:=hb.size;have aI:w.heap.size+1<=wr.heap.size:=by simpa using dY
   have tL:w.heap.size<=wr.heap.size:=by omega
   have DZ:w.heap.size<wr.heap.size:=by omega
   have ho: wr.cell? ⟨w.heap.size,1,none⟩=some (.slice A m c):=(hb.cell (p:=⟨w.heap.size,1,none⟩) (by simp)).trans (by simp[go_sem])
   by_cases al:i<m
   ·obtain⟨ad,x,cs,rfl,aC,hx,⟨rfl,dH⟩,-,au⟩:=H2.out i al
    have st:Still B w wr:=((Still.refl w).alloc hB _).trans (Still.aK hb (by omega))
    have ST:=Af3 st;have h0:=cC au st aC rfl;have h1:=bK au st aC 0 rfl;have h2:=bK au st aC 1 rfl;have h3:=bK au st aC 2 rfl;have HX:=Af3 hx;clear bt hb hx au st dY;have iC:=Af3 HH.out.2;have bad:∀s:Int,kJ (l.take i) x=s->s≠0->s=iw l:=fun s hs h0=>by
     unfold iw;rw[dC.out,hlen,if_pos rfl,sf HX.out HH.out.1 (by rw[hs];exact h0),hs]
    have fG:=Af3 bad;clear bad;cases dI:mK x.name.data.toList with
    |false=>
     go_wp2_with (first
      | (go_at_call 182;refine(isName dH _).mono ?_;rintro e w1 ⟨rfl,ae⟩;obtain⟨ff,gM⟩:=fy ae rfl))
     go_ret;exact⟨aX (fG.out 4 (by unfold kJ;rw[dI];rfl) (by omega)),iH (cU iC.out ae aI)⟩
    |true=>
     cases ld:(l.take i).any (fun q=>jF q.name x.name) with
     |true=>
      go_wp2_with (first
       | (go_at_call 182;refine(isName dH _).mono ?_;rintro e w1 ⟨rfl,ae⟩;obtain⟨ff,gM⟩:=fy ae rfl;have aN:wr.heap.size<w1.heap.size:=oE ae;have jA:w.heap.size<w1.heap.size:=Agq tL aN;have dO:=Af3 (cU iC.out ae aI);have kQ:Hid (w1.cell? ⟨wr.heap.size,0,none⟩=some (.string x.name)):=Af3 ((ff wr.heap.size 0 (by simp)).trans (Af8 wr _ _ _ 0));clear ae)
       | (go_at_call 183;have HS:=Af3 ((HV.out.take hi).still (Still.aK (iH dO.out) hB) fun _ _ h=>h);refine(GC (fun q=>jF q.name x.name) call184 HS.out (Ac3 hB (Agr jA)) (fun W y hW _ _=>app1 (I5 (p:=⟨wr.heap.size,0,none⟩) ((hW.cell (p:=⟨wr.heap.size,0,none⟩) aN).trans kQ.out) (Aeh aN hW.size)))).mono ?_;rintro e w2 ⟨rfl,ak⟩;obtain⟨ef,nD⟩:=fy ak rfl;have ba:wr.heap.size<w2.heap.size:=Aeh aN ak.size;have qH:w.heap.size<w2.heap.size:=Aeh jA ak.size;have et:=Af3 (chain dO.out ak jA);clear ak))
      go_ret;exact⟨aX (fG.out 5 (by unfold kJ;rw[dI,ld];rfl) (by omega)),iH et.out⟩
     |false=>
      cases ij:ma x.len.lo x.len.hi 1 40 3 with
      |false=>
       go_wp2_with (first
           | (go_at_call 182;refine(isName dH _).mono ?_;rintro e w1 ⟨rfl,ae⟩;obtain⟨ff,gM⟩:=fy ae rfl;have aN:wr.heap.size<w1.heap.size:=oE ae;have jA:w.heap.size<w1.heap.size:=Agq tL aN;have dO:=Af3 (cU iC.out ae aI);have kQ:Hid (w1.cell? ⟨wr.heap.size,0,none⟩=some (.string x.name)):=Af3 ((ff wr.heap.size 0 (by simp)).trans (Af8 wr _ _ _ 0));clear ae)
           | (go_at_call 183;have HS:=Af3 ((HV.out.take hi).still (Still.aK (iH dO.out) hB) fun _ _ h=>h);refine(GC (fun q=>jF q.name x.name) call184 HS.out (Ac3 hB (Agr jA)) (fun W y hW _ _=>app1 (I5 (p:=⟨wr.heap.size,0,none⟩) ((hW.cell (p:=⟨wr.heap.size,0,none⟩) aN).trans kQ.out) (Aeh aN hW.size)))).mono ?_;rintro e w2 ⟨rfl,ak⟩;obtain⟨ef,nD⟩:=fy ak rfl;have ba:wr.heap.size<w2.heap.size:=Aeh aN ak.size;have qH:w.heap.size<w2.heap.size:=Aeh jA ak.size;have et:=Af3 (chain dO.out ak jA);clear ak)
           | (go_at_call 154;refine(yu (by omega) (by omega) _).mono ?_;rintro e w3 ⟨rfl,bD⟩;obtain⟨He,xM⟩:=fy bD rfl;have B1:=Af3 (chain et.out bD qH);have jB:wr.heap.size<w3.heap.size:=Aeh ba bD.size;have Vq:w.heap.size<w3.heap.size:=Aeh qH bD.size;clear bD))
       go_ret;exact⟨aX (fG.out 1 (by unfold kJ;rw[dI,ld,ij];rfl) (by omega)),iH B1.out⟩
      |true=>
       cases yb:bX x.bears 0 2 with
       |false=>
        go_wp2_with (first
                | (go_at_call 182;refine(isName dH _).mono ?_;rintro e w1 ⟨rfl,ae⟩;obtain⟨ff,gM⟩:=fy ae rfl;have aN:wr.heap.size<w1.heap.size:=oE ae;have jA:w.heap.size<w1.heap.size:=Agq tL aN;have dO:=Af3 (cU iC.out ae aI);have kQ:Hid (w1.cell? ⟨wr.heap.size,0,none⟩=some (.string x.name)):=Af3 ((ff wr.heap.size 0 (by simp)).trans (Af8 wr _ _ _ 0));clear ae)
                | (go_at_call 183;have HS:=Af3 ((HV.out.take hi).still (Still.aK (iH dO.out) hB) fun _ _ h=>h);refine(GC (fun q=>jF q.name x.name) call184 HS.out (Ac3 hB (Agr jA)) (fun W y hW _ _=>app1 (I5 (p:=⟨wr.heap.size,0,none⟩) ((hW.cell (p:=⟨wr.heap.size,0,none⟩) aN).trans kQ.out) (Aeh aN hW.size)))).mono ?_;rintro e w2 ⟨rfl,ak⟩;obtain⟨ef,nD⟩:=fy ak rfl;have ba:wr.heap.size<w2.heap.size:=Aeh aN ak.size;have qH:w.heap.size<w2.heap.size:=Aeh jA ak.size;have et:=Af3 (chain dO.out ak jA);clear ak)
                | (go_at_call 154;refine(yu (by omega) (by omega) _).mono ?_;rintro e w3 ⟨rfl,bD⟩;obtain⟨He,xM⟩:=fy bD rfl;have B1:=Af3 (chain et.out bD qH);have jB:wr.heap.size<w3.heap.size:=Aeh ba bD.size;have Vq:w.heap.size<w3.heap.size:=Aeh qH bD.size;clear bD)
                | (go_at_call 134;refine(inside _ _ _ _).mono ?_;rintro e w' ⟨rfl,rfl⟩))
        go_ret;exact⟨aX (fG.out 1 (by unfold kJ;rw[dI,ld,ij,yb];rfl) (by omega)),iH B1.out⟩
       |true=>
        go_wp2_with (first
                | (go_at_call 182;refine(isName dH _).mono ?_;rintro e w1 ⟨rfl,ae⟩;obtain⟨ff,gM⟩:=fy ae rfl;have aN:wr.heap.size<w1.heap.size:=oE ae;have jA:w.heap.size<w1.heap.size:=Agq tL aN;have dO:=Af3 (cU iC.out ae aI);have kQ:Hid (w1.cell? ⟨wr.heap.size,0,none⟩=some (.string x.name)):=Af3 ((ff wr.heap.size 0 (by simp)).trans (Af8 wr _ _ _ 0));clear ae)
                | (go_at_call 183;have HS:=Af3 ((HV.out.take hi).still (Still.aK (iH dO.out) hB) fun _ _ h=>h);refine(GC (fun q=>jF q.name x.name) call184 HS.out (Ac3 hB (Agr jA)) (fun W y hW _ _=>app1 (I5 (p:=⟨wr.heap.size,0,none⟩) ((hW.cell (p:=⟨wr.heap.size,0,none⟩) aN).trans kQ.out) (Aeh aN hW.size)))).mono ?_;rintro e w2 ⟨rfl,ak⟩;obtain⟨ef,nD⟩:=fy ak rfl;have ba:wr.heap.size<w2.heap.size:=Aeh aN ak.size;have qH:w.heap.size<w2.heap.size:=Aeh jA ak.size;have et:=Af3 (chain dO.out ak jA);clear ak)
                | (go_at_call 154;refine(yu (by omega) (by omega) _).mono ?_;rintro e w3 ⟨rfl,bD⟩;obtain⟨He,xM⟩:=fy bD rfl;have B1:=Af3 (chain et.out bD qH);have jB:wr.heap.size<w3.heap.size:=Aeh ba bD.size;have Vq:w.heap.size<w3.heap.size:=Aeh qH bD.size;clear bD)
                | (go_at_call 134;refine(inside _ _ _ _).mono ?_;rintro e w' ⟨rfl,rfl⟩))
        go_roundw;case rel=>exact⟨i+1,by omega,by go_num,fun j y hj hy=>by
                rcases Agn.1 hj with h|rfl
                ·exact HH.out.1 j y h hy
                ·rw[HX.out] at hy;cases hy;unfold kJ;rw[dI,ld,ij,yb];rfl,B1.out⟩
        case measure=>simp[Af5];omega
   ·obtain rfl:i=m:=by omega
    go_wp2;go_ret;refine⟨aX ?_,iH HH.out.2⟩
    unfold iw;rw[dC.out,hlen,if_pos rfl,se (fun j x hj=>HH.out.1 j x (by have:=(Agb.1 hj).1;have:=dC.out;omega) hj)]
theorem nJ{n a b:Int}(h:bX n a b=true):a<=n/\n<=b:=by simpa [bX] using h
def lX(aH:Int):Int->List Span->Int
 |_,[]=>0
 |last,k::l=>if ma k.lo k.hi 0 (aH - 1) aH then if k.lo<=last then 7 else lX aH k.hi l else 1
def gJ(dw:List bR)(x:bR):Int:=
 if mK x.name.data.toList then if dw.any (fun q=>jF q.name x.name) then 5 else if bX x.aH 1 40 then if 3<x.cM.length then 2 else lX x.aH (-1) x.cM else 1 else 4
theorem drop_cons{α:Type}{l:List α}{i:Nat}{x:α}(h:l[i]?=some x):l.drop i=x::l.drop (i+1):=by
 obtain⟨hi,e⟩:=Agb.1 h
 rw[List.drop_eq_getElem_cons hi,e]
theorem bp{x:bR}{kv v:Value}{w:Aa4}{B:Nat}{l:List bR}(dH:x.name.size<=Af0)(hk:Row w B 2 Span.R kv x.cM)(hv:Row w B 3 (bR.R w B) v l)(hB:B<=w.heap.size):
 Af1 prog 185 #[.agg #[.string x.name,.int .i64 x.aH,kv],v] w fun e w'=>e=.returned (.int .i64 (gJ l x))/\Below w.heap.size w w':=by
 have HV:=Af3 hv;have HK:=Af3 hk;obtain⟨A,m,c,rfl,hl,dX,hc,hr⟩:=hk.open_;have dC:=Af3 hl;unfold Af0 at hc;have H2:=Af3 hr;have tL:w.heap.size<=w.heap.size:=Ac2 _;clear hl hr hk hv;cases dI:mK x.name.data.toList with
 |false=>
  go_enter func185,Tryz.ntmps185;go_wp2_with (first
   | (go_at_call 182;refine(isName dH _).mono ?_;rintro e w1 ⟨rfl,ae⟩;obtain⟨ff,gM⟩:=fy ae rfl))
  go_ret;exact⟨aX (by unfold gJ;rw[dI];rfl),cU (Af6 _ _) ae (Ac2 _)⟩
 |true=>
  cases ld:l.any (fun q=>jF q.name x.name) with
  |true=>
   go_enter func185,Tryz.ntmps185;go_wp2_with (first
    | (go_at_call 182;refine(isName dH _).mono ?_;rintro e w1 ⟨rfl,ae⟩;obtain⟨ff,gM⟩:=fy ae rfl;have aN:w.heap.size<w1.heap.size:=oE ae;have dO:=Af3 (cU (Af6 w.heap.size w) ae (Ac2 _));have kQ:Hid (w1.cell? ⟨w.heap.size,0,none⟩=some (.string x.name)):=Af3 ((ff w.heap.size 0 (by simp)).trans (Af8 w _ _ _ 0));clear ae)
    | (go_at_call 205;have HS:=Af3 (HV.out.still (Still.aK dO.out hB) fun _ _ h=>h.still (Still.aK dO.out hB));refine(GD (fun q=>jF q.name x.name) call206 HS.out (Ac3 hB (Agr aN)) (fun W y kv hW _ _ _=>app1 (I6 (p:=⟨w.heap.size,0,none⟩) ((hW.cell (p:=⟨w.heap.size,0,none⟩) aN).trans kQ.out) (Aeh aN hW.size)))).mono ?_;rintro e w2 ⟨rfl,ak⟩;obtain⟨ef,nD⟩:=fy ak rfl;have ba:w.heap.size<w2.heap.size:=Aeh aN ak.size;have et:=Af3 (chain dO.out ak (Agr aN));clear ak))
   go_ret;exact⟨aX (by unfold gJ;rw[dI,ld];rfl),et.out⟩
  |false=>
   cases ij:bX x.aH 1 40 with
   |false=>
    go_enter func185,Tryz.ntmps185;go_wp2_with (first
     | (go_at_call 182;refine(isName dH _).mono ?_;rintro e w1 ⟨rfl,ae⟩;obtain⟨ff,gM⟩:=fy ae rfl;have aN:w.heap.size<w1.heap.size:=oE ae;have dO:=Af3 (cU (Af6 w.heap.size w) ae (Ac2 _));have kQ:Hid (w1.cell? ⟨w.heap.size,0,none⟩=some (.string x.name)):=Af3 ((ff w.heap.size 0 (by simp)).trans (Af8 w _ _ _ 0));clear ae)
     | (go_at_call 205;have HS:=Af3 (HV.out.still (Still.aK dO.out hB) fun _ _ h=>h.still (Still.aK dO.out hB));refine(GD (fun q=>jF q.name x.name) call206 HS.out (Ac3 hB (Agr aN)) (fun W y kv hW _ _ _=>app1 (I6 (p:=⟨w.heap.size,0,none⟩) ((hW.cell (p:=⟨w.heap.size,0,none⟩) aN).trans kQ.out) (Aeh aN hW.size)))).mono ?_;rintro e w2 ⟨rfl,ak⟩;obtain⟨ef,nD⟩:=fy ak rfl;have ba:w.heap.size<w2.heap.size:=Aeh aN ak.size;have et:=Af3 (chain dO.out ak (Agr aN));clear ak)
     | (go_at_call 134;refine(inside _ _ _ _).mono ?_;rintro e w' ⟨rfl,rfl⟩))
    go_ret;exact⟨aX (by unfold gJ;rw[dI,ld,ij];rfl),et.out⟩
   |true=>
    obtain⟨pb,Un⟩:=nJ ij;by_cases h3:3<m
    ·go_enter func185,Tryz.ntmps185
     go_wp2_with (first
      | (go_at_call 182;refine(isName dH _).mono ?_;rintro e w1 ⟨rfl,ae⟩;obtain⟨ff,gM⟩:=fy ae rfl;have aN:w.heap.size<w1.heap.size:=oE ae;have dO:=Af3 (cU (Af6 w.heap.size w) ae (Ac2 _));have kQ:Hid (w1.cell? ⟨w.heap.size,0,none⟩=some (.string x.name)):=Af3 ((ff w.heap.size 0 (by simp)).trans (Af8 w _ _ _ 0));clear ae)
      | (go_at_call 205;have HS:=Af3 (HV.out.still (Still.aK dO.out hB) fun _ _ h=>h.still (Still.aK dO.out hB));refine(GD (fun q=>jF q.name x.name) call206 HS.out (Ac3 hB (Agr aN)) (fun W y kv hW _ _ _=>app1 (I6 (p:=⟨w.heap.size,0,none⟩) ((hW.cell (p:=⟨w.heap.size,0,none⟩) aN).trans kQ.out) (Aeh aN hW.size)))).mono ?_;rintro e w2 ⟨rfl,ak⟩;obtain⟨ef,nD⟩:=fy ak rfl;have ba:w.heap.size<w2.heap.size:=Aeh aN ak.size;have et:=Af3 (chain dO.out ak (Agr aN));clear ak)
      | (go_at_call 134;refine(inside _ _ _ _).mono ?_;rintro e w' ⟨rfl,rfl⟩))
     go_ret;exact⟨aX (by unfold gJ;rw[dI,ld,ij,dC.out];simp[h3]),et.out⟩
    ·go_enter func185,Tryz.ntmps185
     go_wp2_with (first
      | (go_at_call 182;refine(isName dH _).mono ?_;rintro e w1 ⟨rfl,ae⟩;obtain⟨ff,gM⟩:=fy ae rfl;have aN:w.heap.size<w1.heap.size:=oE ae;have dO:=Af3 (cU (Af6 w.heap.size w) ae (Ac2 _));have kQ:Hid (w1.cell? ⟨w.heap.size,0,none⟩=some (.string x.name)):=Af3 ((ff w.heap.size 0 (by simp)).trans (Af8 w _ _ _ 0));have YL:Hid (w1.cell? ⟨w.heap.size,1,none⟩=some (.int .i64 x.aH)):=Af3 ((ff w.heap.size 1 (by simp)).trans (Af8 w _ _ _ 1));clear ae)
      | (go_at_call 205;have HS:=Af3 (HV.out.still (Still.aK dO.out hB) fun _ _ h=>h.still (Still.aK dO.out hB));refine(GD (fun q=>jF q.name x.name) call206 HS.out (Ac3 hB (Agr aN)) (fun W y kv hW _ _ _=>app1 (I6 (p:=⟨w.heap.size,0,none⟩) ((hW.cell (p:=⟨w.heap.size,0,none⟩) aN).trans kQ.out) (Aeh aN hW.size)))).mono ?_;rintro e w2 ⟨rfl,ak⟩;obtain⟨ef,nD⟩:=fy ak rfl;have ba:w.heap.size<w2.heap.size:=Aeh aN ak.size;have et:=Af3 (chain dO.out ak (Agr aN));have YM:Hid (w2.cell? ⟨w.heap.size,1,none⟩=some (.int .i64 x.aH)):=Af3 ((ef w.heap.size 1 aN).trans YL.out);clear ak)
      | (go_at_call 134;refine(inside _ _ _ _).mono ?_;rintro e w' ⟨rfl,rfl⟩))
     clear ff gM ef nD;go_loopw [4,5,7,30] (fun r la q k wr=>∃(i:Nat) (z:Int),i<=m/\k=.int .i64 i/\la=.int .i64 z/\lX x.aH (-1) x.cM=lX x.aH z (x.cM.drop i)/\Below w2.heap.size w2 wr) (fun _ _ _ k _=>m - (Af5 k).toNat)
     case atStart=>exact⟨0,-1,Agm _,rfl,rfl,rfl,Af6 _ _⟩
     case round=>
      obtain⟨i,z,hi,rfl,rfl,bt,hb⟩:=hrel;have HH:=Af3 (Afx bt hb);have dY:=hb.size;have DZ:w.heap.size<wr.heap.size:=Aeh ba dY;have hlg: wr.cell? ⟨w.heap.size,1,none⟩=some (.int .i64 x.aH):=(hb.cell (p:=⟨w.heap.size,1,none⟩) ba).trans YM.out;by_cases al:i<m
      ·obtain⟨ad,y,cs,rfl,aC,hx,rfl,-,au⟩:=H2.out i al
       have st:Still B w wr:=(Still.aK et.out hB).trans (Still.aK hb (by omega))
       have h0:=cC au st aC rfl;have h1:=bK au st aC 0 rfl;have HX:=Af3 (drop_cons hx);clear bt hb hx au st;cases hq:ma y.lo y.hi 0 (x.aH - 1) x.aH with
       |false=>
        go_wp2_with (first
            | (go_at_call 154;refine(yu (by omega) (by omega) _).mono ?_;rintro e w3 ⟨rfl,bD⟩;obtain⟨He,xM⟩:=fy bD rfl))
        go_ret;exact⟨aX (by unfold gJ;rw[dI,ld,ij,dC.out];simp[h3,HH.out.1,HX.out,lX,hq]),chain et.out (cU HH.out.2 bD dY) (Agr ba)⟩
       |true=>
        go_wp2_with (first
            | (go_at_call 154;refine(yu (by omega) (by omega) _).mono ?_;rintro e w3 ⟨rfl,bD⟩;obtain⟨He,xM⟩:=fy bD rfl;have jB:wr.heap.size<w3.heap.size:=oE bD))
        ·have hz:y.lo<=z:=by assumption
         go_ret;exact⟨aX (by unfold gJ;rw[dI,ld,ij,dC.out];simp[h3,HH.out.1,HX.out,lX,hq,hz]),chain et.out (cU HH.out.2 bD dY) (Agr ba)⟩
        ·have hz:z<y.lo:=by assumption
         go_roundw;case rel=>exact⟨i+1,y.hi,by omega,by go_num,rfl,by rw[HH.out.1,HX.out];simp[lX,hq];omega,cU HH.out.2 bD dY⟩
         case measure=>simp[Af5];omega
      ·obtain rfl:i=m:=by omega
       go_wp2;go_ret;refine⟨aX ?_,chain et.out HH.out.2 (Agr ba)⟩
       unfold gJ;rw[dI,ld,ij,dC.out];simp[h3,HH.out.1]
       rw[Agh (Ago dC.out)];rfl
theorem ua{P:Aa6}{id:Nat}{Q:Exit->Act->Aa4->Prop}{a:Act}{w:Aa4}{l:List Oper}(n:Nat)(hm:P.follows .mixedOrders=true)(hB:Region.lexTailB .any l.toArray n=true)
 (h:wpStill P l.toArray w.drew (fun a'=>wpList P l.toArray Q (l.drop n) a' w.drew) (l.take n) a):(Code.region id l.toArray true).wp P Q a w:=
 wp_region_still_tail n hm hB h
def kC(l:List bR):Int:=if 3<l.length then 2 else scan gJ [] l
theorem aF{n:Int}{pv bv tv:Value}{w:Aa4}{B:Nat}{l:List bR}(hv:Row w B 3 (bR.R w B) bv l)(hB:B<=w.heap.size):
 Af1 prog 143 #[.agg #[.int .i64 n,pv,bv,tv]] w fun e w'=>e=.returned (.int .i64 (kC l))/\Below w.heap.size w w':=by
 have HV:=Af3 hv;obtain⟨A,m,c,rfl,hl,dX,hc,hr⟩:=hv.open_;have dC:=Af3 hl;unfold Af0 at hc;have H2:=Af3 hr;clear hl hr hv;by_cases hlen:3<m
 ·go_enter func143,Tryz.ntmps143
  go_wp2;go_ret;exact⟨aX (by unfold kC;rw[dC.out,if_pos hlen]),(Af6 _ _).alloc (Ac2 _) _⟩
 ·go_enter func143,Tryz.ntmps143
  go_wp2;go_loopw [2,3,4,5,15] (fun r t q s k wr=>∃i:Nat,i<=m/\k=.int .i64 i/\(∀(j:Nat) (x:bR),j<i->l[j]?=some x->gJ (l.take j) x=0)/\Below (w.heap.size+1) (w.alloc (Af4 #[.int .i64 n,pv,.slice A m c,tv] 117)) wr) (fun _ _ _ _ k _=>m - (Af5 k).toNat)
  case atStart=>exact⟨0,Agm _,rfl,fun j _ hj=>by omega,Af6 _ _⟩
  case round=>
   obtain⟨i,hi,rfl,bt,hb⟩:=hrel;have HH:=Af3 (Afx bt hb);have dY:=hb.size;have aI:w.heap.size+1<=wr.heap.size:=by simpa using dY
   have tL:w.heap.size<=wr.heap.size:=by omega
   have DZ:w.heap.size<wr.heap.size:=by omega
   have ho: wr.cell? ⟨w.heap.size,2,none⟩=some (.slice A m c):=(hb.cell (p:=⟨w.heap.size,2,none⟩) (by simp)).trans (by simp[go_sem])
   by_cases al:i<m
   ·obtain⟨ad,x,cs,rfl,aC,hx,⟨kv,rfl,dH,dj⟩,-,au⟩:=H2.out i al
    have st:Still B w wr:=((Still.refl w).alloc hB _).trans (Still.aK hb (by omega))
    have ST:=Af3 st;obtain⟨A2,c2,rfl,-⟩:=id dj;obtain⟨n2,dM⟩:∃n2,n2=x.cM.length:=⟨_,rfl⟩
    rw[<-dM] at dj au;clear dM;have sS:=Af3 dj;have h0:=cC au st aC rfl;have h1:=bK au st aC 0 rfl;have h2:=bK au st aC 1 rfl;have HX:=Af3 hx;clear bt hb hx au st dY dj;have iC:=Af3 HH.out.2;have DD:i<=c:=by omega
    go_wp2;refine ua 6 (by kernel_rfl) (by kernel_rfl) ?_
    simp only[Agi,Agj,Agk,Agl];repeat still_step
    refine wpStill_nil ?_
    have HS:Hid (Still B w (wr.alloc (Af4 #[Value.string x.name,Value.int Ack x.aH,Value.slice A2 n2 c2] 59)).drew):=Af3 fun p hp=>(Af7 wr _ p (by omega)).trans (ST.out p hp)
    have HR:=Af3 ((HV.out.take hi).still HS.out fun _ _ h=>h.still HS.out)
    have F7:=Af3 (sS.out.still HS.out fun _ _ h=>h)
    by_cases hz:gJ (l.take i) x=0
    ·go_wp2_with (first
      | (go_at_call 185;refine(bp dH F7.out HR.out (by simp;omega)).mono ?_;rintro e w1 ⟨rfl,ae⟩;have dO:=Af3 (cU iC.out (iU ae) aI);clear ae))
     go_roundw;case rel=>exact⟨i+1,by omega,by go_num,fun j y hj hy=>by
      rcases Agn.1 hj with h|rfl
      ·exact HH.out.1 j y h hy
      ·rw[HX.out] at hy;cases hy;exact hz,dO.out⟩
     case measure=>simp[Af5];omega
    ·go_wp2_with (first
      | (go_at_call 185;refine(bp dH F7.out HR.out (by simp;omega)).mono ?_;rintro e w1 ⟨rfl,ae⟩;have dO:=Af3 (cU iC.out (iU ae) aI);clear ae))
     go_ret;exact⟨aX (by unfold kC;rw[dC.out,if_neg hlen,sf HX.out HH.out.1 hz]),iH dO.out⟩
   ·obtain rfl:i=m:=by omega
    go_wp2;go_ret;refine⟨aX ?_,iH HH.out.2⟩
    unfold kC;rw[dC.out,if_neg hlen,se (fun j x hj=>HH.out.1 j x (by have:=(Agb.1 hj).1;have:=dC.out;omega) hj)]
def eE(np:Int):Option Int->List Int->Int
 |_,[]=>0
 |none,k::l=>if bX k 0 (np - 1) then eE np (some k) l else 6
 |some p,k::l=>if bX k 0 (np - 1) then if k<=p then 7 else eE np (some k) l else 6
def kh(np:Int)(t:Tape):Int:=
 if t.pieces.length=0 then 2 else if eE np none t.pieces≠0 then eE np none t.pieces else if ma t.sum.lo t.sum.hi 0 120 121 then 0 else 1
def kK(np:Int)(l:List Tape):Int:=if 4<l.length then 2 else scan (fun _ t=>kh np t) [] l
def l8(l:List Int)(i:Nat):Option Int:=if i=0 then none else l[i - 1]?
theorem aJ{n:Int}{pv bv tv:Value}{w:Aa4}{B:Nat}{lp:List Piece}{l:List Tape}(hp:Row w B 4 Piece.R pv lp)(hv:Row w B 3 (Tape.R w B) tv l)(hB:B<=w.heap.size):
 Af1 prog 144 #[.agg #[.int .i64 n,pv,bv,tv]] w fun e w'=>e=.returned (.int .i64 (kK lp.length l))/\Below w.heap.size w w':=by
 obtain⟨PA,np,pc,rfl,kH,Hv,vw,-⟩:=hp.open_;obtain⟨A,m,c,rfl,hl,dX,hc,hr⟩:=hv.open_;have dC:=Af3 hl;have DQ:=Af3 kH;unfold Af0 at hc vw;have H2:=Af3 hr;clear hl hr hv kH hp;by_cases hlen:4<m
 ·go_enter func144,Tryz.ntmps144
  go_wp2;go_ret;exact⟨aX (by unfold kK;rw[dC.out,if_pos hlen]),(Af6 _ _).alloc (Ac2 _) _⟩
 ·go_enter func144,Tryz.ntmps144
  go_wp2;go_loopw [2,4,5,6,16] (fun r t q s k wr=>∃i:Nat,i<=m/\k=.int .i64 i/\(∀(j:Nat) (x:Tape),j<i->l[j]?=some x->kh np x=0)/\Below (w.heap.size+1) (w.alloc (Af4 #[.int .i64 n,.slice PA np pc,bv,.slice A m c] 117)) wr) (fun _ _ _ _ k _=>m - (Af5 k).toNat)
  case atStart=>exact⟨0,Agm _,rfl,fun j _ hj=>by omega,Af6 _ _⟩
  case round=>
   obtain⟨i,hi,rfl,bt,hb⟩:=hrel;have HH:=Af3 (Afx bt hb);have dY:=hb.size;have aI:w.heap.size+1<=wr.heap.size:=by simpa using dY
   have tL:w.heap.size<=wr.heap.size:=by omega
   have DZ:w.heap.size<wr.heap.size:=by omega
   have ho: wr.cell? ⟨w.heap.size,1,none⟩=some (.slice PA np pc):=(hb.cell (p:=⟨w.heap.size,1,none⟩) (by simp)).trans (by simp[go_sem])
   by_cases al:i<m
   ·obtain⟨ad,x,cs,rfl,aC,hx,⟨kv,rfl,dj⟩,-,au⟩:=H2.out i al
    have st:Still B w wr:=((Still.refl w).alloc hB _).trans (Still.aK hb (by omega))
    obtain⟨KA,kn,kc,rfl,da,Uu,DJ,xS⟩:=dj.open_;unfold Af0 at DJ;have ST:=Af3 st;have KL:=Af3 da;have KR:=Af3 xS;have h0:=cC au st aC rfl;have h1:=bK au st aC 0 rfl;have h2:=bK au st aC 1 rfl;have HX:=Af3 hx;clear bt hb hx au st dY dj da xS;have iC:=Af3 HH.out.2;have bad:∀s:Int,kh np x=s->s≠0->s=kK lp.length l:=fun s hs h0=>by
     unfold kK;rw[dC.out,if_neg hlen,DQ.out,sf (f:=fun _ t=>kh np t) HX.out HH.out.1 (by rw[hs];exact h0),hs]
    have fG:=Af3 bad;clear bad;by_cases iM:kn=0
    ·subst iM
     go_wp2;go_ret;exact⟨aX (fG.out 2 (by unfold kh;rw[KL.out];rfl) (by omega)),iH (iC.out.trans ((Af6 _ _).alloc aI _))⟩
    ·have Hn:0<kn:=by omega
     have ig:((kn:Int)==0)=false:=by simp;omega
     go_wp2
     go_loop [2,5,6,27] (fun r q s k=>∃j:Nat,j<=kn/\k=.int .i64 j/\eE np none x.pieces=eE np (l8 x.pieces j) (x.pieces.drop j)) (fun _ _ _ k=>kn - (Af5 k).toNat)
     case atStart=>exact⟨0,Agm _,rfl,rfl⟩
     case round=>
      obtain⟨j,hj,rfl,vx⟩:=hrel;have RE:=Af3 vx;clear vx;by_cases nE:j<kn
      ·obtain⟨kd,y,jQ,rfl,qt,hy,rfl,-,ie⟩:=KR.out j nE
       have g0:=cC ie ST.out qt rfl;rw[Agp] at g0;have g1:(wr.alloc (Af4 #[Value.slice (some kd) kn kc,Value.int Ack x.sum.lo,Value.int Ack x.sum.hi] 95)).cell? (kd.add j)=some (.int .i64 y):=(Af7 wr _ _ (by rw[cq];omega)).trans g0
       clear g0;have HY:=Af3 hy;clear hy ie;cases dL:bX y 0 (np - 1) with
       |false=>
        go_wp2_with (first
            | (go_at_call 134;refine(inside _ _ _ _).mono ?_;rintro e w' ⟨rfl,rfl⟩))
        go_ret;refine⟨aX (fG.out 6 ?_ (by omega)),iH (iC.out.trans ((Af6 _ _).alloc aI _))⟩
        have e:eE np none x.pieces=6:=by
            rw[RE.out,drop_cons HY.out];cases l8 x.pieces j<;>simp[eE,dL]
        unfold kh;rw[KL.out,if_neg iM,e];rfl
       |true=>
        rcases Nat.eq_zero_or_pos j with uW|uW
        ·subst uW
         rw[show kd.add 0=kd from rfl] at g1
         go_wp2_with (first
            | (go_at_call 134;refine(inside _ _ _ _).mono ?_;rintro e w' ⟨rfl,rfl⟩))
         have hrel:eE np none x.pieces=eE np (l8 x.pieces 1) (x.pieces.drop 1):=by rw[RE.out,drop_cons HY.out];simp[l8,eE,dL,HY.out]
         go_round
         case rel=>exact⟨1,nE,by go_num,hrel⟩
         case measure=>simp[Af5];omega
        ·obtain⟨q,rfl⟩:∃q,j=q+1:=⟨j - 1,by omega⟩
         obtain⟨eT,z,SF,CQ,Uv,hz,rfl,-,vd⟩:=KR.out q (by omega)
         cases CQ;rw[show kd.add (q+1)=⟨kd.block,kd.off+(q+1),none⟩ from rfl] at g1
         have g2:=cC vd ST.out qt rfl;rw[Agp] at g2;have g3:(wr.alloc (Af4 #[Value.slice (some kd) kn kc,Value.int Ack x.sum.lo,Value.int Ack x.sum.hi] 95)).cell? (kd.add q)=some (.int .i64 z):=(Af7 wr _ _ (by rw[cq];omega)).trans g2
         have HZ:=Af3 hz;clear g2 hz vd;go_wp2_with (first
            | (go_at_call 134;refine(inside _ _ _ _).mono ?_;rintro e w' ⟨rfl,rfl⟩))
         ·have qI:y<=z:=by assumption
          go_ret;refine⟨aX (fG.out 7 ?_ (by omega)),iH (iC.out.trans ((Af6 _ _).alloc aI _))⟩
          have e:eE np none x.pieces=7:=by
              rw[RE.out,drop_cons HY.out];simp[l8,HZ.out,eE,dL,qI]
          unfold kh;rw[KL.out,if_neg iM,e];rfl
         ·have qI:z<y:=by assumption
          have hrel:eE np none x.pieces=eE np (l8 x.pieces (q+2)) (x.pieces.drop (q+2)):=by rw[RE.out,drop_cons HY.out];simp[l8,HZ.out,HY.out,eE,dL];omega
          go_round
          case rel=>exact⟨q+2,by omega,by go_num,hrel⟩
          case measure=>simp[Af5];omega
      ·obtain rfl:j=kn:=by omega
       have e:eE np none x.pieces=0:=by
           rw[RE.out,Agh (Ago KL.out)];cases l8 x.pieces j<;>rfl
       have HE:=Af3 e;clear e;cases rR:ma x.sum.lo x.sum.hi 0 120 121 with
       |false=>
        go_wp2_with (first
            | (go_at_call 154;refine(yu (by omega) (by omega) _).mono ?_;rintro e w3 ⟨rfl,bD⟩))
        go_ret;exact⟨aX (fG.out 1 (by unfold kh;rw[KL.out,if_neg iM,HE.out,rR];rfl) (by omega)),iH (cU iC.out bD aI)⟩
       |true=>
        go_wp2_with (first
            | (go_at_call 154;refine(yu (by omega) (by omega) _).mono ?_;rintro e w3 ⟨rfl,bD⟩))
        go_roundw;case rel=>exact⟨i+1,by omega,by go_num,fun k y hk hy=>by
            rcases Agn.1 hk with h|rfl
            ·exact HH.out.1 k y h hy
            ·rw[HX.out] at hy;cases hy;unfold kh;rw[KL.out,if_neg iM,HE.out,rR];rfl,cU iC.out bD aI⟩
        case measure=>simp[Af5];omega
   ·obtain rfl:i=m:=by omega
    go_wp2;go_ret;refine⟨aX ?_,iH HH.out.2⟩
    unfold kK;rw[dC.out,if_neg hlen,DQ.out,se (f:=fun _ t=>kh np t) (fun j x hj=>HH.out.1 j x (by have:=(Agb.1 hj).1;have:=dC.out;omega) hj)]
end Go.Tw
namespace Go.Tw
variable [Go.Tw.aR]
open Go Go.Proofs Go.RowKit
def jP(b:ao):List Int:=[if bX b.ag 0 3 then 0 else 1,iw b.pieces,kC b.aF,kK b.pieces.length b.aJ]
def dF(b:ao):Int:=scan (fun _ s=>s) [] (jP b)
def pE(w:Aa4)(s:Int)(p q r:Value):Aa4:=
 ((w.alloc (Af4 #[Value.int Ack s,p,q,r] 26)).alloc (Af4 #[Value.int Ack s,p,q,r] 117)).alloc
   (Af4 #[Value.func (Fn.func 141) #[Value.agg #[Value.int Ack s,p,q,r]] #[],Value.func (Fn.func 142) #[Value.agg #[Value.int Ack s,p,q,r]] #[],Value.func (Fn.func 143) #[Value.agg #[Value.int Ack s,p,q,r]] #[],Value.func (Fn.func 144) #[Value.agg #[Value.int Ack s,p,q,r]] #[]] 175)
section
variable (w:Aa4)(s:Int)(p q r:Value)
theorem amM:(pE w s p q r).heap.size=w.heap.size+3:=by simp[pE]
theorem amH:Below w.heap.size w (pE w s p q r):=(((Af6 _ _).alloc (Ac2 _) _).alloc (by simp) _).alloc (by simp;omega) _
theorem amI:(pE w s p q r).cell? ⟨w.heap.size+1+1,0,none⟩=some (Value.func (Fn.func 141) #[Value.agg #[Value.int Ack s,p,q,r]] #[]):=by simp[pE,go_sem]
theorem amJ:(pE w s p q r).cell? ⟨w.heap.size+1+1,1,none⟩=some (Value.func (Fn.func 142) #[Value.agg #[Value.int Ack s,p,q,r]] #[]):=by simp[pE,go_sem]
theorem amK:(pE w s p q r).cell? ⟨w.heap.size+1+1,2,none⟩=some (Value.func (Fn.func 143) #[Value.agg #[Value.int Ack s,p,q,r]] #[]):=by simp[pE,go_sem]
theorem amL:(pE w s p q r).cell? ⟨w.heap.size+1+1,3,none⟩=some (Value.func (Fn.func 144) #[Value.agg #[Value.int Ack s,p,q,r]] #[]):=by simp[pE,go_sem]
end
theorem LS{b:ao}{pv bv tv:Value}{w:Aa4}{B:Nat}(hb:bg w B b pv bv tv)(hB:B<=w.heap.size):
 Af1 prog 68 #[.agg #[.int .i64 b.ag,pv,bv,tv]] w fun e w'=>e=.returned (.int .i64 (dF b))/\Below w.heap.size w w':=by
 have HB:=Af3 hb;obtain⟨A1,c1,e1,-⟩:=id hb.pieces;obtain⟨A2,c2,e2,-⟩:=id hb.aF;obtain⟨A3,c3,e3,-⟩:=id hb.aJ;obtain⟨n1,h1⟩:∃n,n=b.pieces.length:=⟨_,rfl⟩
 obtain⟨n2,h2⟩:∃n,n=b.aF.length:=⟨_,rfl⟩
 obtain⟨n3,h3⟩:∃n,n=b.aJ.length:=⟨_,rfl⟩
 rw[<-h1] at e1;rw[<-h2] at e2;rw[<-h3] at e3
 subst e1;subst e2;subst e3
 clear hb h1 h2 h3;go_enter func68,Tryz.ntmps68;go_wp2;go_loopw [2,5,6,19] (fun a f u k wr=>∃i:Nat,i<=4/\k=.int .i64 i/\(∀(j:Nat) (x:Int),j<i->(jP b)[j]?=some x->x=0)/\Below (w.heap.size+3) (pE w b.ag (.slice A1 n1 c1) (.slice A2 n2 c2) (.slice A3 n3 c3)) wr) (fun _ _ _ k _=>4 - (Af5 k).toNat)
 case atStart=>exact⟨0,Agm _,rfl,fun j _ hj=>by omega,Af6 _ _⟩
 case round=>
  obtain⟨i,hi,rfl,bt,fX⟩:=hrel;have HH:=Af3 (Afx bt fX);have aI:w.heap.size+3<=wr.heap.size:=by have:=fX.size;rw[amM] at this;exact this
  have pN:=Af3 ((amH w b.ag (.slice A1 n1 c1) (.slice A2 n2 c2) (.slice A3 n3 c3)).trans (fX.mono (by omega)))
  have bT:=Af3 (HB.out.still (Still.aK pN.out hB));have Mw:B<=wr.heap.size:=by omega
  clear bt;have done:∀(s:Int),(jP b)[i]?=some s->s≠0->s=dF b:=fun s hs h0=>(sf (f:=fun _ s=>s) hs HH.out.1 h0).symm
  have F0:=Af3 done;clear done;have next:∀(s:Int),(jP b)[i]?=some s->s=0->∀(j:Nat) (x:Int),j<i+1->(jP b)[j]?=some x->x=0:=fun s hs h0 j x hj hx=>by
   rcases Agn.1 hj with h|rfl
   ·exact HH.out.1 j x h hx
   ·rw[hs] at hx;cases hx;exact h0
  have Ge:=Af3 next
  clear next
  by_cases al:i<4
  ·match i,al with
   |0,_=>
    have g:=(fX.cell (p:=⟨w.heap.size+1+1,0,none⟩) (by simp)).trans (amI _ _ _ _ _)
    clear fX;have call:Af1 prog 141 #[.agg #[.int .i64 b.ag,.slice A1 n1 c1,.slice A2 n2 c2,.slice A3 n3 c3]] wr fun e w'=>e=.returned (.int .i64 (if bX b.ag 0 3 then 0 else 1))/\Below wr.heap.size wr w':=(ag _)
    obtain⟨s,hs⟩:∃s:Int,s=(if bX b.ag 0 3 then 0 else 1):=⟨_,rfl⟩
    rw[<-hs] at call;have cD:(jP b)[0]?=some s:=by rw[hs];rfl
    have HS:=Af3 cD;have aB:=Af3 call;clear hs cD call;by_cases h0:s=0
    ·go_wp2_with (first
      | (go_at_call 141;refine aB.out.mono ?_;rintro e w1 ⟨rfl,ae⟩;have aY:=Af3 ae;clear ae))
     go_roundw;case rel=>exact⟨0+1,by omega,by go_num,Ge.out s HS.out h0,HH.out.2.trans (aY.out.mono aI)⟩
     case measure=>simp[Af5]
    ·go_wp2_with (first
      | (go_at_call 141;refine aB.out.mono ?_;rintro e w1 ⟨rfl,ae⟩;have aY:=Af3 ae;clear ae))
     go_ret;exact⟨aX (F0.out s HS.out h0),pN.out.trans (aY.out.mono (by omega))⟩
   |1,_=>
    have g:=(fX.cell (p:=⟨w.heap.size+1+1,1,none⟩) (by simp)).trans (amJ _ _ _ _ _)
    clear fX;have call:Af1 prog 142 #[.agg #[.int .i64 b.ag,.slice A1 n1 c1,.slice A2 n2 c2,.slice A3 n3 c3]] wr fun e w'=>e=.returned (.int .i64 (iw b.pieces))/\Below wr.heap.size wr w':=(pieces bT.out.pieces Mw)
    obtain⟨s,hs⟩:∃s:Int,s=(iw b.pieces):=⟨_,rfl⟩
    rw[<-hs] at call;have cD:(jP b)[1]?=some s:=by rw[hs];rfl
    have HS:=Af3 cD;have aB:=Af3 call;clear hs cD call;by_cases h0:s=0
    ·go_wp2_with (first
      | (go_at_call 142;refine aB.out.mono ?_;rintro e w1 ⟨rfl,ae⟩;have aY:=Af3 ae;clear ae))
     go_roundw;case rel=>exact⟨1+1,by omega,by go_num,Ge.out s HS.out h0,HH.out.2.trans (aY.out.mono aI)⟩
     case measure=>simp[Af5]
    ·go_wp2_with (first
      | (go_at_call 142;refine aB.out.mono ?_;rintro e w1 ⟨rfl,ae⟩;have aY:=Af3 ae;clear ae))
     go_ret;exact⟨aX (F0.out s HS.out h0),pN.out.trans (aY.out.mono (by omega))⟩
   |2,_=>
    have g:=(fX.cell (p:=⟨w.heap.size+1+1,2,none⟩) (by simp)).trans (amK _ _ _ _ _)
    clear fX;have call:Af1 prog 143 #[.agg #[.int .i64 b.ag,.slice A1 n1 c1,.slice A2 n2 c2,.slice A3 n3 c3]] wr fun e w'=>e=.returned (.int .i64 (kC b.aF))/\Below wr.heap.size wr w':=(aF bT.out.aF Mw)
    obtain⟨s,hs⟩:∃s:Int,s=(kC b.aF):=⟨_,rfl⟩
    rw[<-hs] at call;have cD:(jP b)[2]?=some s:=by rw[hs];rfl
    have HS:=Af3 cD;have aB:=Af3 call;clear hs cD call;by_cases h0:s=0
    ·go_wp2_with (first
      | (go_at_call 143;refine aB.out.mono ?_;rintro e w1 ⟨rfl,ae⟩;have aY:=Af3 ae;clear ae))
     go_roundw;case rel=>exact⟨2+1,by omega,by go_num,Ge.out s HS.out h0,HH.out.2.trans (aY.out.mono aI)⟩
     case measure=>simp[Af5]
    ·go_wp2_with (first
      | (go_at_call 143;refine aB.out.mono ?_;rintro e w1 ⟨rfl,ae⟩;have aY:=Af3 ae;clear ae))
     go_ret;exact⟨aX (F0.out s HS.out h0),pN.out.trans (aY.out.mono (by omega))⟩
   |3,_=>
    have g:=(fX.cell (p:=⟨w.heap.size+1+1,3,none⟩) (by simp)).trans (amL _ _ _ _ _)
    clear fX;have call:Af1 prog 144 #[.agg #[.int .i64 b.ag,.slice A1 n1 c1,.slice A2 n2 c2,.slice A3 n3 c3]] wr fun e w'=>e=.returned (.int .i64 (kK b.pieces.length b.aJ))/\Below wr.heap.size wr w':=(aJ bT.out.pieces bT.out.aJ Mw)
    obtain⟨s,hs⟩:∃s:Int,s=(kK b.pieces.length b.aJ):=⟨_,rfl⟩
    rw[<-hs] at call;have cD:(jP b)[3]?=some s:=by rw[hs];rfl
    have HS:=Af3 cD;have aB:=Af3 call;clear hs cD call;by_cases h0:s=0
    ·go_wp2_with (first
      | (go_at_call 144;refine aB.out.mono ?_;rintro e w1 ⟨rfl,ae⟩;have aY:=Af3 ae;clear ae))
     go_roundw;case rel=>exact⟨3+1,by omega,by go_num,Ge.out s HS.out h0,HH.out.2.trans (aY.out.mono aI)⟩
     case measure=>simp[Af5]
    ·go_wp2_with (first
      | (go_at_call 144;refine aB.out.mono ?_;rintro e w1 ⟨rfl,ae⟩;have aY:=Af3 ae;clear ae))
     go_ret;exact⟨aX (F0.out s HS.out h0),pN.out.trans (aY.out.mono (by omega))⟩
  ·obtain rfl:i=4:=by omega
   clear fX;go_wp2;go_ret;refine⟨aX (se (f:=fun _ s=>s) (fun j x hx=>HH.out.1 j x (by have:=(Agb.1 hx).1;simpa [jP] using this) hx)).symm,pN.out⟩
end Go.Tw
namespace Go.Tw
variable [Go.Tw.aR]
open Go Go.Proofs Go.RowKit
def po(c d:Cut):Int:=if c.bp≠d.bp then c.bp - d.bp else c.from_ - d.from_
theorem less{c d:Cut}{w:Aa4}(h1:0<=c.bp)(h2:0<=d.bp)(h3:0<=c.from_)(h4:0<=d.from_)(h5:c.bp<=1000)(h6:d.bp<=1000)(h7:c.from_<=1000)(h8:d.from_<=1000):
 Af1 prog 173 #[.agg #[.int .i64 c.bp,.int .i64 c.from_],.agg #[.int .i64 d.bp,.int .i64 d.from_]] w fun e w'=>e=.returned (.int .i64 (po c d))/\Below w.heap.size w w':=by
 by_cases h:c.bp=d.bp
 ·have hb:(c.bp !=d.bp)=false:=by simp[h]
  have H:=Af3 h;clear h;go_enter func173,Tryz.ntmps173;go_wp2;go_ret;exact⟨aX (by unfold po;rw[if_neg (by simp[H.out])]),((Af6 _ _).alloc (Ac2 _) _).alloc (by simp) _⟩
 ·have hb:(c.bp !=d.bp)=true:=by simp[h]
  have H:=Af3 h;clear h;go_enter func173,Tryz.ntmps173;go_wp2;go_ret;exact⟨aX (by unfold po;rw[if_pos H.out]),((Af6 _ _).alloc (Ac2 _) _).alloc (by simp) _⟩
def nv(s:Int)(c d:Cut)(n m:Int):Bool:= !(c.bp==d.bp) || (decide (c.from_+n+s<=d.from_) ||decide (d.from_+m+s<=c.from_))
theorem apart{s n m:Int}{c d:Cut}{pv bv tv:Value}{w:Aa4}(h1:0<=s/\s<=1000)(h2:0<=n/\n<=1000)(h3:0<=m/\m<=1000)(h4:0<=c.from_/\c.from_<=1000)(h5:0<=d.from_/\d.from_<=1000)
 (hp:∃A n c,pv=.slice A n c)(hb:∃A n c,bv=.slice A n c)(ht:∃A n c,tv=.slice A n c):
 Af1 prog 166 #[.agg #[.int .i64 s,pv,bv,tv],.agg #[.int .i64 c.bp,.int .i64 c.from_],.agg #[.int .i64 d.bp,.int .i64 d.from_],.int .i64 n,.int .i64 m] w fun e w'=>e=.returned (.bool (nv s c d n m))/\Below w.heap.size w w':=by
 obtain⟨A1,n1,c1,rfl⟩:=hp;obtain⟨A2,n2,c2,rfl⟩:=hb;obtain⟨A3,n3,c3,rfl⟩:=ht;obtain⟨h1,ez⟩:=h1;obtain⟨h2,dW⟩:=h2;obtain⟨h3,rD⟩:=h3;obtain⟨h4,h4'⟩:=h4;obtain⟨h5,GW⟩:=h5;by_cases h:c.bp=d.bp
 ·have hb:(c.bp !=d.bp)=false:=by simp[h]
  have H:=Af3 h;clear h;go_enter func166,Tryz.ntmps166;go_wp2;all_goals go_ret
  all_goals refine⟨b9 ?_,(((Af6 _ _).alloc (Ac2 _) _).alloc (by simp) _).alloc (by simp;omega) _⟩
  all_goals (unfold nv;simp[H.out];try omega)
 ·have hb:(c.bp !=d.bp)=true:=by simp[h]
  have H:=Af3 h;clear h;go_enter func166,Tryz.ntmps166;go_wp2;go_ret;exact⟨b9 (by unfold nv;simp[H.out]),(((Af6 _ _).alloc (Ac2 _) _).alloc (by simp) _).alloc (by simp;omega) _⟩
theorem VY(n:Int)(w:Aa4):Af1 prog 178 (#[.int .i64 n]++#[]) w fun e w'=>e=.returned (.bool (!bX n 1 40))/\Below w.heap.size w w':=by
 have e:(#[Value.int .i64 n]++#[]:Array Value)=#[.int .i64 n]:=by simp
 rw[e];go_enter func178,Tryz.ntmps178;go_wp2_with (first
  | (go_at_call 134;refine(inside _ _ _ _).mono ?_;rintro e w' ⟨rfl,rfl⟩))
 go_ret;exact⟨b9 rfl,Af6 _ _⟩
def qL(b:ao)(l:List Int):Int:=if l.length≠b.pieces.length then 2 else if l.any (fun n=> !bX n 1 40) then 1 else 0
theorem ahh{b:ao}{l:List Int}{pv bv tv lv:Value}{w:Aa4}{B:Nat}(hb:bg w B b pv bv tv)(hl:Row w B 1 cH lv l)(hB:B<=w.heap.size):
 Af1 prog 127 #[.agg #[.int .i64 b.ag,pv,bv,tv],lv] w fun e w'=>e=.returned (.int .i64 (qL b l))/\Below w.heap.size w w':=by
 have HB:=Af3 hb;have HL:=Af3 hl;obtain⟨A1,n1,c1,rfl,e1,h1,ez,-⟩:=hb.pieces.open_;obtain⟨A2,n2,c2,rfl,-⟩:=hb.aF.open_;obtain⟨A3,n3,c3,rfl,-⟩:=hb.aJ.open_;obtain⟨A,m,c,rfl,e2,h2,dW,-⟩:=hl.open_;unfold Af0 at ez dW;have E1:=Af3 e1;have E2:=Af3 e2;clear hb hl e1 e2;by_cases fC:m=n1
 ·have hq:((m:Int) !=(n1:Int))=false:=by simp[fC]
  have HQ:=Af3 fC;clear fC;cases ha:l.any (fun n=> !bX n 1 40) with
  |true=>
   go_enter func127,Tryz.ntmps127;go_wp2_with (first
    | (go_at_call 177;refine(SD (fun n=> !bX n 1 40) call178 (HL.out.still (Still.aK ((Af6 w.heap.size w).alloc (Ac2 _) _) hB) fun _ _ h=>h) (by simp;omega) (fun W x _ _=>VY x W)).mono ?_;rintro e w1 ⟨rfl,ae⟩))
   go_ret;exact⟨aX (by unfold qL;rw[E1.out,E2.out,if_neg (by simp[HQ.out]),ha];rfl),cU (Af6 _ _) ae (Ac2 _)⟩
  |false=>
   go_enter func127,Tryz.ntmps127;go_wp2_with (first
    | (go_at_call 177;refine(SD (fun n=> !bX n 1 40) call178 (HL.out.still (Still.aK ((Af6 w.heap.size w).alloc (Ac2 _) _) hB) fun _ _ h=>h) (by simp;omega) (fun W x _ _=>VY x W)).mono ?_;rintro e w1 ⟨rfl,ae⟩))
   go_ret;exact⟨aX (by unfold qL;rw[E1.out,E2.out,if_neg (by simp[HQ.out]),ha];rfl),cU (Af6 _ _) ae (Ac2 _)⟩
 ·have hq:((m:Int) !=(n1:Int))=true:=by simp;omega
  have HQ:=Af3 fC;clear fC;go_enter func127,Tryz.ntmps127;go_wp2;go_ret;exact⟨aX (by unfold qL;rw[E1.out,E2.out,if_pos HQ.out]),(Af6 _ _).alloc (Ac2 _) _⟩
end Go.Tw
namespace Go.Tw
variable [Go.Tw.aR]
open Go Go.Proofs Go.RowKit
def lW(w:Aa4)(s:Int)(p q r:Value)(k f:Int)(nm:ByteArray)(aH:Int)(kv:Value):Aa4:=
 ((w.alloc (Af4 #[.int .i64 s,p,q,r] 117)).alloc (Af4 #[.int .i64 k,.int .i64 f] 56)).alloc (Af4 #[.string nm,.int .i64 aH,kv] 59)
section
variable (w:Aa4)(s:Int)(p q r:Value)(k f:Int)(nm:ByteArray)(aH:Int)(kv:Value)
theorem agM:(lW w s p q r k f nm aH kv).heap.size=w.heap.size+3:=by simp[lW]
theorem agL:Below w.heap.size w (lW w s p q r k f nm aH kv):=(((Af6 _ _).alloc (Ac2 _) _).alloc (by simp) _).alloc (by simp;omega) _
theorem agG:(lW w s p q r k f nm aH kv).cell? ⟨w.heap.size,1,none⟩=some p:=by simp[lW,go_sem]
theorem agH:(lW w s p q r k f nm aH kv).cell? ⟨w.heap.size+1,1,none⟩=some (.int .i64 f):=by simp[lW,go_sem]
theorem agI:(lW w s p q r k f nm aH kv).cell? ⟨w.heap.size+1+1,0,none⟩=some (.string nm):=by simp[lW,go_sem]
theorem agJ:(lW w s p q r k f nm aH kv).cell? ⟨w.heap.size+1+1,1,none⟩=some (.int .i64 aH):=by simp[lW,go_sem]
theorem agK:(lW w s p q r k f nm aH kv).cell? ⟨w.heap.size+1+1,2,none⟩=some kv:=by simp[lW,go_sem]
end
def tR(x:bR)(bears length:Int)(c:Cut):Bool:=decide (c.from_+length - 1<x.aH) && decide (lh x.cM c.from_ (c.from_+length - 1)<=bears)
theorem VW{b:ao}{i k:Nat}{p:Piece}{x:bR}{from_ length:Int}{pv bv tv:Value}{w:Aa4}{B:Nat}(hb:bg w B b pv bv tv)(hB:B<=w.heap.size)
 (hp:b.pieces[i]?=some p)(hx:b.aF[k]?=some x)(hf:0<=from_/\from_<=1000)(hl:0<=length/\length<=1000):
 Af1 prog 165 #[.agg #[.int .i64 b.ag,pv,bv,tv],.int .i64 i,.int .i64 length,.agg #[.int .i64 k,.int .i64 from_]] w fun e w'=>e=.returned (.bool (tR x p.bears length ⟨k,from_⟩))/\Below w.heap.size w w':=by
 have HB:=Af3 hb;obtain⟨A1,n1,c1,rfl,e1,h1,ez,r1⟩:=hb.pieces.open_;obtain⟨A2,n2,c2,rfl,e2,h2,dW,r2⟩:=hb.aF.open_;obtain⟨A3,n3,c3,rfl,-⟩:=hb.aJ.open_;unfold Af0 at ez dW;have hi:i<n1:=by have:=(Agb.1 hp).1;omega
 have hk:k<n2:=by have:=(Agb.1 hx).1;omega
 obtain⟨ee,p',uQ,rfl,Ac,DV,⟨rfl,UX⟩,-,ff⟩:=r1 i hi;obtain⟨cI,x',jQ,rfl,fV,jz,⟨kv,rfl,UY,dj⟩,-,ef⟩:=r2 k hk;obtain rfl:p'=p:=by rw[DV] at hp;exact Ac5 hp
 obtain rfl:x'=x:=by rw[jz] at hx;exact Ac5 hx
 obtain⟨A4,n4,c4,rfl,-⟩:=dj.open_;have st:=Still.refl (B:=B) w;have g3:=bK ff st Ac 2 rfl;have b0:=cC ef st fV rfl;have b1:=bK ef st fV 0 rfl;have b2:=bK ef st fV 1 rfl;have sS:=Af3 dj;obtain⟨hf,Hg⟩:=hf;obtain⟨hl,dC⟩:=hl;clear hb e1 e2 r1 r2 hp hx DV jz ff ef dj st;have q0:(cI.add (k * 3)).block<w.heap.size:=by rw[cq];omega
 have q1:(cI.add (k * 3)).block<=w.heap.size:=by omega
 have q2:(cI.add (k * 3)).block<=w.heap.size+1:=by omega
 have s0:(ee.add (i * 4)).block<w.heap.size:=by rw[cq];omega
 have s1:(ee.add (i * 4)).block<=w.heap.size:=by omega
 have s2:(ee.add (i * 4)).block<=w.heap.size+1:=by omega
 by_cases UE:from_+length - 1<x'.aH
 ·go_enter func165,Tryz.ntmps165
  go_wp2;have HW:=Af3 (agL w b.ag (.slice (some ee) n1 c1) (.slice (some cI) n2 c2) (.slice A3 n3 c3) k from_ x'.name x'.aH (.slice A4 n4 c4));have k1:=agG w b.ag (.slice (some ee) n1 c1) (.slice (some cI) n2 c2) (.slice A3 n3 c3) k from_ x'.name x'.aH (.slice A4 n4 c4);have k2:=agH w b.ag (.slice (some ee) n1 c1) (.slice (some cI) n2 c2) (.slice A3 n3 c3) k from_ x'.name x'.aH (.slice A4 n4 c4);have yv:=agI w b.ag (.slice (some ee) n1 c1) (.slice (some cI) n2 c2) (.slice A3 n3 c3) k from_ x'.name x'.aH (.slice A4 n4 c4);have yx:=agJ w b.ag (.slice (some ee) n1 c1) (.slice (some cI) n2 c2) (.slice A3 n3 c3) k from_ x'.name x'.aH (.slice A4 n4 c4);have OE:=agK w b.ag (.slice (some ee) n1 c1) (.slice (some cI) n2 c2) (.slice A3 n3 c3) k from_ x'.name x'.aH (.slice A4 n4 c4);have HS:=Af3 (agM w b.ag (.slice (some ee) n1 c1) (.slice (some cI) n2 c2) (.slice A3 n3 c3) k from_ x'.name x'.aH (.slice A4 n4 c4));change Code.wp _ _ _ _ (lW w b.ag (.slice (some ee) n1 c1) (.slice (some cI) n2 c2) (.slice A3 n3 c3) k from_ x'.name x'.aH (.slice A4 n4 c4));generalize lW w b.ag (.slice (some ee) n1 c1) (.slice (some cI) n2 c2) (.slice A3 n3 c3) k from_ x'.name x'.aH (.slice A4 n4 c4)=W3 at HW k1 k2 yv yx OE HS |-
  have k4: W3.cell? ⟨(ee.add (i * 4)).block,(ee.add (i * 4)).off+(2+1),none⟩=some (.int .i64 p'.bears):=(HW.out.cell (p:=⟨(ee.add (i * 4)).block,(ee.add (i * 4)).off+(2+1),none⟩) s0).trans g3;have wO:Hid (Below (w.heap.size+3) W3 W3.drew):=Af3 (iY (Af6 _ _));have YJ:Hid (Row W3.drew B 2 Span.R (.slice A4 n4 c4) x'.cM):=Af3 (sS.out.still (Still.aK (iY HW.out) hB) fun _ _ h=>h)
  have HT:Hid (W3.drew.heap.size=w.heap.size+3):=Af3 HS.out;go_region_held3 (fun w'=> w'.cell? ⟨w.heap.size,1,none⟩=some (.slice (some ee) n1 c1)/\ w'.cell? ⟨w.heap.size+1,1,none⟩=some (.int .i64 from_)/\ w'.cell? ⟨w.heap.size+1+1,0,none⟩=some (.string x'.name)/\ w'.cell? ⟨w.heap.size+1+1,1,none⟩=some (.int .i64 x'.aH)/\ w'.cell? ⟨w.heap.size+1+1,2,none⟩=some (.slice A4 n4 c4)/\ w'.cell? ⟨(ee.add (i * 4)).block,(ee.add (i * 4)).off+(2+1),none⟩=some (.int .i64 p'.bears)/\Hid (Below (w.heap.size+3) W3 w')) (first|exact⟨k1,k2,yv,yx,OE,k4,wO⟩ |exact⟨m1,m2,m30,m31,m32,m4,ng⟩)
   (first| (go_at_call 132;refine(met YJ.out (by rw[HT.out];omega)).mono ?_;rintro e w1 ⟨rfl,ae⟩
            have m1:=(ae.cell (p:=⟨w.heap.size,1,none⟩) (by rw[HT.out];simp)).trans k1
            have m2:=(ae.cell (p:=⟨w.heap.size+1,1,none⟩) (by rw[HT.out];simp)).trans k2
            have m30:=(ae.cell (p:=⟨w.heap.size+1+1,0,none⟩) (by rw[HT.out];simp)).trans yv
            have m31:=(ae.cell (p:=⟨w.heap.size+1+1,1,none⟩) (by rw[HT.out];simp)).trans yx
            have m32:=(ae.cell (p:=⟨w.heap.size+1+1,2,none⟩) (by rw[HT.out];simp)).trans OE
            have m4:=(ae.cell (p:=⟨(ee.add (i * 4)).block,(ee.add (i * 4)).off+(2+1),none⟩) (by rw[HT.out];simp;omega)).trans k4
            have ng:Hid (Below (w.heap.size+3) W3 w1):=Af3 (iU (ae.mono (by rw[HT.out];omega)))))
  go_wp2;go_ret;refine⟨b9 ?_,HW.out.trans (ng.out.mono (by omega))⟩
  simp[tR,UE]
 ·have hd:decide (from_+length - 1<x'.aH)=false:=by simpa using UE
  go_enter func165,Tryz.ntmps165;go_wp2;go_quiet (fail);go_wp2;go_ret;refine⟨b9 ?_,jq ((((Af6 _ _).alloc (Ac2 _) _).alloc (by simp) _).alloc (by simp;omega) _) _⟩
  simp[tR,hd]
end Go.Tw
namespace Go.Tw
variable [Go.Tw.aR]
open Go Go.Proofs Go.RowKit
def fO(nb:Int)(c:Cut):Int:=if bX c.bp 0 (nb - 1) then if bX c.from_ 0 40 then 0 else 1 else 6
def ey(b:ao)(l:List Cut):Int:=if l.length≠b.pieces.length then 2 else scan (fun _ c=>fO b.aF.length c) [] l
theorem LX{b:ao}{l:List Cut}{pv bv tv lv:Value}{w:Aa4}{B:Nat}(hb:bg w B b pv bv tv)(hl:Row w B 2 Cut.R lv l)(hB:B<=w.heap.size):
 Af1 prog 109 #[.agg #[.int .i64 b.ag,pv,bv,tv],lv] w fun e w'=>e=.returned (.int .i64 (ey b l))/\Below w.heap.size w w':=by
 obtain⟨A1,n1,c1,rfl,e1,h1,ez,-⟩:=hb.pieces.open_;obtain⟨A2,nb,c2,rfl,eb,h2,dW,-⟩:=hb.aF.open_;obtain⟨A3,n3,c3,rfl,-⟩:=hb.aJ.open_;obtain⟨A,m,c,rfl,e2,h3,rD,hr⟩:=hl.open_;unfold Af0 at ez dW rD;have E1:=Af3 e1;have EB:=Af3 eb;have E2:=Af3 e2;have H2:=Af3 hr;clear hb hl e1 eb e2 hr;by_cases fC:m=n1
 ·have hq:((m:Int) !=(n1:Int))=false:=by simp[fC]
  have HQ:=Af3 fC;clear fC;have Bz:ey b l=scan (fun _ c=>fO nb c) [] l:=by unfold ey;rw[E1.out,E2.out,EB.out,if_neg (by simp[HQ.out])]
  have SN:=Af3 Bz;clear Bz;go_enter func109,Tryz.ntmps109;go_wp2;go_loopw [4,6,7,17] (fun r t q k wr=>∃i:Nat,i<=m/\k=.int .i64 i/\(∀(j:Nat) (x:Cut),j<i->l[j]?=some x->fO nb x=0)/\Below (w.heap.size+1) (w.alloc (Af4 #[.int .i64 b.ag,.slice A1 n1 c1,.slice A2 nb c2,.slice A3 n3 c3] 117)) wr) (fun _ _ _ k _=>m - (Af5 k).toNat)
  case atStart=>exact⟨0,Agm _,rfl,fun j _ hj=>by omega,Af6 _ _⟩
  case round=>
   obtain⟨i,hi,rfl,bt,hb⟩:=hrel;have HH:=Af3 (Afx bt hb);have dY:=hb.size;have aI:w.heap.size+1<=wr.heap.size:=by simpa using dY
   have tL:w.heap.size<=wr.heap.size:=by omega
   have DZ:w.heap.size<wr.heap.size:=by omega
   have ho: wr.cell? ⟨w.heap.size,2,none⟩=some (.slice A2 nb c2):=(hb.cell (p:=⟨w.heap.size,2,none⟩) (by simp)).trans (by simp[go_sem])
   by_cases al:i<m
   ·obtain⟨ad,x,cs,rfl,aC,hx,rfl,-,au⟩:=H2.out i al
    have st:Still B w wr:=((Still.refl w).alloc hB _).trans (Still.aK hb (by omega))
    have h0:=cC au st aC rfl;have h1:=bK au st aC 0 rfl;have HX:=Af3 hx;clear bt hb hx au st dY;have iC:=Af3 HH.out.2;have bad:∀s:Int,fO nb x=s->s≠0->s=ey b l:=fun s hs h0=>by
     rw[SN.out,sf (f:=fun _ c=>fO nb c) HX.out HH.out.1 (by rw[hs];exact h0),hs]
    have fG:=Af3 bad;clear bad;cases dI:bX x.bp 0 (nb - 1) with
    |false=>
     go_wp2_with (first
      | (go_at_call 100;refine(there _ _ (by omega) _ (by omega)).mono ?_;rintro e w' ⟨rfl,rfl⟩;simp only[dI]))
     go_ret;exact⟨aX (fG.out 6 (by unfold fO;rw[dI];rfl) (by omega)),iH (iC.out.trans ((Af6 _ _).alloc aI _))⟩
    |true=>
     cases ld:bX x.from_ 0 40 with
     |false=>
      go_wp2_with (first
       | (go_at_call 100;refine(there _ _ (by omega) _ (by omega)).mono ?_;rintro e w' ⟨rfl,rfl⟩;simp only[dI])
       | (go_at_call 134;refine(inside _ _ _ _).mono ?_;rintro e w' ⟨rfl,rfl⟩))
      go_ret;exact⟨aX (fG.out 1 (by unfold fO;rw[dI,ld];rfl) (by omega)),iH (iC.out.trans ((Af6 _ _).alloc aI _))⟩
     |true=>
      go_wp2_with (first
       | (go_at_call 100;refine(there _ _ (by omega) _ (by omega)).mono ?_;rintro e w' ⟨rfl,rfl⟩;simp only[dI])
       | (go_at_call 134;refine(inside _ _ _ _).mono ?_;rintro e w' ⟨rfl,rfl⟩))
      go_roundw;case rel=>exact⟨i+1,by omega,by go_num,fun j y hj hy=>by
       rcases Agn.1 hj with h|rfl
       ·exact HH.out.1 j y h hy
       ·rw[HX.out] at hy;cases hy;unfold fO;rw[dI,ld];rfl,iC.out.trans ((Af6 _ _).alloc aI _)⟩
      case measure=>simp[Af5];omega
   ·obtain rfl:i=m:=by omega
    go_wp2;go_ret;refine⟨aX ?_,iH HH.out.2⟩
    rw[SN.out,se (f:=fun _ c=>fO nb c) (fun j x hj=>HH.out.1 j x (by have:=(Agb.1 hj).1;have:=E2.out;omega) hj)]
 ·have hq:((m:Int) !=(n1:Int))=true:=by simp;omega
  have HQ:=Af3 fC;clear fC;go_enter func109,Tryz.ntmps109;go_wp2;go_ret;exact⟨aX (by unfold ey;rw[E1.out,E2.out,if_pos HQ.out]),(Af6 _ _).alloc (Ac2 _) _⟩
def an.at(L:an)(i:Nat):Int:=if i=0 then L.a else if i=1 then L.b else L.c
def AW(b:ao)(i:Nat)(n:Int)(c:Cut):Bool:=match b.pieces[i]?,b.aF[c.bp.toNat]? with
 |some p,some x=>tR x p.bears n c
 |_,_=>false
def rm(b:ao)(L:an)(l:List Cut)(i:Nat)(c:Cut)(k:Nat):Bool:=match l[k]? with
 |some d=>nv b.ag c d (L.at i) (L.at k)
 |none=>true
def td(b:ao)(L:an)(l:List Cut)(i:Nat):Bool:=match l[i]? with
 |some c=>AW b i (L.at i) c && (Af9 i).all (rm b L l i c)
 |none=>true
def fp(b:ao)(L:an)(l:List Cut):Bool:=(Af9 l.length).all (td b L l)
theorem oi{n:Nat}{f:Nat->Bool}:(Af9 n).all f=true↔∀i,i<n->f i=true:=by simp
theorem Gn{n i:Nat}{f:Nat->Bool}(hi:i<n)(h:f i=false):(Af9 n).all f=false:=by
 cases e:(Af9 n).all f with
 |false=>rfl
 |true=>have:=oi.1 e i hi;rw[h] at this;cases this
structure oO(b:ao)(c:Cut):Prop where
 bp:∃k:Nat,c.bp=k/\k<b.aF.length
 from_:0<=c.from_/\c.from_<=40
structure DH(w:Aa4)(s:Int)(p q r:Value)(L:an)(W:Aa4):Prop where
 size:w.heap.size+2<=W.heap.size
 f0: W.cell? ⟨w.heap.size,0,none⟩=some (.int .i64 s)
 f1: W.cell? ⟨w.heap.size,1,none⟩=some p
 f2: W.cell? ⟨w.heap.size,2,none⟩=some q
 f3: W.cell? ⟨w.heap.size,3,none⟩=some r
 g:∀i,i<3-> W.cell? ⟨w.heap.size+1,i,none⟩=some (.int .i64 (L.at i))
theorem DH.below{w:Aa4}{s:Int}{p q r:Value}{L:an}{W W':Aa4}{B:Nat}(h:DH w s p q r L W)(hb:Below B W W')(hB:w.heap.size+2<=B):DH w s p q r L W':=
 ⟨Ac3 h.size hb.size,(hb.cell (p:=⟨w.heap.size,0,none⟩) (by simp;omega)).trans h.f0,(hb.cell (p:=⟨w.heap.size,1,none⟩) (by simp;omega)).trans h.f1,(hb.cell (p:=⟨w.heap.size,2,none⟩) (by simp;omega)).trans h.f2,
   (hb.cell (p:=⟨w.heap.size,3,none⟩) (by simp;omega)).trans h.f3,fun i hi=>(hb.cell (p:=⟨w.heap.size+1,i,none⟩) (by simp;omega)).trans (h.g i hi)⟩
theorem DH.start(w:Aa4)(s:Int)(p q r:Value)(L:an):DH w s p q r L ((w.alloc (Af4 #[.int .i64 s,p,q,r] 117)).alloc (Af4 #[.int .i64 L.a,.int .i64 L.b,.int .i64 L.c] 128)):=by
 refine⟨by simp,by simp[go_sem],by simp[go_sem],by simp[go_sem],by simp[go_sem],fun i hi=>?_⟩
 match i,hi with
 |0,_=>simp[go_sem,an.at]
 |1,_=>simp[go_sem,an.at]
 |2,_=>simp[go_sem,an.at]
theorem L3{b:ao}{L:an}{l:List Cut}{pv bv tv lv:Value}{w:Aa4}{B:Nat}(hb:bg w B b pv bv tv)(hl:Row w B 2 Cut.R lv l)(hB:B<=w.heap.size)
 (hlen:l.length=b.pieces.length)(ij:b.pieces.length<=3)(dh:∀(i:Nat) (c:Cut),l[i]?=some c->oO b c)(hL:∀i,0<=L.at i/\L.at i<=1000)(vy:0<=b.ag/\b.ag<=1000):
 Af1 prog 110 #[.agg #[.int .i64 b.ag,pv,bv,tv],.agg #[.int .i64 L.a,.int .i64 L.b,.int .i64 L.c],lv] w fun e w'=>e=.returned (.bool (fp b L l))/\Below w.heap.size w w':=by
 have bT:=Af3 hb;obtain⟨A1,n1,c1,rfl,e1,h1,ez,-⟩:=hb.pieces.open_;obtain⟨A2,nb,c2,rfl,eb,h2,dW,-⟩:=hb.aF.open_;obtain⟨A3,n3,c3,rfl,-⟩:=hb.aJ.open_;obtain⟨A,m,c,rfl,e2,h3,rD,hr⟩:=hl.open_;unfold Af0 at ez dW rD;have hm3:m<=3:=by omega
 have E2:=Af3 e2;have EN:=Af3 hlen;have H2:=Af3 hr;have OK:=Af3 dh;have HL:=Af3 hL;have YX:=Af3 vy;clear hb hl e1 eb e2 hr dh hL vy hlen ij;go_enter func110,Tryz.ntmps110;go_wp2;go_loopw [6,7,8,9,10,13,28,29,30] (fun r t q s u k x y z wr=>∃i:Nat,i<=m/\k=.int .i64 i/\(∀j:Nat,j<i->td b L l j=true)/\Hid (DH w b.ag (.slice A1 n1 c1) (.slice A2 nb c2) (.slice A3 n3 c3) L wr)/\Below w.heap.size w wr) (fun _ _ _ _ _ k _ _ _ _=>m - (Af5 k).toNat)
 case atStart=>exact⟨0,Agm _,rfl,fun j hj=>by omega,Af3 (DH.start w b.ag _ _ _ L),((Af6 _ _).alloc (Ac2 _) _).alloc (by simp) _⟩
 case round=>
  obtain⟨wo,rfl⟩:∃wo:Aa4,wo=wr:=⟨_,rfl⟩
  obtain⟨i,hi,rfl,bt,xL,hb⟩:=hrel;have HH:=Af3 (Afx bt hb);have aI:w.heap.size+2<=wo.heap.size:=xL.out.size;by_cases al:i<m
  ·obtain⟨ad,x,cs,rfl,aC,hx,rfl,-,au⟩:=H2.out i al
   have st:Still B w wo:=Still.aK hb hB;have ok:=OK.out i x hx;obtain⟨bd,fr⟩:=x;obtain⟨k,hk,da⟩:=ok.bp;obtain rfl:bd=(k:Int):=hk;have b7:0<=fr/\fr<=40:=ok.from_;have h0:=cC au st aC rfl;have h1:=bK au st aC 0 rfl;have HX:=Af3 hx;have f0:=xL.out.f0;have f1:=xL.out.f1;have f2:=xL.out.f2;have f3:=xL.out.f3;have gi:=xL.out.g i (by omega)
   have a0:w.heap.size<wo.heap.size:=by omega
   have a1:w.heap.size<=wo.heap.size:=by omega
   have a2:w.heap.size+1<wo.heap.size:=by omega
   have a3:w.heap.size+1<=wo.heap.size:=by omega
   have i3:i<3:=by omega
   have i3':(i:Int)<3:=by omega
   have DD:i<=c:=by omega
   clear bt hb hx au ok;go_wp2;refine ua 6 (by kernel_rfl) (by kernel_rfl) ?_
   simp only[Agi,Agj,Agk,Agl];repeat still_step
   refine wpStill_nil ?_
   have hp:∃p,b.pieces[i]?=some p:=⟨_,Aga (by have:=E2.out;have:=EN.out;omega)⟩
   obtain⟨p,hp⟩:=hp;have rE:b.aF[k]?=some (b.aF[k]):=Aga da
   obtain⟨bx,rE⟩:∃bx,b.aF[k]?=some bx:=⟨_,rE⟩
   have Nz:AW b i (L.at i) ⟨k,fr⟩=tR bx p.bears (L.at i) ⟨k,fr⟩:=by unfold AW;simp[hp,rE]
   have KN:=Af3 Nz;have call:Af1 prog 165 #[.agg #[.int .i64 b.ag,.slice A1 n1 c1,.slice A2 nb c2,.slice A3 n3 c3],.int .i64 i,.int .i64 (L.at i),.agg #[.int .i64 k,.int .i64 fr]] (wo.alloc (Af4 #[Value.int Ack ↑k,Value.int Ack fr] 56)).drew
    fun e w'=>e=.returned (.bool (tR bx p.bears (L.at i) ⟨k,fr⟩))/\Below (wo.alloc (Af4 #[Value.int Ack ↑k,Value.int Ack fr] 56)).drew.heap.size (wo.alloc (Af4 #[Value.int Ack ↑k,Value.int Ack fr] 56)).drew w':=
    VW (B:=B) (bT.out.still fun q hq=>(Af7 wo _ q (by omega)).trans (st q hq)) (by simp;omega) hp rE ⟨b7.1,by omega⟩ (HL.out i)
   have aB:=Af3 call;clear call hp rE Nz st;cases Aw:tR bx p.bears (L.at i) ⟨k,fr⟩ with
   |false=>
    go_wp2_with (first
     | (go_at_call 165;refine aB.out.mono ?_;rintro e w1 ⟨rfl,ae⟩;have dO:=Af3 (cU HH.out.2 (iU ae) a1);clear ae))
    go_ret;refine⟨b9 ?_,dO.out⟩
    unfold fp;rw[E2.out]
    exact(Gn al (by unfold td;rw[HX.out];simp[KN.out,Aw])).symm
   |true=>
    go_wp2_with (first
     | (go_at_call 165;refine aB.out.mono ?_;rintro e w1 ⟨rfl,ae⟩;have dO:=Af3 (cU HH.out.2 (iU ae) a1);have YC:=Af3 (xL.out.below (cU (Af6 (w.heap.size+2) wo) (iU ae) aI) (Ac2 _));have zk:=Af3 (iU ae);clear ae))
    have aN:wo.heap.size<w1.heap.size:=oE zk.out;have T3: w1.cell? ⟨wo.heap.size,0,none⟩=some (.int .i64 k):=(zk.out.cell (p:=⟨wo.heap.size,0,none⟩) (by simp)).trans (by simp[go_sem])
    have T4: w1.cell? ⟨wo.heap.size,1,none⟩=some (.int .i64 fr):=(zk.out.cell (p:=⟨wo.heap.size,1,none⟩) (by simp)).trans (by simp[go_sem])
    have qZ:=Af3 (Afx T3 (Afx T4 aN));clear T3 T4 f0 f1 f2 f3 gi h0 h1 aN;go_loopw [6,9,10,30] (fun r s u z W=>∃j:Nat,j<=i/\z=.int .i64 j/\(∀q:Nat,q<j->rm b L l i ⟨k,fr⟩ q=true)/\Hid (DH w b.ag (.slice A1 n1 c1) (.slice A2 nb c2) (.slice A3 n3 c3) L W)/\Hid (W.cell? ⟨wo.heap.size,0,none⟩=some (.int .i64 k)/\ W.cell? ⟨wo.heap.size,1,none⟩=some (.int .i64 fr)/\wo.heap.size<W.heap.size)/\Below w.heap.size w W) (fun _ _ _ z _=>i - (Af5 z).toNat)
    case atStart=>exact⟨0,Agm _,rfl,fun j hj=>by omega,YC,qZ,dO.out⟩
    case round=>
     obtain⟨j,hj,rfl,TU,tC,cX,xG⟩:=hrel;have HJ:=Af3 (Afx TU xG);have afE:w.heap.size+2<=wr.heap.size:=tC.out.size;clear TU;by_cases nE:j<i
     ·obtain⟨Cs,y,bh,kX,adT,hy,rfl,-,Ak⟩:=H2.out j (by omega)
      cases kX;have P2:Still B w wr:=Still.aK xG hB;have Wp:=OK.out j y hy;obtain⟨mn,iJ⟩:=y;have my:0<=iJ/\iJ<=40:=Wp.from_;have h0:=cC Ak P2 aC rfl;have h1:=bK Ak P2 aC 0 rfl;have HY:=Af3 hy;have f0:=tC.out.f0;have f1:=tC.out.f1;have f2:=tC.out.f2;have f3:=tC.out.f3;have gi:=tC.out.g i i3;have gj:=tC.out.g j (by omega)
      obtain⟨LK,LM,Om⟩:=cX.out;have b0:w.heap.size<wr.heap.size:=by omega
      have b1:w.heap.size<=wr.heap.size:=by omega
      have b2:w.heap.size+1<wr.heap.size:=by omega
      have b3:w.heap.size+1<=wr.heap.size:=by omega
      have b4:wo.heap.size<=wr.heap.size:=by omega
      have j3:(j:Int)<3:=by omega
      clear xG hy Ak Wp P2;go_wp2;refine ua 9 (by kernel_rfl) (by kernel_rfl) ?_
      simp only[Agi,Agj,Agk,Agl];repeat still_step
      refine wpStill_nil ?_
      have Ae:rm b L l i ⟨k,fr⟩ j=nv b.ag ⟨k,fr⟩ ⟨mn,iJ⟩ (L.at i) (L.at j):=by unfold rm;rw[HY.out]
      have B3:=Af3 Ae;clear Ae;have call:∀W:Aa4,Af1 prog 166 #[.agg #[.int .i64 b.ag,.slice A1 n1 c1,.slice A2 nb c2,.slice A3 n3 c3],.agg #[.int .i64 k,.int .i64 fr],.agg #[.int .i64 mn,.int .i64 iJ],.int .i64 (L.at i),.int .i64 (L.at j)] W
            fun e w'=>e=.returned (.bool (nv b.ag ⟨k,fr⟩ ⟨mn,iJ⟩ (L.at i) (L.at j)))/\Below W.heap.size W w':=fun W=>
          apart (c:=⟨k,fr⟩) (d:=⟨mn,iJ⟩) YX.out (HL.out i) (HL.out j) ⟨b7.1,by have:=b7.2;show fr<=1000;omega⟩ ⟨my.1,by have:=my.2;show iJ<=1000;omega⟩ ⟨_,_,_,rfl⟩ ⟨_,_,_,rfl⟩ ⟨_,_,_,rfl⟩
      have uv:=Af3 call;clear call;cases DK:nv b.ag ⟨k,fr⟩ ⟨mn,iJ⟩ (L.at i) (L.at j) with
      |false=>
       go_wp2_with (first
            | (go_at_call 166;refine(uv.out _).mono ?_;rintro e w2 ⟨rfl,ak⟩;have et:=Af3 (cU HJ.out.2 (iU ak) b1);clear ak))
       go_ret;refine⟨b9 ?_,et.out⟩
       unfold fp;rw[E2.out]
       refine(Gn al ?_).symm
       unfold td;rw[HX.out]
       simp only[KN.out,Aw,Bool.true_and];exact Gn nE (by rw[B3.out,DK])
      |true=>
       go_wp2_with (first
            | (go_at_call 166;refine(uv.out _).mono ?_;rintro e w2 ⟨rfl,ak⟩;have et:=Af3 (cU HJ.out.2 (iU ak) b1);have wP:=Af3 (cU (Af6 wr.heap.size wr) (iU ak) (Ac2 _));clear ak))
       go_roundw;case rel=>exact⟨j+1,by omega,by go_num,fun q hq=>by
            rcases Agn.1 hq with h|rfl
            ·exact HJ.out.1 q h
            ·rw[B3.out,DK],Af3 (tC.out.below wP.out afE),Af3 ⟨(wP.out.cell (p:=⟨wo.heap.size,0,none⟩) Om).trans LK,(wP.out.cell (p:=⟨wo.heap.size,1,none⟩) Om).trans LM,Aeh Om wP.out.size⟩,et.out⟩
       case measure=>simp[Af5];omega
     ·obtain rfl:j=i:=by omega
      clear xG;go_wp2;go_roundw;case rel=>exact⟨j+1,by omega,by go_num,fun q hq=>by
          rcases Agn.1 hq with h|rfl
          ·exact HH.out.1 q h
          ·unfold td;rw[HX.out];simp only[KN.out,Aw,Bool.true_and];exact oi.2 HJ.out.1,tC,HJ.out.2⟩
      case measure=>simp[Af5];omega
  ·obtain rfl:i=m:=by omega
   clear hb;go_wp2;go_ret;refine⟨b9 ?_,HH.out.2⟩
   unfold fp;rw[E2.out];exact(oi.2 HH.out.1).symm
def sg(L:an)(l:List Int):Int:=(l.map fun k=>L.at k.toNat).sum
theorem al1(L:an)(l:List Int)(k:Int):sg L (l++ [k])=sg L l+L.at k.toNat:=by simp[sg]
theorem P5(L:an)(hL:∀i,0<=L.at i/\L.at i<=1000):∀l:List Int,0<=sg L l/\sg L l<=1000 * l.length
 | []=>by simp[sg]
 |k::l=>by
  have:=P5 L hL l;have:=hL k.toNat;simp[sg] at *;omega
def FO(L:an)(t:Tape):Bool:= !bX (sg L t.pieces) t.sum.lo t.sum.hi
theorem akk{t:Tape}{pv:Value}{L:an}{w:Aa4}{B g:Nat}(pd:Row w B 1 cH pv t.pieces)(hB:B<=w.heap.size)(hg:g<w.heap.size)
 (hc:∀i,i<3-> w.cell? ⟨g,i,none⟩=some (.int .i64 (L.at i)))(hk:∀k∈t.pieces,0<=k/\k<3)(h3:t.pieces.length<=3)(hL:∀i,0<=L.at i/\L.at i<=1000):
 Af1 prog 209 #[.agg #[pv,.int .i64 t.sum.lo,.int .i64 t.sum.hi],.pointer (some ⟨g,0,none⟩)] w fun e w'=>e=.returned (.bool (FO L t))/\Below w.heap.size w w':=by
 obtain⟨A,n,c,rfl,hl,dX,cX,hr⟩:=pd.open_;have lQ:n<=3:=by omega
 have nh:=Af3 hl;have H2:=Af3 hr;have HC:=Af3 hc;have HK:=Af3 hk;have HL:=Af3 hL;have dB:g<=w.heap.size:=by omega
 clear hl hr hc hk hL pd cX h3;go_enter func209,Tryz.ntmps209;go_wp2
 go_loop [4,6,10] (fun s q k=>∃i:Nat,i<=n/\k=.int .i64 i/\s=.int .i64 (sg L (t.pieces.take i))) (fun _ _ k=>n - (Af5 k).toNat)
 case atStart=>exact⟨0,Agm _,rfl,rfl⟩
 case round=>
  obtain⟨i,hi,rfl,rfl⟩:=hrel;have vA:=(P5 L HL.out (t.pieces.take i)).1;have vz:sg L (t.pieces.take i)<=3000:=by
   have:=(P5 L HL.out (t.pieces.take i)).2;have:(t.pieces.take i).length<=i:=Age _ _;omega
  by_cases al:i<n
  ·obtain⟨ad,x,cs,rfl,aC,hx,rfl,-,au⟩:=H2.out i al
   have Vp:=HK.out x (Agg hx);obtain⟨j,rfl⟩:=Int.eq_ofNat_of_zero_le Vp.1;have DE:j<3:=by omega
   have Us:(j:Int)<3:=by omega
   have h0:=cC au (Still.refl (B:=B) w) aC rfl;rw[Agp] at h0;have q0:(ad.add i).block<w.heap.size:=by rw[cq];omega
   have gj:=HC.out j DE;have HX:=Af3 hx;have UI:=HL.out j;obtain⟨UI,aot⟩:=UI;clear hx au Vp;go_wp2
   go_round
   case rel=>exact⟨i+1,by omega,by go_num,by rw[oJ HX.out,al1];rfl⟩
   case measure=>simp[Af5];omega
  ·obtain rfl:i=n:=by omega
   go_wp2_with (first
    | (go_at_call 134;refine(inside _ _ _ _).mono ?_;rintro e w' ⟨rfl,rfl⟩))
   go_ret;refine⟨b9 ?_,(Af6 _ _).alloc (Ac2 _) _⟩
   unfold FO;rw[Agf (Ago nh.out)]
def zz(b:ao):Prop:=∀t∈b.aJ,(∀k∈t.pieces,0<=k/\k<3)/\t.pieces.length<=3
def Pw(L:an)(l:List Tape):Bool:= !(l.any (FO L))
theorem right{b:ao}{L:an}{pv bv tv:Value}{w:Aa4}{B:Nat}(hb:bg w B b pv bv tv)(hB:B<=w.heap.size)(dh:zz b)(hL:∀i,0<=L.at i/\L.at i<=1000):
 Af1 prog 189 #[.agg #[.int .i64 b.ag,pv,bv,tv],.agg #[.int .i64 L.a,.int .i64 L.b,.int .i64 L.c]] w fun e w'=>e=.returned (.bool (Pw L b.aJ))/\Below w.heap.size w w':=by
 have bT:=Af3 hb;obtain⟨A1,n1,c1,rfl,-⟩:=hb.pieces.open_;obtain⟨A2,nb,c2,rfl,-⟩:=hb.aF.open_;obtain⟨A3,n3,c3,rfl,-⟩:=hb.aJ.open_;have OK:=Af3 dh;have HL:=Af3 hL;have ST:Hid (Still B w ((w.alloc (Af4 #[.int .i64 b.ag,.slice A1 n1 c1,.slice A2 nb c2,.slice A3 n3 c3] 117)).alloc (Af4 #[.int .i64 L.a,.int .i64 L.b,.int .i64 L.c] 128))):=Af3 (((Still.refl w).alloc hB _).alloc (by simp;omega) _)
 have HD:=Af3 (DH.start w b.ag (.slice A1 n1 c1) (.slice A2 nb c2) (.slice A3 n3 c3) L);clear hb dh hL;have call:Af1 prog 208 #[.slice A3 n3 c3,fv 209 #[.pointer (some ⟨w.heap.size+1,0,none⟩)]] ((w.alloc (Af4 #[.int .i64 b.ag,.slice A1 n1 c1,.slice A2 nb c2,.slice A3 n3 c3] 117)).alloc (Af4 #[.int .i64 L.a,.int .i64 L.b,.int .i64 L.c] 128))
  fun e w'=>e=.returned (.bool (b.aJ.any (FO L)))/\Below ((w.alloc (Af4 #[.int .i64 b.ag,.slice A1 n1 c1,.slice A2 nb c2,.slice A3 n3 c3] 117)).alloc (Af4 #[.int .i64 L.a,.int .i64 L.b,.int .i64 L.c] 128)).heap.size _ w':=
  aaX (FO L) call209 ((bT.out.still ST.out).aJ) (by simp;omega) fun W x kv hW dj hx=>app1 (akk (B:=B) (dj.still (Still.aK hW (by simp;omega)) fun _ _ h=>h)
   (Ac3 (by simp;omega) hW.size) (Aeh (by simp) hW.size) (fun i hi=>(hW.cell (p:=⟨w.heap.size+1,i,none⟩) (by simp)).trans (HD.out.g i hi)) (OK.out x hx).1 (OK.out x hx).2 HL.out)
 have aB:=Af3 call;clear call;go_enter func189,Tryz.ntmps189;go_wp2_with (first
  | (go_at_call 208;refine aB.out.mono ?_;rintro e w1 ⟨rfl,ae⟩))
 go_ret;exact⟨b9 rfl,(((Af6 _ _).alloc (Ac2 _) _).alloc (by simp) _).trans (ae.mono (by simp;omega))⟩
theorem first{l:List Int}{v:Value}{w:Aa4}{B:Nat}(hv:Row w B 1 cH v l):
 Af1 prog 126 #[v] w fun e w'=>e=.returned (.int .i64 (scan (fun _ s=>s) [] l))/\w=w':=by
 obtain⟨A,n,c,rfl,hl,dX,cX,hr⟩:=hv.open_;unfold Af0 at cX;have nh:=Af3 hl;have H2:=Af3 hr;clear hl hr hv;go_enter func126,Tryz.ntmps126;go_wp2
 go_loop [2,4,7] (fun r q k=>∃i:Nat,i<=n/\k=.int .i64 i/\(∀(j:Nat) (x:Int),j<i->l[j]?=some x->x=0)) (fun _ _ k=>n - (Af5 k).toNat)
 case atStart=>exact⟨0,Agm _,rfl,fun j _ hj=>by omega⟩
 case round=>
  obtain⟨i,hi,rfl,bt⟩:=hrel;have HA:=Af3 bt;clear bt;by_cases al:i<n
  ·obtain⟨ad,x,cs,rfl,aC,hx,rfl,-,au⟩:=H2.out i al
   have h0:=cC au (Still.refl (B:=B) w) aC rfl;rw[Agp] at h0;have HX:=Af3 hx;clear hx au;by_cases vF:x=0
   ·go_wp2
    go_round
    case rel=>exact⟨i+1,by omega,by go_num,fun j y hj hy=>by
     rcases Agn.1 hj with h|rfl
     ·exact HA.out j y h hy
     ·rw[HX.out] at hy;cases hy;exact vF⟩
    case measure=>simp[Af5];omega
   ·go_wp2
    go_ret;exact⟨aX (sf (f:=fun _ s=>s) HX.out HA.out vF).symm,rfl⟩
  ·obtain rfl:i=n:=by omega
   go_wp2;go_ret;exact⟨aX (se (f:=fun _ s=>s) (fun j x hx=>HA.out j x (by have:=(Agb.1 hx).1;have:=nh.out;omega) hx)).symm,rfl⟩
theorem Zl{P:Aa6}{f:Nat}{a b c:Value}{w:Aa4}{R:Ending->Aa4->Prop}(h:Af1 P f #[a,b,c] w R):Af1 P f (#[a]++#[b,c]) w R:=by
 have e:(#[a]++#[b,c]:Array Value)=#[a,b,c]:=by simp
 rw[e];exact h
structure Km(b:ao)(l:List Cut):Prop where
 len:l.length=b.pieces.length
 three:b.pieces.length<=3
 kD:∀(i:Nat) (c:Cut),l[i]?=some c->oO b c
 ag:0<=b.ag/\b.ag<=1000
def an.Ok(L:an):Prop:=∀i,0<=L.at i/\L.at i<=1000
theorem al4{b:ao}{L:an}{l:List Cut}{pv bv tv lv:Value}{w:Aa4}{B g1 g2:Nat}(hb:bg w B b pv bv tv)(hl:Row w B 2 Cut.R lv l)(hB:B<=w.heap.size)(ok:Km b l)(hL:L.Ok)
 (dB:g1<w.heap.size)(kG:g2<w.heap.size)(f0: w.cell? ⟨g1,0,none⟩=some (.int .i64 b.ag))(f1: w.cell? ⟨g1,1,none⟩=some pv)(f2: w.cell? ⟨g1,2,none⟩=some bv)(f3: w.cell? ⟨g1,3,none⟩=some tv)
 (f4: w.cell? ⟨g2,0,none⟩=some lv):
 Af1 prog 169 #[.agg #[.int .i64 L.a,.int .i64 L.b,.int .i64 L.c],.pointer (some ⟨g1,0,none⟩),.pointer (some ⟨g2,0,none⟩)] w fun e w'=>e=.returned (.bool (!fp b L l))/\Below w.heap.size w w':=by
 have call:=L3 (w:=w.alloc (Af4 #[.int .i64 L.a,.int .i64 L.b,.int .i64 L.c] 128)) (B:=B) (hb.still ((Still.refl w).alloc hB _)) (hl.still ((Still.refl w).alloc hB _) fun _ _ h=>h) (by simp;omega) ok.len ok.three ok.kD hL ok.ag
 have aB:=Af3 call;have vh:g1<=w.heap.size:=by omega
 have aof:g2<=w.heap.size:=by omega
 obtain⟨A1,n1,c1,rfl,-⟩:=hb.pieces.open_;obtain⟨A2,nb,c2,rfl,-⟩:=hb.aF.open_;obtain⟨A3,n3,c3,rfl,-⟩:=hb.aJ.open_;obtain⟨A,n,c,rfl,-⟩:=hl.open_;clear call hb hl ok hL;go_enter func169,Tryz.ntmps169;go_wp2_with (first
  | (go_at_call 110;refine aB.out.mono ?_;rintro e w1 ⟨rfl,ae⟩))
 go_ret;exact⟨b9 rfl,cU (Af6 _ _) ae (Ac2 _)⟩
def FJ(b:ao)(ajD:List an)(l:List Cut):Bool:= !(ajD.any fun L=> !fp b L l)
theorem XH{b:ao}{ps:List an}{l:List Cut}{pv bv tv sv lv:Value}{w:Aa4}{B:Nat}(hb:bg w B b pv bv tv)(hs:Row w B 3 an.R sv ps)(hl:Row w B 2 Cut.R lv l)(hB:B<=w.heap.size)(ok:Km b l)(hL:∀L∈ps,L.Ok):
 Af1 prog 114 #[.agg #[.int .i64 b.ag,pv,bv,tv,sv],lv] w fun e w'=>e=.returned (.bool (FJ b ps l))/\Below w.heap.size w w':=by
 have ST:Hid (Still B w ((w.alloc (Af4 #[.int .i64 b.ag,pv,bv,tv,sv] 122)).alloc (Af4 #[lv] 27))):=Af3 (((Still.refl w).alloc hB _).alloc (by simp;omega) _)
 have call:Af1 prog 150 #[sv,fv 169 #[.pointer (some ⟨w.heap.size,0,none⟩),.pointer (some ⟨w.heap.size+1,0,none⟩)]] ((w.alloc (Af4 #[.int .i64 b.ag,pv,bv,tv,sv] 122)).alloc (Af4 #[lv] 27))
  fun e w'=>e=.returned (.bool (ps.any fun L=> !fp b L l))/\Below ((w.alloc (Af4 #[.int .i64 b.ag,pv,bv,tv,sv] 122)).alloc (Af4 #[lv] 27)).heap.size _ w':=
  aaW (fun L=> !fp b L l) call169 (hs.still ST.out fun _ _ h=>h) (by simp;omega) fun W x hW hx=>by
   have sW:Still B w W:=ST.out.trans (Still.aK hW (by simp;omega))
   have hz:w.heap.size+2<=W.heap.size:=by have:=hW.size;simpa using this
   exact Zl (al4 (B:=B) (hb.still sW) (hl.still sW fun _ _ h=>h) (by omega) ok (hL x hx) (by omega) (by omega)
    ((hW.cell (p:=⟨w.heap.size,0,none⟩) (by simp;try omega)).trans (by simp[go_sem])) ((hW.cell (p:=⟨w.heap.size,1,none⟩) (by simp;try omega)).trans (by simp[go_sem])) ((hW.cell (p:=⟨w.heap.size,2,none⟩) (by simp;try omega)).trans (by simp[go_sem]))
    ((hW.cell (p:=⟨w.heap.size,3,none⟩) (by simp;try omega)).trans (by simp[go_sem])) ((hW.cell (p:=⟨w.heap.size+1,0,none⟩) (by simp;try omega)).trans (by simp[go_sem])))
 have aB:=Af3 call;obtain⟨A1,n1,c1,rfl,-⟩:=hb.pieces.open_;obtain⟨A2,nb,c2,rfl,-⟩:=hb.aF.open_;obtain⟨A3,n3,c3,rfl,-⟩:=hb.aJ.open_;obtain⟨A4,n4,c4,rfl,-⟩:=hs.open_;obtain⟨A,n,c,rfl,-⟩:=hl.open_;clear call hb hs hl ok hL;go_enter func114,Tryz.ntmps114;go_wp2_with (first
  | (go_at_call 150;refine aB.out.mono ?_;rintro e w1 ⟨rfl,ae⟩))
 go_ret;exact⟨b9 rfl,(((Af6 _ _).alloc (Ac2 _) _).alloc (by simp) _).trans (ae.mono (by simp;omega))⟩
end Go.Tw
namespace Go.Tw
variable [Go.Tw.aR]
open Go Go.Proofs Go.RowKit
def Bk(w:Aa4)(g:Nat)(t:Aa1)(cs:Array Value):Prop:=w.heap[g]?=some (.cells cs t (0,0))
section
variable {w w':Aa4}{g:Nat}{t:Aa1}{cs:Array Value}
theorem Bk.lt(h:Bk w g t cs):g<w.heap.size:=(Array.getElem?_eq_some_iff.1 h).1
theorem Bk.cell(h:Bk w g t cs)(i:Nat): w.cell? ⟨g,i,none⟩=cs[i]?:=cell_of_row w g i cs t (0,0) h
theorem Bk.frozen(h:Bk w g t cs)(i:Nat): w.frozen? ⟨g,i,none⟩=false:=by
 have h':w.heap[g]?=some (.cells cs t (0,0)):=h;simp[World.frozen?,h']
theorem Bk.alloc(h:Bk w g t cs)(o:Obj):Bk (w.alloc o) g t cs:=(Below.heap_alloc w o g h.lt).trans h
theorem Bk.new(w:Aa4)(t:Aa1)(cs:Array Value):Bk (w.alloc (.cells cs t)) w.heap.size t cs:=heap_alloc_new w _
theorem Bk.cG{w:Aa4}{g:Nat}(h:g=w.heap.size)(t:Aa1)(cs:Array Value):Bk (w.alloc (.cells cs t)) g t cs:=by subst h;exact Bk.new w t cs
theorem Bk.dn(h:Bk w g t cs){p:Addr}(hp:g≠p.block)(u:Value):Bk (w.setCell p u) g t cs:=(Below.heap_setCell w p u g hp).trans h
theorem Bk.set(h:Bk w g t cs)(i:Nat)(u:Value):Bk (w.setCell ⟨g,i,none⟩ u) g t (cs.setIfInBounds i u):=by
 have h':w.heap[g]?=some (.cells cs t (0,0)):=h;show(w.setCell ⟨g,i,none⟩ u).heap[g]?=_;simp[World.setCell,Array.getElem?_modify,h']
theorem Bk.below{B:Nat}(h:Bk w g t cs)(hb:Below B w w')(hg:g<B):Bk w' g t cs:=(hb.block g hg).trans h
end
def an.cs(L:an):Array Value:=#[.int .i64 L.a,.int .i64 L.b,.int .i64 L.c]
def mU(M x:an)(i:Nat):an:=⟨if 0<i then(if M.a<x.a then x.a else M.a) else M.a,if 1<i then(if M.b<x.b then x.b else M.b) else M.b,if 2<i then(if M.c<x.c then x.c else M.c) else M.c⟩
def cz(l:List an):an:=l.foldl (fun M x=>mU M x 3) ⟨0,0,0⟩
theorem TF(l:List an)(x:an):cz (l++ [x])=mU (cz l) x 3:=by simp[cz]
theorem TC{s:Int}{ps:List an}{pv bv tv sv:Value}{w:Aa4}{B:Nat}(hs:Row w B 3 an.R sv ps)(hB:B<=w.heap.size)(hp:∃A n c,pv=.slice A n c)(hb:∃A n c,bv=.slice A n c)(ht:∃A n c,tv=.slice A n c):
 Af1 prog 115 #[.agg #[.int .i64 s,pv,bv,tv,sv]] w fun e w'=>e=.returned (.agg (cz ps).cs)/\Below w.heap.size w w':=by
 obtain⟨A1,n1,c1,rfl⟩:=hp;obtain⟨A2,n2,c2,rfl⟩:=hb;obtain⟨A3,n3,c3,rfl⟩:=ht;obtain⟨A,n,c,rfl,hl,dX,cX,hr⟩:=hs.open_;unfold Af0 at cX;have nh:=Af3 hl;have H2:=Af3 hr;clear hl hr hs;go_enter func115,Tryz.ntmps115;go_wp2;go_loopw [5,6,7,11,16] (fun a b d k z wr=>∃i:Nat,i<=n/\k=.int .i64 i/\Hid (Bk wr (w.heap.size+1+1) 128 (cz (ps.take i)).cs)/\Hid (Bk wr (w.heap.size+1) 128 #[.int .i64 0,.int .i64 0,.int .i64 0])/\Below w.heap.size w wr) (fun _ _ _ k _ _=>n - (Af5 k).toNat)
 case atStart=>exact⟨0,Agm _,rfl,Af3 (Bk.cG (by simp) _ _),Af3 ((Bk.cG (by simp) _ _).alloc _),(((Af6 _ _).alloc (Ac2 _) _).alloc (by simp) _).alloc (by simp;omega) _⟩
 case round=>
  obtain⟨wo,rfl⟩:∃wo:Aa4,wo=wr:=⟨_,rfl⟩
  obtain⟨i,hi,rfl,hk,cP,hb⟩:=hrel;have HB:=Af3 hb;have hz:w.heap.size+1+1<wo.heap.size:=hk.out.lt;by_cases al:i<n
  ·obtain⟨ad,x,cs,rfl,aC,hx,rfl,-,au⟩:=H2.out i al
   have st:Still B w wo:=Still.aK hb hB;have h0:=cC au st aC rfl;have h1:=bK au st aC 0 rfl;have h2:=bK au st aC 1 rfl;have HX:=Af3 hx;clear hb hx au st;go_wp2;go_loopw [6,7,16] (fun a b z W=>∃j:Nat,j<=3/\z=.int .i64 j/\Hid (Bk W (w.heap.size+1+1) 128 (mU (cz (ps.take i)) x j).cs)/\Hid (Bk W (w.heap.size+1) 128 #[.int .i64 0,.int .i64 0,.int .i64 0])/\Below w.heap.size w W) (fun _ _ z _=>3 - (Af5 z).toNat)
   case atStart=>exact⟨0,by omega,rfl,Af3 (by simpa [mU] using hk.out.alloc _),Af3 (cP.out.alloc _),HB.out.trans ((Af6 _ _).alloc (by omega) _)⟩
   case round=>
    obtain⟨j,hj,rfl,hq,tI,xG⟩:=hrel;have pN:=Af3 xG;clear xG;obtain⟨M,hM⟩:∃M,M=cz (ps.take i):=⟨_,rfl⟩
    rw[<-hM] at hq;have HM:=Af3 hM;clear hM;match j,hj with
    |0,_=>
     have g0: wr.cell? ⟨w.heap.size+1+1,0,none⟩=some (.int .i64 M.a):=(hq.out.cell 0).trans (by simp[an.cs,mU])
     have fz:=hq.out.frozen 0;have i0:∀w:Aa4,(Af2 128 (.agg #[.int .i64 x.a,.int .i64 x.b,.int .i64 x.c]) (.int .i64 0)).run prog w=.ok (.int .i64 x.a) w:=fun w=>by simp[Af2,go_sem]
     go_wp2;have cZ:=hq.out.set 0 (.int .i64 (if M.a<x.a then x.a else M.a))
     have Cc:=Af3 cZ;clear cZ;go_roundw;case rel=>exact⟨0+1,by omega,by go_num,Af3 (by rw[<-HM.out];simpa [an.cs,mU] using Cc.out),Af3 (tI.out.dn (by simp) _),pN.out.setCell (by simp;omega) _⟩
     case measure=>simp[Af5]
    |1,_=>
     have g0: wr.cell? ⟨w.heap.size+1+1,1,none⟩=some (.int .i64 M.b):=(hq.out.cell 1).trans (by simp[an.cs,mU])
     have fz:=hq.out.frozen 1;have i0:∀w:Aa4,(Af2 128 (.agg #[.int .i64 x.a,.int .i64 x.b,.int .i64 x.c]) (.int .i64 1)).run prog w=.ok (.int .i64 x.b) w:=fun w=>by simp[Af2,go_sem]
     go_wp2;have cZ:=hq.out.set 1 (.int .i64 (if M.b<x.b then x.b else M.b))
     have Cc:=Af3 cZ;clear cZ;go_roundw;case rel=>exact⟨1+1,by omega,by go_num,Af3 (by rw[<-HM.out];simpa [an.cs,mU] using Cc.out),Af3 (tI.out.dn (by simp) _),pN.out.setCell (by simp;omega) _⟩
     case measure=>simp[Af5]
    |2,_=>
     have g0: wr.cell? ⟨w.heap.size+1+1,2,none⟩=some (.int .i64 M.c):=(hq.out.cell 2).trans (by simp[an.cs,mU])
     have fz:=hq.out.frozen 2;have i0:∀w:Aa4,(Af2 128 (.agg #[.int .i64 x.a,.int .i64 x.b,.int .i64 x.c]) (.int .i64 2)).run prog w=.ok (.int .i64 x.c) w:=fun w=>by simp[Af2,go_sem]
     go_wp2;have cZ:=hq.out.set 2 (.int .i64 (if M.c<x.c then x.c else M.c))
     have Cc:=Af3 cZ;clear cZ;go_roundw;case rel=>exact⟨2+1,by omega,by go_num,Af3 (by rw[<-HM.out];simpa [an.cs,mU] using Cc.out),Af3 (tI.out.dn (by simp) _),pN.out.setCell (by simp;omega) _⟩
     case measure=>simp[Af5]
    |3,_=>
     go_wp2;go_roundw;case rel=>exact⟨i+1,by omega,by go_num,Af3 (by rw[oJ HX.out,TF,<-HM.out];exact hq.out),tI,pN.out⟩
     case measure=>simp[Af5];omega
  ·obtain rfl:i=n:=by omega
   have e0:=(hk.out.cell 0);have e1:=(hk.out.cell 1);have e2:=(hk.out.cell 2);rw[Agf (Ago nh.out)] at e0 e1 e2;generalize hG:cz ps=G at e0 e1 e2 |-
   replace e0: wo.cell? ⟨w.heap.size+1+1,0,none⟩=some (.int .i64 G.a):=e0;replace e1: wo.cell? ⟨w.heap.size+1+1,1,none⟩=some (.int .i64 G.b):=e1;replace e2: wo.cell? ⟨w.heap.size+1+1,2,none⟩=some (.int .i64 G.c):=e2;have q0: wo.cell? ⟨w.heap.size+1,0,none⟩=some (.int .i64 0):=(cP.out.cell 0);have q1: wo.cell? ⟨w.heap.size+1,1,none⟩=some (.int .i64 0):=(cP.out.cell 1);have q2: wo.cell? ⟨w.heap.size+1,2,none⟩=some (.int .i64 0):=(cP.out.cell 2);have z0:=cP.out.frozen 0;have z1:=cP.out.frozen 1;have z2:=cP.out.frozen 2;clear hb;go_wp2;exact bodyPost_ret (v:=.agg G.cs) (by simp[results,Tryz.results115,go_sem,q0,q1,q2,an.cs]) rfl ⟨by rw[<-hG],((HB.out.setCell (by simp) _).setCell (by simp) _).setCell (by simp) _⟩
end Go.Tw
namespace Go.Tw
variable [Go.Tw.aR]
open Go
theorem Fu{α:Type}{f:List α->α->Int}:∀(l dw:List α),scan f dw l=0->∀x∈l,∃Zt,f Zt x=0
 | [],_,_,x,h=>by cases h
 |a::l,dw,h,x,hx=>by
  unfold scan at h;by_cases h0:f dw a≠0
  ·rw[if_pos h0] at h;exact absurd h h0
  ·rw[if_neg h0] at h
   rcases Aef.1 hx with rfl|hx
   ·exact⟨dw,by simpa using h0⟩
   ·exact Fu l _ h x hx
theorem alA{a b lo hi m:Int}(h:ma a b lo hi m=true):lo<=a/\a<=b/\b<=hi/\b - a<m:=by
 simp only[ma,Aax,decide_eq_true_eq] at h;exact⟨h.1.1.1,h.1.1.2,h.1.2,h.2⟩
theorem WH{np:Int}:∀(l:List Int) (p:Int),eE np (some p) l=0->(∀k∈l,0<=k/\k<np)/\(l=[]\/(l.length:Int)<=np - 1 - p)
 | [],_,_=>⟨fun k h=>(by cases h),.inl rfl⟩
 |a::l,p,h=>by
  unfold eE at h;by_cases hi:bX a 0 (np - 1)=true
  ·rw[if_pos hi] at h
   have hr:=nJ hi;by_cases ha:a<=p
   ·rw[if_pos ha] at h;omega
   ·rw[if_neg ha] at h
    obtain⟨h1,h2⟩:=WH l a h;refine⟨fun k hk=>?_,.inr ?_⟩
    ·rcases Aef.1 hk with rfl|hk
     ·omega
     ·exact h1 k hk
    ·rcases h2 with rfl|h2
     ·simp;omega
     ·simp;omega
  ·rw[if_neg hi] at h;omega
theorem akl{np:Int}{l:List Int}(hn:0<=np)(h:eE np none l=0):(∀k∈l,0<=k/\k<np)/\(l.length:Int)<=np:=by
 cases l with
 |nil=>exact⟨fun k h=>(by cases h),by simpa using hn⟩
 |cons a l=>
  unfold eE at h;by_cases hi:bX a 0 (np - 1)=true
  ·rw[if_pos hi] at h
   have hr:=nJ hi;obtain⟨h1,h2⟩:=WH l a h;refine⟨fun k hk=>?_,?_⟩
   ·rcases Aef.1 hk with rfl|hk
    ·omega
    ·exact h1 k hk
   ·rcases h2 with rfl|h2
    ·simp;omega
    ·simp;omega
  ·rw[if_neg hi] at h;omega
structure Rm(p:Piece):Prop where
 lo:1<=p.len.lo
 le:p.len.lo<=p.len.hi
 hi:p.len.hi<=40
 wide:p.len.hi - p.len.lo<3
 bears:0<=p.bears/\p.bears<=2
structure QF(x:bR):Prop where
 aH:1<=x.aH/\x.aH<=40
 cM:x.cM.length<=3
structure Valid(b:ao):Prop where
 ag:0<=b.ag/\b.ag<=3
 np:1<=b.pieces.length/\b.pieces.length<=3
 piece:∀p∈b.pieces,Rm p
 nb:b.aF.length<=3
 bp:∀x∈b.aF,QF x
 nt:b.aJ.length<=4
 tape:∀t∈b.aJ,(∀k∈t.pieces,0<=k/\k<b.pieces.length)/\t.pieces.length<=b.pieces.length
theorem ajF{dw:List Piece}{p:Piece}(h:kJ dw p=0):Rm p:=by
 unfold kJ at h;split at h
 ·split at h
  ·omega
  ·split at h
   ·rename_i hs
    split at h
    ·rename_i hi
     have h1:=alA hs;have h2:=nJ hi;exact⟨h1.1,h1.2.1,h1.2.2.1,h1.2.2.2,h2⟩
    ·omega
   ·omega
 ·omega
theorem ZJ{dw:List bR}{x:bR}(h:gJ dw x=0):QF x:=by
 unfold gJ at h;split at h
 ·split at h
  ·omega
  ·split at h
   ·rename_i hi
    split at h
    ·omega
    ·exact⟨nJ hi,by omega⟩
   ·omega
 ·omega
theorem iy{b:ao}(h:dF b=0):Valid b:=by
 have hz:=Fu (f:=fun _ s=>s) (jP b) [] h
 obtain⟨_,h1⟩:=hz (if bX b.ag 0 3 then 0 else 1) (by simp[jP])
 obtain⟨_,h2⟩:=hz (iw b.pieces) (by simp[jP])
 obtain⟨_,h3⟩:=hz (kC b.aF) (by simp[jP])
 obtain⟨_,h4⟩:=hz (kK b.pieces.length b.aJ) (by simp[jP])
 clear hz h;have hs:bX b.ag 0 3=true:=by
  cases e:bX b.ag 0 3 with
  |true=>rfl
  |false=>rw[e] at h1;simp at h1
 have kH:bX b.pieces.length 1 3=true:=by
  cases e:bX b.pieces.length 1 3 with
  |true=>rfl
  |false=>unfold iw at h2;rw[e] at h2;simp at h2
 have hn:=nJ kH;unfold iw at h2;rw[kH,if_pos rfl] at h2;unfold kC at h3;split at h3
 ·omega
 unfold kK at h4;split at h4
 ·omega
 refine⟨nJ hs,by omega,fun p hp=>?_,by omega,fun x hx=>?_,by omega,fun t ht=>?_⟩
 ·obtain⟨dw,h⟩:=Fu _ _ h2 p hp;exact ajF h
 ·obtain⟨dw,h⟩:=Fu _ _ h3 x hx;exact ZJ h
 ·obtain⟨dw,h⟩:=Fu _ _ h4 t ht
  simp only[kh] at h;split at h
  ·omega
  ·split at h
   ·contradiction
   ·rename_i h0
    have:=akl (np:=b.pieces.length) (by omega) (by simpa using h0)
    exact⟨this.1,by omega⟩
theorem Valid.amb{b:ao}(h:Valid b):zz b:=fun t ht=>⟨fun k hk=>by have:=(h.tape t ht).1 k hk;have:=h.np;omega,by have:=(h.tape t ht).2;have:=h.np;omega⟩
end Go.Tw
