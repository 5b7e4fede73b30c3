/- Whatever lengths the pieces really have, if the tapes are right, they are a boat, and what is told of all boats holds of them: MouldReal returns true for every book, every choice and every piece. Conditions: the card's own (mould.measures is as the program's text lays it). Printed from longer texts by a program: names and blanks are cut. -/
import Derived.Test.YtfifdjajcogccaaGreatDoorZ06
import Derived.Test.YtfifdjajcogccaaGreatDoorZ03
import Derived.Test.YtfifdjajcogccaaGreatDoorZ05
import Derived.Deep.RegionWith
import Derived.BigGuard
import Derived.Deep.RegionLaw
set_option linter.all false
set_option maxHeartbeats 64000000
set_option maxRecDepth 100000
open Array renaming getElem?_eq_some_iff -> Ϟ, size_setIfInBounds -> Aem, replicate -> Θ, getD_eq_getD_getElem? -> Aaa, getElem?_ofFn -> Ajx, getElem?_setIfInBounds -> Aai, getElem?_eq_none_iff -> Aks, getElem?_eq_getElem -> Aaz, getElem?_eq_none -> Aan, getElem?_replicate -> Akt
open Go renaming Code -> ϖ, Addr -> ϕ, Calls -> ύ, Oper -> Ϝ, wpList -> Ahd, wpAny -> Aku, wpAny_take -> Akv, getD_set_ne -> Akw
open Go.IntKind renaming i64 -> Ϛ
open Go.Proofs.Tryz renaming prog -> ϋ
open Go.Region renaming ready -> Aka, wanted -> Aj9
open Go.RowKit.Below renaming refl -> Akx, alloc -> Aky, trans -> Akz
open Go.Value renaming int -> ϝ
open List renaming eq_nil_of_length_eq_zero -> Ah7, range -> ϸ, mem_range -> Ahy, all_eq_true -> Akh, mem_cons -> ϫ, not_mem_nil -> Λ, take_succ_cons -> Agi, drop_zero -> Agl, drop_succ_cons -> Agk, take_zero -> Agj, setIfInBounds_toArray -> Ajl, set_cons_zero -> Ajm, set_cons_succ -> ε
open Nat renaming le_refl -> ϊ, lt_of_lt_of_le -> Ϡ, le_trans -> Ϥ
open Ne renaming symm -> Ag2
open Option renaming getD_some -> Akq, map_some -> Ag3
open Option.some renaming inj -> ϟ, injEq -> Aeh
open Bool renaming true -> θ, false -> χ
open Go renaming Value -> υ, undef -> ω, World -> Ψ
open Go.Ending renaming returned -> Ω
open Go.IntKind renaming i64 -> κ
open Go.Lib renaming hid -> ψ
open Go.Obj renaming cells -> Ξ
open Go.RowKit renaming Below -> Γ, Below -> Γ
open Go.Value renaming slice -> ζ, pointer -> π, tuple -> μ, agg -> η, int -> ξ
open Option renaming some -> φ, none -> ν
noncomputable section
namespace Go.Jn
open Go Go.Proofs Go.Sim Go.Conc Go.Tw
def results2{P:Program}{fn:Func}(hr:fn.results=#[.tmp 2,.tmp 3])(t:Array υ)(w:Ψ):(results fn t).runT P w #[]=(.ok (μ #[t.getD 2 ω,t.getD 3 ω]) w,#[]):=by
 have e:results fn t=Sem.pure (μ #[t.getD 2 ω,t.getD 3 ω]):=by
  unfold results;rw[hr];simp only[Array.mapM_eq_mapM_toList,List.mapM_cons,List.mapM_nil];rfl
 rw[e];rfl
def am3{P:Program}{main:Bool}{Stop:Sim.aaa->Goroutine->Ψ->Prop}{M:Sim.aaa}{w:Ψ}{f:FuncId}{t:Array υ}{k:List Item}{fr:Frame}{cs:List Frame}{fn:Func}(hf:P.funcs[f]?=φ fn)(hr:fn.results=#[.tmp 2,.tmp 3])
 (h:Walk P main Stop M (aO (fr.finish (μ #[t.getD 2 ω,t.getD 3 ω])) cs) w):Walk P main Stop M (aO ⟨f,t,k,[],.returning,.normal,ν⟩ (fr::cs)) w:=
 kM rfl (λaa=>by
  have e:unwind P main ⟨f,t,k,[],.returning,.normal,ν⟩ (fr::cs) ν aa=.go (aO (fr.finish (μ #[t.getD 2 ω,t.getD 3 ω])) cs) aa #[]:=by
   unfold unwind;simp only[hf,results2 hr,ud,GStep.after,doReturn];rfl
  exact e) h
def ag5{σ:Ren}{wl w:Ψ}{NR:Nat}(hW:bV C0 σ wl w)(hr:∀a q,σ a q->q<NR)(hn:bJ wl.heap){n:Nat}{zs:List Int}{ov:υ}(ho:w.ownsRow NR 3 1 ov n (zs.map (ξ κ))):
 ∃(bM:Ren) (fR:Ψ) (ol:υ),bV C0 bM fR w/\σ.le bM/\(∀a p,bM a p->σ a p\/(wl.heap.size<=a/\NR<=p))/\ah bM ol ov/\fR.ownsRow wl.heap.size 3 1 ol n (zs.map (ξ κ))/\
  (∀(a:Nat) (o:Obj),wl.heap[a]?=φ o->fR.heap[a]?=φ o)/\wl.heap.size<=fR.heap.size/\bJ fR.heap:=by
 rcases ho.2 with⟨rfl,h0⟩ | ⟨g,cap,cur,rfl,nC,hg,dX,kZ,fg,lT⟩
 ·exact⟨σ,wl,ζ ν 0 0,hW,σ.le_refl,λa p h=>.inl h,.sliceNone 0 0,⟨ho.1,.inl ⟨rfl,h0⟩⟩,λ_ _ h=>h,ϊ _,hn⟩
 ·obtain⟨u,hu,Ke⟩:=Pt (ext σ wl.heap.size g) cur n zs lT
  have jw:=uP (o:=.cells u 3) hW hg (λa ha=>by have:=hr a g ha;omega) (.cells 3 hu (.inl rfl))
  refine⟨_,_,ζ (φ ⟨wl.heap.size,0,ν⟩) n cap,jw,xj _ _ _,?_,.slice _ _ ⟨.inr ⟨rfl,rfl⟩,rfl,rfl⟩,⟨ho.1,.inr ⟨_,cap,u,rfl,ϊ _,jO,dX,kZ,hu.1.trans fg,Ke⟩⟩,
   λa o ha=>(kB (Ϟ.1 ha).1).trans ha,by rw[eM];omega,bJ.push hn (o:=.cells u 3) (λh=>h)⟩
  rintro a p (ha| ⟨rfl,rfl⟩)
  ·exact .inl ha
  ·exact .inr ⟨ϊ _,nC⟩
def Kp(NB:Nat)(wB:Ψ)(fr:Frame)(cs:List Frame)(zs:List Int)(_:Sim.aaa)(g:Goroutine)(w:Ψ):Prop:=
 ∃ov,g=aO (fr.finish (μ #[ov,ξ κ 0])) cs/\w.ownsRow NB 3 1 ov zs.length (zs.map (ξ κ))/\(∀q,q<NB->w.heap[q]?=wB.heap[q]?)/\NB<=w.heap.size
def Xp(zs:List Int):(ga zs).length=zs.length:=by simp[ga]
def acH{NR NB:Nat}{wB w:Ψ}{fr:Frame}{cs:List Frame}{az:List Nat}{M:Sim.aaa}{g:Goroutine}(hE:Kn NR NB wB (fr::cs) az M g w)(hN:NB<=NR){σ:Ren}{wl:Ψ}(hW:bV C0 σ wl wB)(tq:NB=wB.heap.size)(k7:σ 0 0)(lP:∀a q,σ a q->∃o,wl.heap[a]?=φ o/\lC o)(gy:bJ wl.heap)(hg:az.length<=1000):
 Walk ϋ θ (Kp NB wB fr cs (ga (ints az))) (allM w) g w:=by
 letI:=iQ
 obtain⟨t,z,rfl,hs,zX,⟨⟨ov,h9,aG,_⟩,Df,NN⟩,hold,UU⟩:=hE;have Hy:∀a q,σ a q->q<NB:=λa q h=>by rw[tq];exact hW.dc a q h
 obtain⟨o,ho,ab,hd,gx⟩:=afd;refine du (v:=.bool χ) ho (bI gx) rfl (λaa _=>⟨_,Ft t aa ab (cJ zX) rfl,cS⟩) ?_
 rw[hd];have cZ:(ay t (φ 32) (.bool χ)).size=41:=by simp[ay,hs]
 have j9:(ay t (φ 32) (.bool χ))[9]?=φ ov:=(bL (by omega)).trans h9
 have Ow:(ay t (φ 32) (.bool χ)).getD 32 ω=.bool χ:=ib (by omega)
 revert cZ j9 Ow
 generalize ay t (φ 32) (.bool χ)=t1;intro cZ j9 Ow;refine iA ?_
 rw[Ri];refine fF (Bl (q:=χ) Ow (Qm (k':=[.code re]) rfl ?_))
 rw[ake];refine fF ?_
 have eJ:bV C0 σ wl w:=ta hW (by rw[<-tq];exact UU) λa q hq=>hold q (Hy a q hq)
 obtain⟨bM,fR,ol,jw,hle,hinv,hv,vX,afh,afD,NI⟩:=ag5 eJ (λa q h=>Ϡ (Hy a q h) hN) gy aG
 obtain⟨u0,EX⟩:=Mb bM t1;have Od:=SR EX hv j9;have hus:(u0.setIfInBounds 9 ol).size=41:=by rw[Aem,EX.1,cZ]
 have hu9:(u0.setIfInBounds 9 ol)[9]?=φ ol:=tY (by rw[EX.1,cZ];omega)
 refine piece (S:=⟨.skip,[.code (.seq (.region 17 yM χ) .ret)],[],fr::cs,.normal⟩) (c:=.region 16 Bg χ) (a:=⟨u0.setIfInBounds 9 ol,[cQ]⟩) aas rfl rfl (hl:=λT=>alz (w:=aZ fR T) (base:=wl.heap.size) (n:=az.length) (zs:=ints az) vX (by omega) afD hus hu9) jw (hle _ _ k7) (zF jw) (λq hq=>kA.1 hq) NI Od ?_
 rintro e bB aa bS aE eV aA ⟨rfl,aI,k9,tG⟩ bY iL xM UN vi lQ Vm;refine⟨λ_ _=>?_,λhe=>by cases he⟩
 have ht:eV.size=41:=Vm.1.symm.trans aI;obtain⟨v',hv9,vD⟩:=IZ Vm k9;have hb:∀a q,wl.heap.size<=a->aE a q->NR<=q:=by
  intro a q ha hq;rcases bY.new a q hq with hq| ⟨_,hq⟩
  ·rcases hinv a q hq with hq| ⟨_,hq⟩
   ·have:=hW.dA a q hq;omega
   ·exact hq
  ·omega
 have afl:aA.ownsRow NB 3 1 v' (ga (ints az)).length ((ga (ints az)).map (ξ κ)):=by
  rw[Xp];have qp:(ints az).length=az.length:=by simp[ints]
  rw[qp];by_cases h0:az.length=0
  ·have hz:ga (ints az)=[]:=Ah7 (by rw[Xp,qp,h0])
   have vv:ov=ζ ν 0 0:=by
    have:=NN (Ah7 h0);rw[h9] at this;exact ϟ this
   have q9:ol=ζ ν 0 0:=by
    rcases vX.2 with⟨e,_⟩ | ⟨g,cap,cur,e,_⟩
    ·exact e
    ·rw[vv,e,h0] at hv;cases hv
   rw[q9] at vD;cases vD;rw[hz,h0];exact⟨rfl,.inl ⟨rfl,rfl⟩⟩
  ·exact World.ownsRow.base (Wv iL vD tG h0 hb).1 hN
 have kept:∀q,q<NB->aA.heap[q]?=wB.heap[q]?:=by
  intro q hq;refine(bY.im q (.inl (show q<w.heap.size by omega)) λa ha=>?_).trans (hold q hq)
  rcases hinv a q ha with ha| ⟨_,hx⟩
  ·obtain⟨o,h1,h2⟩:=lP a q ha
   exact⟨o,afh a o h1,h2⟩
  ·omega
 have afC:NB<=aA.heap.size:=Ϥ UU bY.fQ;show Walk ϋ θ (Kp NB wB fr cs (ga (ints az))) bS (rg 38 eV [.code (.seq (.region 17 yM χ) .ret)] [] .normal (fr::cs)) aA;have Po:∀g k c,v'=ζ (φ g) k c->bS.has g.block:=by
  intro g k c e;subst e;cases vD with
  |slice _ _ ha=>exact(xM _ _ ha.1).imp id (·.1)
  |sliceDead a1 b1=>
   rcases vX.2 with⟨e,_⟩ | ⟨g',cap,cur,e,_⟩
   ·cases e
   ·have h0:az.length=0:=by injection e with e1 e2 e3;exact e2.symm
    have:=NN (Ah7 h0);rw[h9] at this;rw[ϟ this] at hv;cases hv
  |junk h _ _=>
   rcases vX.2 with⟨e,_⟩ | ⟨g,cap,cur,e,_⟩<;>cases e
 have Pj:∀q,q<NB->bS.has q:=λq hq=>aaa.tx bY.R bY.O (.inl (show q<w.heap.size by omega))
 ·refine fF (gH ?_)
  rw[s17];obtain⟨o,ho,ab,hd,gx⟩:=ahF;have e9:aS eV (.tmp 9)=v':=cJ hv9;refine du (v:=v') ho (bI gx) rfl (λaa _=>⟨_,(run_move eV aa ab).trans (by rw[e9]),cS⟩) ?_
  rw[hd];have L5:aS (ay eV (φ 40) v') (.tmp 40)=v':=ib (by omega)
  have dD:(ay eV (φ 40) v').size=41:=by simp[ay,ht]
  revert L5 dD
  generalize ay eV (φ 40) v'=t2;intro L5 dD;obtain⟨o,ho,ab,hd,gx⟩:=ahG;refine du (v:=v') ho (bI gx) rfl (λaa _=>⟨_,(run_assign t2 aa ab).trans (by rw[L5]),cS⟩) ?_
  rw[hd];have e2:(ay t2 (φ 2) v')[2]?=φ v':=tY (by omega)
  have gQ:(ay t2 (φ 2) v').size=41:=by simp[ay,dD]
  revert e2 gQ
  generalize ay t2 (φ 2) v'=t3;intro e2 gQ;obtain⟨o,ho,ab,hd,gx⟩:=ahH;refine du (v:=ξ κ 0) ho (bI gx) rfl (λaa _=>⟨_,run_assign t3 aa ab,cS⟩) ?_
  rw[hd];have e3:(ay t3 (φ 3) (ξ κ 0)).getD 3 ω=ξ κ 0:=ib (by omega)
  have e2':(ay t3 (φ 3) (ξ κ 0)).getD 2 ω=v':=cJ ((bL (by omega)).trans e2)
  refine iA (am2 (am3 Tryz.func38 akb ?_))
  rw[e3,e2'];refine .stop λaq hk=>⟨v',rfl,?_,?_,Ϥ afC hk.size⟩
  ·exact Pb afl λg k c e=>hk.kept _ (Po g k c e)
  ·exactλq hq=>(hk.kept q (Pj q hq)).trans (kept q hq)
def ajM{t0 t:Array υ}{M0 M:Sim.aaa}{w0 w aa:Ψ}{cN cL p6 p7:Nat}(h:R4 t0 M0 w0 cN cL p6 p7 t M w)(k:bN M w aa):R4 t0 M0 w0 cN cL p6 p7 t M aa:=
 ⟨h.n.keep k,h.l.keep k,h.vn.keep k,h.vl.keep k,h.nl,h.np,h.nR,h.same,h.O,h.On,h.R,λb hb=>(k.kept b (hb.imp (h.O b) λx=>by rw[h.R];exact x)).trans (h.kept b hb),Ϥ h.size k.size,λb hb=>Ϡ (h.low b hb) k.size,k.tape.trans h.tape,k.os.trans h.os,k.e.trans h.e⟩
def Ba{n:Nat}{l:List Nat}(hd:l.Nodup)(h:∀i∈l,i<n):l.length<=n:=by
 have:=hd.length_le_of_subset (l₂:=ϸ n) λi hi=>Ahy.2 (h i hi)
 simpa using this
def ED(b:ao)(i:Nat):Bool:=(search b (cz (aD b)) (λk=>decide (k=i)) b.pieces.length []).isNone
def yH(b:ao):List Nat:=(ϸ b.aF.length).filter (ED b)
def aiP{b:ao}{σ:Ren}{wl:Ψ}{pv bv tv arg:υ}{B:Nat}{w:Ψ}(hb:J5 b σ wl pv bv tv B arg w)(ab:cj b 0=0){fr:Frame}{cs:List Frame}
 {gs:Array Goroutine}{t:Trace}{q:Nat->Nat}(hF:Fr ϋ gs w t q (aO (Frame.enter ϋ 38 #[arg] .normal) (fr::cs)))(sl:Option (Nat×Nat)):
 ∃N aT w' bm t' q' g' az M',runNT ϋ N (crowd gs w sl) t=(.next (crowd aT w' bm),t')/\Fr ϋ aT w' t' q' g'/\Kp w.heap.size w fr cs (ga (ints az)) M' g' w'/\az.Nodup/\(∀i,i∈az↔i<b.aF.length/\ED b i=θ)/\Base w w':=by
 have he:Frame.enter ϋ 38 #[arg] .normal=⟨38,#[arg]++Θ 40 ω,[.code (.seq (.region 0 p0 χ) (.seq pT (.seq (.region 4 iP θ) nP)))],[],.run,.normal,ν⟩:=
  zQ Tryz.func38 RG #[arg] .normal
 rw[he] at hF;have lQ:b.aF.length<=3:=by letI:=iQ;exact(iy (pq ab).1).nb
 obtain⟨N1,TG,M1,g1,w1,PQ,t1,q1,r1,z1,⟨⟨T,bk,lb,cw,lz,rfl,hT,xC,hP⟩,om⟩,lN⟩:=Cw (FM (stA (cs:=fr::cs) hb ab) (Gr w)) gs sl t q hF (λq hq=>kA.1 hq)
 have hE:WalkE ϋ θ w1.heap.size (λM g w2=>∃cN cL p6 p7 t2,R4 T (allM w1) w1 cN cL p6 p7 t2 M w2/\g=rg 38 t2 [.code nP] [] .normal (fr::cs)) (allM w1) (rg 38 T [.code (.seq (.region 4 iP θ) nP)] [] .normal (fr::cs)) w1:=
  X8 rfl (λaa=>by simp[stepG,stepG.exec]) (am1 rfl hT (λb hb=>kA.1 hb) λcN cL p6 p7 t2 M w2 h4=>.stop λky hk=>⟨cN,cL,p6,p7,t2,ajM h4 hk,rfl⟩)
 obtain⟨N2,GU,M2,g2,w2,PR,t2,q2,r2,z2,⟨⟨cN,cL,p6,p7,T2,h4,rfl⟩,Mu⟩,GY,MH⟩:=Zw (amR hE om) TG PQ t1 q1 lN (λq hq=>kA.1 hq) (lK.of_low lN.gD.seen)
 obtain⟨ej,Qt,l6,l7,hS,AG,TQ⟩:=alJ hP h4;have hs:jN bk p6 p7 T2:=⟨h4.nR,(h4.same 1 (by omega) (by omega) (by omega) (by omega)).trans xC,h4.vn.1,h4.vl.1⟩
 have De:∀(M:Sim.aaa) (w':Ψ),St b ej Qt pv bv tv B lb l6 l7 bk p6 p7 cN cL b.aF.length w.heap.size w M w'->max p6 p7+1<=w'.heap.size:=λM w' h=>by
  have:=h.low _ h.m6;have:=h.low _ h.m7;omega
 have hW:=alL (N0:=GU.size) (eU:=ED b) (cs:=fr::cs) (λ_=>rfl) ab AG TQ (by omega) T2 _ w2 hs hS (De _ _ hS) De
 obtain⟨G,hG⟩:=acE (X:=Pm.mk ϋ b.aF.length GU.size cL cN (ED b) X0 (Kn (max p6 p7+1) w.heap.size w (fr::cs))) GY rfl
  (λq hq=>by
    rcases hq with hq|hq
    ·exact⟨hq.1,hq.2.2,hq.2.1⟩
    ·exact hq.elim) rfl hW h4.l.2.2.2 h4.n.2.2.2 (Ag2 h4.nl) MH h4.n.2.2.1
 obtain⟨N3,Mo,w3,PS,t3,r3,⟨q3,g3,M3,az,My,hE3,nH,mB,MO,UN⟩⟩:=acx PR hG;have k7:az.length<=1000:=by
  have:az.length<=b.aF.length:=Ba nH λi hi=>((mB i).1 hi).1
  omega
 have Nj:=acH hE3 TQ hb.core rfl hb.gL hb.fixed hb.nb k7;obtain⟨N4,Fa,M4,g4,w4,sl4,t4,q4,r4,z4,⟨adG,IT⟩,IW⟩:=Cw (FM Nj (rn Mu MO)) Mo PS t3 q3 My (λq hq=>kA.1 hq)
 exact⟨N1+(N2+(N3+N4)),Fa,w4,sl4,t4,q4,g4,az,M4,uc _ _ _ r1 (uc _ _ _ r2 (uc _ _ _ r3 r4)),IW,adG,nH,mB,IT⟩
def aly{b:ao}{az:List Nat}(hd:az.Nodup)(hm:∀i,i∈az↔i<b.aF.length/\ED b i=θ):ga (ints az)=ints (yH b):=by
 have hp:az.Perm (yH b):=(List.perm_ext_iff_of_nodup hd (List.nodup_range.filter _)).2 λi=>by rw[hm i];simp[yH]
 have hs:(ints (yH b)).Pairwise (λx y=>decide (x<=y)=θ):=by
  unfold ints yH;rw[List.pairwise_map];refine(List.Pairwise.filter _ List.pairwise_lt_range).imp λh=>?_
  simp only[decide_eq_true_eq];omega
 have h1:(ga (ints az)).Perm (ints (yH b)):=(List.mergeSort_perm _ _).trans (hp.map _);refine h1.eq_of_pairwise (le:=λx y=>decide (x<=y)=θ) (λa c _ _ h k=>by simp only[decide_eq_true_eq] at h k;omega) ?_ hs
 exact List.pairwise_mergeSort (λa b c h k=>by simp only[decide_eq_true_eq] at *;omega) (λa b=>by simp;omega) _
end Go.Jn
namespace Go.Jn
open Go Go.Proofs Go.Sim Go.Conc Go.Tw Go.RowKit
def hJ:ϖ:=(Tryz.f21.body).getD .skip
def gR:ϖ:=hJ
def gS:ϖ:=a8 gR
def gT:ϖ:=a8 gS
def iB:ϖ:=a8 gT
def iV:ϖ:=a8 iB
def jl:ϖ:=a8 iV
def jI:ϖ:=a8 jl
def lV:ϖ:=a8 jI
def kN:ϖ:=a8 lV
def lA:ϖ:=a8 kN
def mg:ϖ:=a8 lA
def mX:ϖ:=a8 mg
def nT:ϖ:=a8 mX
def oM:ϖ:=a8 nT
def pF:ϖ:=a8 oM
def qX:ϖ:=a8 pF
def sJ:ϖ:=a8 qX
def uo:ϖ:=a8 sJ
def wA:ϖ:=a8 uo
def wC:ϖ:=a8 wA
def zf:ϖ:=a8 wC
def BP:ϖ:=a8 zf
def FQ:ϖ:=a8 BP
def JW:ϖ:=a8 FQ
def JX:ϖ:=a8 JW
def wD:ϖ:=a8 JX
def ui:ϖ:=bO gR
def uj:ϖ:=bO gS
def uk:ϖ:=bO gT
def GF:ϖ:=bO iB
def sA:ϖ:=bO iV
def sB:ϖ:=bO jl
def sC:ϖ:=bO jI
def sD:ϖ:=bO lV
def sE:ϖ:=bO kN
def sF:ϖ:=bO lA
def si:ϖ:=bO mg
def sj:ϖ:=bO mX
def sk:ϖ:=bO nT
def rZ:ϖ:=bO oM
def so:ϖ:=bO pF
def sr:ϖ:=bO qX
def ss:ϖ:=bO sJ
def su:ϖ:=bO uo
def Jf:ϖ:=bO wA
def we:ϖ:=bO wC
def wh:ϖ:=bO zf
def wj:ϖ:=bO BP
def wm:ϖ:=bO FQ
def sw:ϖ:=bO JW
def wu:ϖ:=bO JX
def Zr:Tryz.f21.body=φ (chain [ui,uj,uk,GF,sA,sB,sC,sD,sE,sF,si,sj,sk,rZ,so,sr,ss,su] (.seq Jf (chain [we,wh,wj,wm,sw,wu] wD))):=rfl
def aat:∀c∈ [ui,uj,uk,GF,sA,sB,sC,sD,sE,sF,si,sj,sk,rZ,so,sr,ss,su],C0.clean c:=by
 have h: [ui,uj,uk,GF,sA,sB,sC,sD,sE,sF,si,sj,sk,rZ,so,sr,ss,su].all (cr ϋ G0)=θ:=by decide+kernel
 intro c hc;exact Akh.1 h c hc
end Go.Jn
namespace Go.Jn
open Go Go.Proofs Go.Sim Go.Conc Go.Tw Go.RowKit
def FN{P:Program}{jQ:List ϖ}{F:Act->Ψ->Prop}{Q:Exit->Act->Ψ->Prop}(h2:∀a w,F a w->eX P jQ Q a w):∀(uQ:List ϖ) {a:Act} {w:Ψ},eX P uQ (dP F) a w->eX P (uQ++jQ) Q a w
 | [],a,w,h=>h2 a w h
 |c::cs,a,w,h=>by
  show c.wp P (Exit.then (eX P (cs++jQ) Q) Q) a w;have h:c.wp P (Exit.then (eX P cs (dP F)) (dP F)) a w:=h;refine Code.wp_mono (λe a w hq=>?_) h
  cases e with
  |normal=>exact FN h2 cs hq
  |_=>exact(hq:False).elim
structure jo(w0 w:Ψ)(gE gp gb gk gt gl gc g3:Nat):Prop where
 ex:wL w w0.heap.size gp gb gk gt gl
 bE:Bk w gE 26 #[ξ κ 1,ζ (φ ⟨gp,0,ν⟩) 3 3,ζ (φ ⟨gb,0,ν⟩) 2 2,ζ (φ ⟨gt,0,ν⟩) 1 1]
 bc:Bk w gc 56 #[ξ κ 1,ξ κ 0,ξ κ 0,ξ κ 0,ξ κ 0,ξ κ 4]
 b3:Bk w g3 56 #[ξ κ 1,ξ κ 0,ξ κ 0,ξ κ 0,ξ κ 0,ξ κ 6]
 below:Γ w0.heap.size w0 w
 lE:w0.heap.size<=gE
section
variable [Go.Tw.aR]
def jo.grown{w0 w w':Ψ}{gE gp gb gk gt gl gc g3:Nat}(h:jo w0 w gE gp gb gk gt gl gc g3)(hb:Γ w.heap.size w w'):jo w0 w' gE gp gb gk gt gl gc g3:=
 ⟨⟨h.ex.p.below hb h.ex.p.lt,h.ex.b.below hb h.ex.b.lt,h.ex.k.below hb h.ex.k.lt,h.ex.t.below hb h.ex.t.lt,h.ex.l.below hb h.ex.l.lt,h.ex.hp,h.ex.hb,h.ex.hk,h.ex.ht,h.ex.hl⟩,h.bE.below hb h.bE.lt,h.bc.below hb h.bc.lt,h.b3.below hb h.b3.lt,h.below.trans (hb.mono h.below.size),h.lE⟩
def acs{w0 V:Ψ}{gE gp gb gk gt gl gc:Nat}{o:Obj}(h0:wL V w0.heap.size gp gb gk gt gl)(hE:Bk V gE 26 #[ξ κ 1,ζ (φ ⟨gp,0,ν⟩) 3 3,ζ (φ ⟨gb,0,ν⟩) 2 2,ζ (φ ⟨gt,0,ν⟩) 1 1])
 (hc:Bk V gc 56 #[ξ κ 1,ξ κ 0,ξ κ 0,ξ κ 0,ξ κ 0,ξ κ 4])(hb:Γ w0.heap.size w0 V)(hl:w0.heap.size<=gE):
 jo w0 ((V.drew.alloc o).alloc (Ξ #[ξ κ 1,ξ κ 0,ξ κ 0,ξ κ 0,ξ κ 0,ξ κ 6] 56)) gE gp gb gk gt gl gc (V.heap.size+1):=by
 have hx:Γ V.heap.size V ((V.drew.alloc o).alloc (Ξ #[ξ κ 1,ξ κ 0,ξ κ 0,ξ κ 0,ξ κ 0,ξ κ 6] 56)):=((iY (Akx _ _)).alloc (ϊ _) o).alloc (by simp) _
 exact⟨⟨h0.p.below hx h0.p.lt,h0.b.below hx h0.b.lt,h0.k.below hx h0.k.lt,h0.t.below hx h0.t.lt,h0.l.below hx h0.l.lt,h0.hp,h0.hb,h0.hk,h0.ht,h0.hl⟩,hE.below hx hE.lt,hc.below hx hc.lt,Bk.cG (by simp) _ _,hb.trans (hx.mono hb.size),hl⟩
def FA(w0:Ψ)(a:Act)(w:Ψ):Prop:=a.defers=[cQ]/\a.tmps.size=349/\a.tmps[0]?=φ (.bool χ)/\∃gE gp gb gk gt gl gc g3,a.tmps[1]?=φ (π (φ ⟨gE,0,ν⟩))/\a.tmps[2]?=φ (ζ (φ ⟨gc,0,ν⟩) 3 3)/\a.tmps[3]?=φ (ζ (φ ⟨g3,0,ν⟩) 3 3)/\jo w0 w gE gp gb gk gt gl gc g3
end
end Go.Jn
namespace Go.Jn
open Go Go.Proofs Go.Sim Go.Conc Go.Tw Go.RowKit
set_option maxRecDepth 400000 in
def lit(x:Nat->υ):List υ:=x 0::x 1::x 2::x 3::x 4::x 5::x 6::x 7::x 8::x 9::x 10::x 11::x 12::x 13::x 14::x 15::x 16::x 17::x 18::x 19::x 20::x 21::x 22::x 23::x 24::x 25::x 26::x 27::x 28::x 29::x 30::x 31::x 32::x 33::x 34::x 35::x 36::x 37::x 38::x 39::x 40::x 41::x 42::x 43::x 44::x 45::x 46::x 47::x 48::x 49::x 50::x 51::x 52::x 53::x 54::x 55::x 56::x 57::x 58::x 59::x 60::x 61::x 62::x 63::x 64::x 65::x 66::x 67::x 68::x 69::x 70::x 71::x 72::x 73::x 74::x 75::x 76::x 77::x 78::x 79::x 80::x 81::x 82::x 83::x 84::x 85::x 86::x 87::x 88::x 89::x 90::x 91::x 92::x 93::x 94::x 95::x 96::x 97::x 98::x 99::x 100::x 101::x 102::x 103::x 104::x 105::x 106::x 107::x 108::x 109::x 110::x 111::x 112::x 113::x 114::x 115::x 116::x 117::x 118::x 119::x 120::x 121::x 122::x 123::x 124::x 125::x 126::x 127::x 128::x 129::x 130::x 131::x 132::x 133::x 134::x 135::x 136::x 137::x 138::x 139::x 140::x 141::x 142::x 143::x 144::x 145::x 146::x 147::x 148::x 149::x 150::x 151::x 152::x 153::x 154::x 155::x 156::x 157::x 158::x 159::x 160::x 161::x 162::x 163::x 164::x 165::x 166::x 167::x 168::x 169::x 170::x 171::x 172::x 173::x 174::x 175::x 176::x 177::x 178::x 179::x 180::x 181::x 182::x 183::x 184::x 185::x 186::x 187::x 188::x 189::x 190::x 191::x 192::x 193::x 194::x 195::x 196::x 197::x 198::x 199::x 200::x 201::x 202::x 203::x 204::x 205::x 206::x 207::x 208::x 209::x 210::x 211::x 212::x 213::x 214::x 215::x 216::x 217::x 218::x 219::x 220::x 221::x 222::x 223::x 224::x 225::x 226::x 227::x 228::x 229::x 230::x 231::x 232::x 233::x 234::x 235::x 236::x 237::x 238::x 239::x 240::x 241::x 242::x 243::x 244::x 245::x 246::x 247::x 248::x 249::x 250::x 251::x 252::x 253::x 254::x 255::x 256::x 257::x 258::x 259::x 260::x 261::x 262::x 263::x 264::x 265::x 266::x 267::x 268::x 269::x 270::x 271::x 272::x 273::x 274::x 275::x 276::x 277::x 278::x 279::x 280::x 281::x 282::x 283::x 284::x 285::x 286::x 287::x 288::x 289::x 290::x 291::x 292::x 293::x 294::x 295::x 296::x 297::x 298::x 299::x 300::x 301::x 302::x 303::x 304::x 305::x 306::x 307::x 308::x 309::x 310::x 311::x 312::x 313::x 314::x 315::x 316::x 317::x 318::x 319::x 320::x 321::x 322::x 323::x 324::x 325::x 326::x 327::x 328::x 329::x 330::x 331::x 332::x 333::x 334::x 335::x 336::x 337::x 338::x 339::x 340::x 341::x 342::x 343::x 344::x 345::x 346::x 347::x 348:: []
set_option maxRecDepth 400000 in
def ahd(x:Nat->υ):lit x=(ϸ 349).map x:=rfl
def VX(u:Array υ)(h:u.size=349):∃x:Nat->υ,u=(lit x).toArray/\∀i v,u[i]?=φ v->x i=v:=by
 refine⟨λi=>u.getD i ω,?_,λi v hv=>?_⟩
 ·rw[ahd]
  apply Array.ext
  ·simp[h]
  ·intro i h1 h2
   simp[Aaa,h1]
 ·simp[Aaa,hv]
def Sl(m:List (Nat×υ))(a:Act):Prop:=a.defers=[cQ]/\a.tmps.size=349/\∀p∈m,a.tmps[p.1]?=φ p.2
def Sl.get{m:List (Nat×υ)}{a:Act}(h:Sl m a){i:Nat}{v:υ}(hm:(i,v)∈m):a.tmps[i]?=φ v:=h.2.2 (i,v) hm
def eN{α:Type}{p:α->Prop}{a:α}{l:List α}(h1:p a)(h2:∀x∈l,p x):∀x∈a::l,p x:=λx hx=>(ϫ.1 hx).elim (λe=>e▸h1) (h2 x)
def iT{α:Type}{p:α->Prop}:∀x∈([]:List α),p x:=λ_ h=>absurd h Λ
def Al:List (Nat×υ)->(Nat->υ)->Prop
 | [],_=>True
 |p::m,x=>x p.1=p.2/\Al m x
def Sl.lit{m:List (Nat×υ)}{a:Act}(h:Sl m a):∃x,a=⟨(lit x).toArray,[cQ]⟩/\Al m x:=by
 obtain⟨u,d⟩:=a;obtain⟨hd,hz,hm⟩:=h;simp only at hd hz hm;subst hd;obtain⟨x,rfl,hx⟩:=VX u hz;refine⟨x,rfl,?_⟩
 clear hz;induction m with
 |nil=>trivial
 |cons p m ih=>exact⟨hx _ _ (hm p (by simp)),ih λq hq=>hm q (by simp[hq])⟩
def jj{P:Program}{c:ϖ}{cs:List ϖ}{F:Act->Ψ->Prop}{Q:Exit->Act->Ψ->Prop}{a:Act}{w:Ψ}(h:c.wp P (dP F) a w)(h2:∀a w,F a w->eX P cs Q a w):eX P (c::cs) Q a w:=by
 show c.wp P (Exit.then (eX P cs Q) Q) a w;refine Code.wp_mono (λe a w hq=>?_) h
 cases e with
 |normal=>exact h2 a w hq
 |_=>exact(hq:False).elim
end Go.Jn
namespace Go.Jn
open Go Go.Proofs Go.Sim Go.Conc Go.Tw Go.RowKit
section
variable [Go.Tw.aR]
set_option maxRecDepth 400000 in
def rz3{gE gp gb gt gc g3:Nat}{W:Option ϕ->Nat->Nat->Ψ->Prop}{a:Act}{w:Ψ}(hs:Sl [(0,.bool χ),(1,π (φ ⟨gE,0,ν⟩)),(2,ζ (φ ⟨gc,0,ν⟩) 3 3),(3,ζ (φ ⟨g3,0,ν⟩) 3 3)] a)(hc:Bk w gE 26 #[ξ κ 1,ζ (φ ⟨gp,0,ν⟩) 3 3,ζ (φ ⟨gb,0,ν⟩) 2 2,ζ (φ ⟨gt,0,ν⟩) 1 1])
 (aB:ύ prog 47 #[η #[ξ κ 1,ζ (φ ⟨gp,0,ν⟩) 3 3,ζ (φ ⟨gb,0,ν⟩) 2 2,ζ (φ ⟨gt,0,ν⟩) 1 1],ξ κ 0] w λe w'=>∃A4 n4 c4,e=Ω (μ #[.slice A4 n4 c4,ξ κ 0])/\W A4 n4 c4 w'):GF.wp prog (dP λa w=>∃A4 n4 c4,Sl [(0,.bool χ),(1,π (φ ⟨gE,0,ν⟩)),(2,ζ (φ ⟨gc,0,ν⟩) 3 3),(3,ζ (φ ⟨g3,0,ν⟩) 3 3),(4,.slice A4 n4 c4),(5,ξ κ 0)] a/\W A4 n4 c4 w) a w:=by
 obtain⟨x,rfl,hx⟩:=hs.lit;simp only[Al] at hx;have q0:=hc.cell 0;have q1:=hc.cell 1;have q2:=hc.cell 2;have q3:=hc.cell 3;have aB:=ψ aB;clear hc;unfold lit;simp only[hx];simp only[GF,iB,gT,gS,gR,hJ,Tryz.f21,bO,a8,Akq];go_wp2_with (go_at_call 47;refine aB.e.mono ?_;rintro e w1 ⟨A4,n4,c4,rfl,hp⟩;have HP:=ψ hp;clear hp)
 exact⟨A4,n4,c4,⟨rfl,rfl,(by repeat first|exact iT|refine eN rfl ?_)⟩,HP.e⟩
set_option maxRecDepth 400000 in
def rz4{gE gp gb gt gc g3:Nat}{A4:Option ϕ}{n4 c4:Nat}{W:Ψ->Prop}{a:Act}{w:Ψ}(hs:Sl [(0,.bool χ),(1,π (φ ⟨gE,0,ν⟩)),(2,ζ (φ ⟨gc,0,ν⟩) 3 3),(3,ζ (φ ⟨g3,0,ν⟩) 3 3),(4,.slice A4 n4 c4),(5,ξ κ 0)] a)(hc:Bk w gE 26 #[ξ κ 1,ζ (φ ⟨gp,0,ν⟩) 3 3,ζ (φ ⟨gb,0,ν⟩) 2 2,ζ (φ ⟨gt,0,ν⟩) 1 1])
 (aB:ύ prog 48 #[η #[ξ κ 1,ζ (φ ⟨gp,0,ν⟩) 3 3,ζ (φ ⟨gb,0,ν⟩) 2 2,ζ (φ ⟨gt,0,ν⟩) 1 1],ξ κ 0,ξ κ 0] w λe w'=>e=Ω (μ #[ξ κ 4,ξ κ 0])/\W w'):sA.wp prog (dP λa w=>Sl [(0,.bool χ),(1,π (φ ⟨gE,0,ν⟩)),(2,ζ (φ ⟨gc,0,ν⟩) 3 3),(3,ζ (φ ⟨g3,0,ν⟩) 3 3),(4,.slice A4 n4 c4),(5,ξ κ 0),(6,ξ κ 4),(7,ξ κ 0)] a/\W w) a w:=by
 obtain⟨x,rfl,hx⟩:=hs.lit;simp only[Al] at hx;have q0:=hc.cell 0;have q1:=hc.cell 1;have q2:=hc.cell 2;have q3:=hc.cell 3;have aB:=ψ aB;clear hc;unfold lit;simp only[hx];simp only[sA,iV,iB,gT,gS,gR,hJ,Tryz.f21,bO,a8,Akq];go_wp2_with (go_at_call 48;refine aB.e.mono ?_;rintro e w1 ⟨rfl,hp⟩;have HP:=ψ hp;clear hp)
 exact⟨⟨rfl,rfl,(by repeat first|exact iT|refine eN rfl ?_)⟩,HP.e⟩
set_option maxRecDepth 400000 in
def rz5{gE gp gb gt gc g3:Nat}{A4:Option ϕ}{n4 c4:Nat}{W:Ψ->Prop}{a:Act}{w:Ψ}(hs:Sl [(0,.bool χ),(1,π (φ ⟨gE,0,ν⟩)),(2,ζ (φ ⟨gc,0,ν⟩) 3 3),(3,ζ (φ ⟨g3,0,ν⟩) 3 3),(4,.slice A4 n4 c4),(5,ξ κ 0),(6,ξ κ 4),(7,ξ κ 0)] a)(hc:Bk w gE 26 #[ξ κ 1,ζ (φ ⟨gp,0,ν⟩) 3 3,ζ (φ ⟨gb,0,ν⟩) 2 2,ζ (φ ⟨gt,0,ν⟩) 1 1])
 (aB:ύ prog 48 #[η #[ξ κ 1,ζ (φ ⟨gp,0,ν⟩) 3 3,ζ (φ ⟨gb,0,ν⟩) 2 2,ζ (φ ⟨gt,0,ν⟩) 1 1],ξ κ 0,ξ κ 1] w λe w'=>e=Ω (μ #[ξ κ 8,ξ κ 0])/\W w'):sB.wp prog (dP λa w=>Sl [(0,.bool χ),(1,π (φ ⟨gE,0,ν⟩)),(2,ζ (φ ⟨gc,0,ν⟩) 3 3),(3,ζ (φ ⟨g3,0,ν⟩) 3 3),(4,.slice A4 n4 c4),(5,ξ κ 0),(6,ξ κ 4),(7,ξ κ 0),(8,ξ κ 8),(9,ξ κ 0)] a/\W w) a w:=by
 obtain⟨x,rfl,hx⟩:=hs.lit;simp only[Al] at hx;have q0:=hc.cell 0;have q1:=hc.cell 1;have q2:=hc.cell 2;have q3:=hc.cell 3;have aB:=ψ aB;clear hc;unfold lit;simp only[hx];simp only[sB,jl,iV,iB,gT,gS,gR,hJ,Tryz.f21,bO,a8,Akq];go_wp2_with (go_at_call 48;refine aB.e.mono ?_;rintro e w1 ⟨rfl,hp⟩;have HP:=ψ hp;clear hp)
 exact⟨⟨rfl,rfl,(by repeat first|exact iT|refine eN rfl ?_)⟩,HP.e⟩
set_option maxRecDepth 400000 in
def rz8{gE gp gb gt gc g3:Nat}{A4:Option ϕ}{n4 c4:Nat}{W:Ψ->Prop}{a:Act}{w:Ψ}(hs:Sl [(0,.bool χ),(1,π (φ ⟨gE,0,ν⟩)),(2,ζ (φ ⟨gc,0,ν⟩) 3 3),(3,ζ (φ ⟨g3,0,ν⟩) 3 3),(4,.slice A4 n4 c4),(5,ξ κ 0),(6,ξ κ 4),(7,ξ κ 0),(8,ξ κ 8),(9,ξ κ 0),(10,.bool θ),(11,ξ κ 0),(12,.bool χ),(13,ξ κ 0)] a)(hc:Bk w gE 26 #[ξ κ 1,ζ (φ ⟨gp,0,ν⟩) 3 3,ζ (φ ⟨gb,0,ν⟩) 2 2,ζ (φ ⟨gt,0,ν⟩) 1 1])
 (aB:ύ prog 22 #[η #[ξ κ 1,ζ (φ ⟨gp,0,ν⟩) 3 3,ζ (φ ⟨gb,0,ν⟩) 2 2,ζ (φ ⟨gt,0,ν⟩) 1 1]] w λe w'=>e=Ω (μ #[ξ κ 2,ξ κ 0])/\W w'):sE.wp prog (dP λa w=>Sl [(0,.bool χ),(1,π (φ ⟨gE,0,ν⟩)),(2,ζ (φ ⟨gc,0,ν⟩) 3 3),(3,ζ (φ ⟨g3,0,ν⟩) 3 3),(4,.slice A4 n4 c4),(5,ξ κ 0),(6,ξ κ 4),(7,ξ κ 0),(8,ξ κ 8),(9,ξ κ 0),(10,.bool θ),(11,ξ κ 0),(12,.bool χ),(13,ξ κ 0),(14,ξ κ 2),(15,ξ κ 0)] a/\W w) a w:=by
 obtain⟨x,rfl,hx⟩:=hs.lit;simp only[Al] at hx;have q0:=hc.cell 0;have q1:=hc.cell 1;have q2:=hc.cell 2;have q3:=hc.cell 3;have aB:=ψ aB;clear hc;unfold lit;simp only[hx];simp only[sE,kN,lV,jI,jl,iV,iB,gT,gS,gR,hJ,Tryz.f21,bO,a8,Akq];go_wp2_with (go_at_call 22;refine aB.e.mono ?_;rintro e w1 ⟨rfl,hp⟩;have HP:=ψ hp;clear hp)
 exact⟨⟨rfl,rfl,(by repeat first|exact iT|refine eN rfl ?_)⟩,HP.e⟩
set_option maxRecDepth 400000 in
def rz9{gE gp gb gt gc g3:Nat}{A4:Option ϕ}{n4 c4:Nat}{W:Option ϕ->Nat->Nat->Ψ->Prop}{a:Act}{w:Ψ}(hs:Sl [(0,.bool χ),(1,π (φ ⟨gE,0,ν⟩)),(2,ζ (φ ⟨gc,0,ν⟩) 3 3),(3,ζ (φ ⟨g3,0,ν⟩) 3 3),(4,.slice A4 n4 c4),(5,ξ κ 0),(6,ξ κ 4),(7,ξ κ 0),(8,ξ κ 8),(9,ξ κ 0),(10,.bool θ),(11,ξ κ 0),(12,.bool χ),(13,ξ κ 0),(14,ξ κ 2),(15,ξ κ 0)] a)(hc:Bk w gE 26 #[ξ κ 1,ζ (φ ⟨gp,0,ν⟩) 3 3,ζ (φ ⟨gb,0,ν⟩) 2 2,ζ (φ ⟨gt,0,ν⟩) 1 1])
 (aB:ύ prog 24 #[η #[ξ κ 1,ζ (φ ⟨gp,0,ν⟩) 3 3,ζ (φ ⟨gb,0,ν⟩) 2 2,ζ (φ ⟨gt,0,ν⟩) 1 1],ξ κ 0] w λe w'=>∃kO n16 c16,e=Ω (μ #[.slice kO n16 c16,ξ κ 0])/\W kO n16 c16 w'):sF.wp prog (dP λa w=>∃kO n16 c16,Sl [(0,.bool χ),(1,π (φ ⟨gE,0,ν⟩)),(2,ζ (φ ⟨gc,0,ν⟩) 3 3),(3,ζ (φ ⟨g3,0,ν⟩) 3 3),(4,.slice A4 n4 c4),(5,ξ κ 0),(6,ξ κ 4),(7,ξ κ 0),(8,ξ κ 8),(9,ξ κ 0),(10,.bool θ),(11,ξ κ 0),(12,.bool χ),(13,ξ κ 0),(14,ξ κ 2),(15,ξ κ 0),(16,.slice kO n16 c16),(17,ξ κ 0)] a/\W kO n16 c16 w) a w:=by
 obtain⟨x,rfl,hx⟩:=hs.lit;simp only[Al] at hx;have q0:=hc.cell 0;have q1:=hc.cell 1;have q2:=hc.cell 2;have q3:=hc.cell 3;have aB:=ψ aB;clear hc;unfold lit;simp only[hx];simp only[sF,lA,kN,lV,jI,jl,iV,iB,gT,gS,gR,hJ,Tryz.f21,bO,a8,Akq];go_wp2_with (go_at_call 24;refine aB.e.mono ?_;rintro e w1 ⟨kO,n16,c16,rfl,hp⟩;have HP:=ψ hp;clear hp)
 exact⟨kO,n16,c16,⟨rfl,rfl,(by repeat first|exact iT|refine eN rfl ?_)⟩,HP.e⟩
set_option maxRecDepth 400000 in
def akz{gE gp gb gt gc g3:Nat}{W:Ψ->Prop}{a:Act}{w:Ψ}(hs:Sl [(0,.bool χ),(1,π (φ ⟨gE,0,ν⟩)),(2,ζ (φ ⟨gc,0,ν⟩) 3 3),(3,ζ (φ ⟨g3,0,ν⟩) 3 3)] a)(hc:Bk w gE 26 #[ξ κ 1,ζ (φ ⟨gp,0,ν⟩) 3 3,ζ (φ ⟨gb,0,ν⟩) 2 2,ζ (φ ⟨gt,0,ν⟩) 1 1])
 (aB:ύ prog 28 #[η #[ξ κ 1,ζ (φ ⟨gp,0,ν⟩) 3 3,ζ (φ ⟨gb,0,ν⟩) 2 2,ζ (φ ⟨gt,0,ν⟩) 1 1],ζ (φ ⟨gc,0,ν⟩) 3 3] w λe w'=>e=Ω (μ #[ξ κ 1,ξ κ 0])/\W w'):sk.wp prog (dP λa w=>Sl [(0,.bool χ),(1,π (φ ⟨gE,0,ν⟩)),(2,ζ (φ ⟨gc,0,ν⟩) 3 3),(3,ζ (φ ⟨g3,0,ν⟩) 3 3),(5,ξ κ 0),(20,ξ κ 1)] a/\W w) a w:=by
 obtain⟨x,rfl,hx⟩:=hs.lit;simp only[Al] at hx;have q0:=hc.cell 0;have q1:=hc.cell 1;have q2:=hc.cell 2;have q3:=hc.cell 3;have aB:=ψ aB;clear hc;unfold lit;simp only[hx];simp only[sk,nT,mX,mg,lA,kN,lV,jI,jl,iV,iB,gT,gS,gR,hJ,Tryz.f21,bO,a8,Akq];go_wp2_with (go_at_call 28;refine aB.e.mono ?_;rintro e w1 ⟨rfl,hp⟩;have HP:=ψ hp;clear hp)
 exact⟨⟨rfl,rfl,(by repeat first|exact iT|refine eN rfl ?_)⟩,HP.e⟩
set_option maxRecDepth 400000 in
def akA{gE gp gb gt gc g3:Nat}{W:Ψ->Prop}{a:Act}{w:Ψ}(hs:Sl [(0,.bool χ),(1,π (φ ⟨gE,0,ν⟩)),(2,ζ (φ ⟨gc,0,ν⟩) 3 3),(3,ζ (φ ⟨g3,0,ν⟩) 3 3),(5,ξ κ 0),(20,ξ κ 1)] a)(hc:Bk w gE 26 #[ξ κ 1,ζ (φ ⟨gp,0,ν⟩) 3 3,ζ (φ ⟨gb,0,ν⟩) 2 2,ζ (φ ⟨gt,0,ν⟩) 1 1])
 (aB:ύ prog 28 #[η #[ξ κ 1,ζ (φ ⟨gp,0,ν⟩) 3 3,ζ (φ ⟨gb,0,ν⟩) 2 2,ζ (φ ⟨gt,0,ν⟩) 1 1],ζ (φ ⟨g3,0,ν⟩) 3 3] w λe w'=>e=Ω (μ #[ξ κ 0,ξ κ 0])/\W w'):rZ.wp prog (dP λa w=>Sl [(0,.bool χ),(1,π (φ ⟨gE,0,ν⟩)),(2,ζ (φ ⟨gc,0,ν⟩) 3 3),(3,ζ (φ ⟨g3,0,ν⟩) 3 3),(5,ξ κ 0),(7,ξ κ 0),(20,ξ κ 1),(21,ξ κ 0)] a/\W w) a w:=by
 obtain⟨x,rfl,hx⟩:=hs.lit;simp only[Al] at hx;have q0:=hc.cell 0;have q1:=hc.cell 1;have q2:=hc.cell 2;have q3:=hc.cell 3;have aB:=ψ aB;clear hc;unfold lit;simp only[hx];simp only[rZ,oM,nT,mX,mg,lA,kN,lV,jI,jl,iV,iB,gT,gS,gR,hJ,Tryz.f21,bO,a8,Akq];go_wp2_with (go_at_call 28;refine aB.e.mono ?_;rintro e w1 ⟨rfl,hp⟩;have HP:=ψ hp;clear hp)
 exact⟨⟨rfl,rfl,(by repeat first|exact iT|refine eN rfl ?_)⟩,HP.e⟩
set_option maxRecDepth 400000 in
def akB{gE gp gb gt gc g3:Nat}{W:Option ϕ->Nat->Nat->Ψ->Prop}{a:Act}{w:Ψ}(hs:Sl [(0,.bool χ),(1,π (φ ⟨gE,0,ν⟩)),(2,ζ (φ ⟨gc,0,ν⟩) 3 3),(3,ζ (φ ⟨g3,0,ν⟩) 3 3),(5,ξ κ 0),(7,ξ κ 0),(20,ξ κ 1),(21,ξ κ 0)] a)(hc:Bk w gE 26 #[ξ κ 1,ζ (φ ⟨gp,0,ν⟩) 3 3,ζ (φ ⟨gb,0,ν⟩) 2 2,ζ (φ ⟨gt,0,ν⟩) 1 1])
 (aB:ύ prog 31 #[η #[ξ κ 1,ζ (φ ⟨gp,0,ν⟩) 3 3,ζ (φ ⟨gb,0,ν⟩) 2 2,ζ (φ ⟨gt,0,ν⟩) 1 1],ζ (φ ⟨gc,0,ν⟩) 3 3] w λe w'=>∃dk n22 c22,e=Ω (μ #[.slice dk n22 c22,ξ κ 0])/\W dk n22 c22 w'):so.wp prog (dP λa w=>∃dk n22 c22,Sl [(0,.bool χ),(1,π (φ ⟨gE,0,ν⟩)),(2,ζ (φ ⟨gc,0,ν⟩) 3 3),(3,ζ (φ ⟨g3,0,ν⟩) 3 3),(5,ξ κ 0),(7,ξ κ 0),(9,ξ κ 0),(20,ξ κ 1),(21,ξ κ 0),(22,.slice dk n22 c22)] a/\W dk n22 c22 w) a w:=by
 obtain⟨x,rfl,hx⟩:=hs.lit;simp only[Al] at hx;have q0:=hc.cell 0;have q1:=hc.cell 1;have q2:=hc.cell 2;have q3:=hc.cell 3;have aB:=ψ aB;clear hc;unfold lit;simp only[hx];simp only[so,pF,oM,nT,mX,mg,lA,kN,lV,jI,jl,iV,iB,gT,gS,gR,hJ,Tryz.f21,bO,a8,Akq];go_wp2_with (go_at_call 31;refine aB.e.mono ?_;rintro e w1 ⟨dk,n22,c22,rfl,hp⟩;have HP:=ψ hp;clear hp)
 exact⟨dk,n22,c22,⟨rfl,rfl,(by repeat first|exact iT|refine eN rfl ?_)⟩,HP.e⟩
set_option maxRecDepth 400000 in
def akC{gE gp gb gt gc g3:Nat}{dk:Option ϕ}{n22 c22:Nat}{W:Ψ->Prop}{a:Act}{w:Ψ}(hs:Sl [(0,.bool χ),(1,π (φ ⟨gE,0,ν⟩)),(2,ζ (φ ⟨gc,0,ν⟩) 3 3),(3,ζ (φ ⟨g3,0,ν⟩) 3 3),(5,ξ κ 0),(7,ξ κ 0),(9,ξ κ 0),(20,ξ κ 1),(21,ξ κ 0),(22,.slice dk n22 c22)] a)(hc:Bk w gE 26 #[ξ κ 1,ζ (φ ⟨gp,0,ν⟩) 3 3,ζ (φ ⟨gb,0,ν⟩) 2 2,ζ (φ ⟨gt,0,ν⟩) 1 1])
 (aB:ύ prog 31 #[η #[ξ κ 1,ζ (φ ⟨gp,0,ν⟩) 3 3,ζ (φ ⟨gb,0,ν⟩) 2 2,ζ (φ ⟨gt,0,ν⟩) 1 1],ζ (φ ⟨g3,0,ν⟩) 3 3] w λe w'=>e=Ω (μ #[ζ ν 0 0,ξ κ 8])/\W w'):sr.wp prog (dP λa w=>Sl [(0,.bool χ),(1,π (φ ⟨gE,0,ν⟩)),(2,ζ (φ ⟨gc,0,ν⟩) 3 3),(3,ζ (φ ⟨g3,0,ν⟩) 3 3),(5,ξ κ 0),(7,ξ κ 0),(9,ξ κ 0),(20,ξ κ 1),(21,ξ κ 0),(22,.slice dk n22 c22),(23,ζ ν 0 0),(24,ξ κ 8)] a/\W w) a w:=by
 obtain⟨x,rfl,hx⟩:=hs.lit;simp only[Al] at hx;have q0:=hc.cell 0;have q1:=hc.cell 1;have q2:=hc.cell 2;have q3:=hc.cell 3;have aB:=ψ aB;clear hc;unfold lit;simp only[hx];simp only[sr,qX,pF,oM,nT,mX,mg,lA,kN,lV,jI,jl,iV,iB,gT,gS,gR,hJ,Tryz.f21,bO,a8,Akq];go_wp2_with (go_at_call 31;refine aB.e.mono ?_;rintro e w1 ⟨rfl,hp⟩;have HP:=ψ hp;clear hp)
 exact⟨⟨rfl,rfl,(by repeat first|exact iT|refine eN rfl ?_)⟩,HP.e⟩
set_option maxRecDepth 400000 in
def akD{gE gp gb gt gc g3:Nat}{dk:Option ϕ}{n22 c22:Nat}{W:Option ϕ->Nat->Nat->Ψ->Prop}{a:Act}{w:Ψ}(hs:Sl [(0,.bool χ),(1,π (φ ⟨gE,0,ν⟩)),(2,ζ (φ ⟨gc,0,ν⟩) 3 3),(3,ζ (φ ⟨g3,0,ν⟩) 3 3),(5,ξ κ 0),(7,ξ κ 0),(9,ξ κ 0),(20,ξ κ 1),(21,ξ κ 0),(22,.slice dk n22 c22),(23,ζ ν 0 0),(24,ξ κ 8)] a)(hc:Bk w gE 26 #[ξ κ 1,ζ (φ ⟨gp,0,ν⟩) 3 3,ζ (φ ⟨gb,0,ν⟩) 2 2,ζ (φ ⟨gt,0,ν⟩) 1 1])
 (aB:ύ prog 33 #[η #[ξ κ 1,ζ (φ ⟨gp,0,ν⟩) 3 3,ζ (φ ⟨gb,0,ν⟩) 2 2,ζ (φ ⟨gt,0,ν⟩) 1 1]] w λe w'=>∃bZ n25 b6,e=Ω (μ #[.slice bZ n25 b6,ξ κ 2,.bool θ,ξ κ 0])/\W bZ n25 b6 w'):ss.wp prog (dP λa w=>∃bZ n25 b6,Sl [(0,.bool χ),(1,π (φ ⟨gE,0,ν⟩)),(2,ζ (φ ⟨gc,0,ν⟩) 3 3),(3,ζ (φ ⟨g3,0,ν⟩) 3 3),(5,ξ κ 0),(7,ξ κ 0),(9,ξ κ 0),(11,ξ κ 0),(20,ξ κ 1),(21,ξ κ 0),(22,.slice dk n22 c22),(23,ζ ν 0 0),(24,ξ κ 8),(25,.slice bZ n25 b6),(26,ξ κ 2),(27,.bool θ)] a/\W bZ n25 b6 w) a w:=by
 obtain⟨x,rfl,hx⟩:=hs.lit;simp only[Al] at hx;have q0:=hc.cell 0;have q1:=hc.cell 1;have q2:=hc.cell 2;have q3:=hc.cell 3;have aB:=ψ aB;clear hc;unfold lit;simp only[hx];simp only[ss,sJ,qX,pF,oM,nT,mX,mg,lA,kN,lV,jI,jl,iV,iB,gT,gS,gR,hJ,Tryz.f21,bO,a8,Akq];go_wp2_with (go_at_call 33;refine aB.e.mono ?_;rintro e w1 ⟨bZ,n25,b6,rfl,hp⟩;have HP:=ψ hp;clear hp)
 exact⟨bZ,n25,b6,⟨rfl,rfl,(by repeat first|exact iT|refine eN rfl ?_)⟩,HP.e⟩
set_option maxRecDepth 400000 in
def akE{gE gp gb gt gc g3:Nat}{dk:Option ϕ}{n22 c22:Nat}{bZ:Option ϕ}{n25 b6:Nat}{W:Option ϕ->Nat->Nat->Ψ->Prop}{a:Act}{w:Ψ}(hs:Sl [(0,.bool χ),(1,π (φ ⟨gE,0,ν⟩)),(2,ζ (φ ⟨gc,0,ν⟩) 3 3),(3,ζ (φ ⟨g3,0,ν⟩) 3 3),(5,ξ κ 0),(7,ξ κ 0),(9,ξ κ 0),(11,ξ κ 0),(20,ξ κ 1),(21,ξ κ 0),(22,.slice dk n22 c22),(23,ζ ν 0 0),(24,ξ κ 8),(25,.slice bZ n25 b6),(26,ξ κ 2),(27,.bool θ)] a)(hc:Bk w gE 26 #[ξ κ 1,ζ (φ ⟨gp,0,ν⟩) 3 3,ζ (φ ⟨gb,0,ν⟩) 2 2,ζ (φ ⟨gt,0,ν⟩) 1 1])
 (aB:ύ prog 36 #[η #[ξ κ 1,ζ (φ ⟨gp,0,ν⟩) 3 3,ζ (φ ⟨gb,0,ν⟩) 2 2,ζ (φ ⟨gt,0,ν⟩) 1 1]] w λe w'=>∃er n28 ew,e=Ω (μ #[.slice er n28 ew,ξ κ 14,.bool θ,ξ κ 0])/\W er n28 ew w'):su.wp prog (dP λa w=>∃er n28 ew,Sl [(0,.bool χ),(1,π (φ ⟨gE,0,ν⟩)),(2,ζ (φ ⟨gc,0,ν⟩) 3 3),(3,ζ (φ ⟨g3,0,ν⟩) 3 3),(5,ξ κ 0),(7,ξ κ 0),(9,ξ κ 0),(11,ξ κ 0),(13,ξ κ 0),(20,ξ κ 1),(21,ξ κ 0),(22,.slice dk n22 c22),(23,ζ ν 0 0),(24,ξ κ 8),(25,.slice bZ n25 b6),(26,ξ κ 2),(27,.bool θ),(28,.slice er n28 ew),(29,ξ κ 14),(30,.bool θ)] a/\W er n28 ew w) a w:=by
 obtain⟨x,rfl,hx⟩:=hs.lit;simp only[Al] at hx;have q0:=hc.cell 0;have q1:=hc.cell 1;have q2:=hc.cell 2;have q3:=hc.cell 3;have aB:=ψ aB;clear hc;unfold lit;simp only[hx];simp only[su,uo,sJ,qX,pF,oM,nT,mX,mg,lA,kN,lV,jI,jl,iV,iB,gT,gS,gR,hJ,Tryz.f21,bO,a8,Akq];go_wp2_with (go_at_call 36;refine aB.e.mono ?_;rintro e w1 ⟨er,n28,ew,rfl,hp⟩;have HP:=ψ hp;clear hp)
 exact⟨er,n28,ew,⟨rfl,rfl,(by repeat first|exact iT|refine eN rfl ?_)⟩,HP.e⟩
set_option maxRecDepth 400000 in
def akF{gE gp gb gt gc g3:Nat}{dk:Option ϕ}{n22 c22:Nat}{bZ:Option ϕ}{n25 b6:Nat}{er:Option ϕ}{n28 ew:Nat}{iW:Option ϕ}{n31 iZ:Nat}{W:Ψ->Prop}{a:Act}{w:Ψ}(hs:Sl [(0,.bool χ),(1,π (φ ⟨gE,0,ν⟩)),(2,ζ (φ ⟨gc,0,ν⟩) 3 3),(3,ζ (φ ⟨g3,0,ν⟩) 3 3),(5,ξ κ 0),(7,ξ κ 0),(9,ξ κ 0),(11,ξ κ 0),(13,ξ κ 0),(15,ξ κ 0),(20,ξ κ 1),(21,ξ κ 0),(22,.slice dk n22 c22),(23,ζ ν 0 0),(24,ξ κ 8),(25,.slice bZ n25 b6),(26,ξ κ 2),(27,.bool θ),(28,.slice er n28 ew),(29,ξ κ 14),(30,.bool θ),(31,.slice iW n31 iZ)] a)(hc:Bk w gE 26 #[ξ κ 1,ζ (φ ⟨gp,0,ν⟩) 3 3,ζ (φ ⟨gb,0,ν⟩) 2 2,ζ (φ ⟨gt,0,ν⟩) 1 1])
 (aB:ύ prog 61 #[η #[ξ κ 1,ζ (φ ⟨gp,0,ν⟩) 3 3,ζ (φ ⟨gb,0,ν⟩) 2 2,ζ (φ ⟨gt,0,ν⟩) 1 1]] w λe w'=>e=Ω (μ #[ξ κ 0,ξ κ 1,ξ κ 0])/\W w'):we.wp prog (dP λa w=>Sl [(0,.bool χ),(1,π (φ ⟨gE,0,ν⟩)),(2,ζ (φ ⟨gc,0,ν⟩) 3 3),(3,ζ (φ ⟨g3,0,ν⟩) 3 3),(5,ξ κ 0),(7,ξ κ 0),(9,ξ κ 0),(11,ξ κ 0),(13,ξ κ 0),(15,ξ κ 0),(17,ξ κ 0),(20,ξ κ 1),(21,ξ κ 0),(22,.slice dk n22 c22),(23,ζ ν 0 0),(24,ξ κ 8),(25,.slice bZ n25 b6),(26,ξ κ 2),(27,.bool θ),(28,.slice er n28 ew),(29,ξ κ 14),(30,.bool θ),(31,.slice iW n31 iZ),(32,ξ κ 0),(33,ξ κ 1)] a/\W w) a w:=by
 obtain⟨x,rfl,hx⟩:=hs.lit;simp only[Al] at hx;have q0:=hc.cell 0;have q1:=hc.cell 1;have q2:=hc.cell 2;have q3:=hc.cell 3;have aB:=ψ aB;clear hc;unfold lit;simp only[hx];simp only[we,wC,wA,uo,sJ,qX,pF,oM,nT,mX,mg,lA,kN,lV,jI,jl,iV,iB,gT,gS,gR,hJ,Tryz.f21,bO,a8,Akq];go_wp2_with (go_at_call 61;refine aB.e.mono ?_;rintro e w1 ⟨rfl,hp⟩;have HP:=ψ hp;clear hp)
 exact⟨⟨rfl,rfl,(by repeat first|exact iT|refine eN rfl ?_)⟩,HP.e⟩
end
end Go.Jn
namespace Go.Jn
open Go
section
variable {P:Program}{md:Region.Mode}{ops:Array Ϝ}{Q:Exit->Act->Ψ->Prop}
def fP(n i:Nat):Array Bool:=Array.ofFn λk:Fin n=>decide (k.val<i)
def OQ{n i k:Nat}(h:k<n):(fP n i)[k]?=φ (decide (k<i)):=by
 unfold fP;rw[Ajx,dif_pos h]
def Ew{n i k:Nat}(d:Bool)(h:k<n):(fP n i).getD k d=decide (k<i):=by
 rw[Aaa,OQ h];rfl
def aho(n:Nat):Θ n χ=fP n 0:=by
 apply Array.ext
 ·simp[fP]
 ·intro k h1 h2
  simp[fP]
def OR(n i:Nat):(fP n i).size=n:=by simp[fP]
def yE{n i:Nat}(h:i<n):(fP n i).setIfInBounds i θ=fP n (i+1):=by
 apply Array.ext_getElem?;intro k;rw[Aai,OR]
 by_cases hk:k<n
 ·rw[OQ hk,OQ hk]
  split
  ·subst_vars;simp[hk]
  ·rename_i aw
   simp only[Aeh,decide_eq_decide];omega
 ·have h1:(fP n i)[k]?=ν:=by rw[Aks,OR];omega
  have h2:(fP n (i+1))[k]?=ν:=by rw[Aks,OR];omega
  rw[h1,h2,if_neg (by omega)]
def V1{n i j:Nat}(hj:j=i+1)(h:j<n):((fP n i).setIfInBounds i θ).setIfInBounds j θ=fP n (j+1):=by
 subst hj;rw[yE (by omega),yE h]
def ahn{n i j:Nat}(hj:j=i+1)(h:j<n):((fP n i).setIfInBounds j θ).setIfInBounds i θ=fP n (j+1):=by
 rw[Array.setIfInBounds_comm _ _ (by omega)]
 exact V1 hj h
def L6(o:Ϝ)(j:Nat):Bool:=o.after.toList.all λe=>decide (e.on<j)
def MM(md:Region.Mode)(o:Ϝ)(k:Nat):Bool:=o.after.toList.any λe=>Region.binds md e && decide (k<=e.on)
def seqB(md:Region.Mode)(n s e:Nat):List Ϝ->Nat->Bool
 | [],_=>θ
 |o::l,j=>(decide (e<=j) ||L6 o j) && (decide (j<=s) ||MM md o (min (j - 1) (e - 1))) && (o.after.toList.all λx=>decide (x.on<n)) && seqB md n s e l (j+1)
def Xg{n s e:Nat}:∀(l:List Ϝ) (j:Nat),seqB md n s e l j=θ->∀(k:Nat) (o:Ϝ),l[k]?=φ o->(j+k<e->L6 o (j+k)=θ)/\(s<j+k->MM md o (min (j+k - 1) (e - 1))=θ)/\∀x∈o.after.toList,x.on<n
 | [],_,_,k,o,h=>by simp at h
 |p::l,j,hs,k,o,h=>by
  simp only[seqB,Bool.and_eq_true,Bool.or_eq_true,decide_eq_true_eq,Akh] at hs;obtain⟨⟨⟨h1,h2⟩,h3⟩,h4⟩:=hs;cases k with
  |zero=>
   simp only[List.getElem?_cons_zero,Aeh] at h
   subst h;refine⟨λhj=>h1.resolve_left (by omega),λhj=>h2.resolve_left (by omega),h3⟩
  |succ k=>
   simp only[List.getElem?_cons_succ] at h
   have:=Xg l (j+1) h4 k o h;rw[show j+1+k=j+(k+1) by omega] at this
   exact this
def filter_one{p:Nat->Bool}{n i:Nat}(hi:i<n)(h1:p i=θ)(h2:∀j,j<n->j≠i->p j=χ):(ϸ n).filter p=[i]:=by
 have e:(ϸ n).filter p=(ϸ n).filter (λj=>j==i):=by
  apply List.filter_congr;intro j hj;have hj:=Ahy.1 hj;by_cases e:j=i
  ·subst e;simp[h1]
  ·rw[h2 j hj e];simp[e]
 rw[e];have hn:(ϸ n).Nodup:=List.nodup_range;have hm:i∈ϸ n:=by simpa using hi
 have:∀l:List Nat,l.Nodup->i∈l->l.filter (λj=>j==i)=[i]:=by
  intro l;induction l with
  |nil=>intro _ h;cases h
  |cons a l ih=>
   intro nH mB;rw[List.nodup_cons] at nH;by_cases e:a=i
   ·subst e
    rw[List.filter_cons_of_pos (by simp)]
    have:l.filter (λj=>j==a)=[]:=by
     rw[List.filter_eq_nil_iff];intro b hb;simp only[beq_iff_eq];rintro rfl;exact nH.1 hb
    rw[this]
   ·rw[List.filter_cons_of_neg (by simpa using e)]
    exact ih nH.2 ((ϫ.1 mB).resolve_left (Ag2 e))
 exact this _ hn hm
def alk{s e i:Nat}(h:seqB md ops.size s e ops.toList 0=θ)(hs:s<=i)(he:i<e)(hi:i<ops.size):Aka md ops (fP ops.size i)=[i]:=by
 have ou:∀k (hk:k<ops.size),_:=λk hk=>Xg ops.toList 0 h k ops[k] (by simp[hk])
 simp only[Nat.zero_add] at ou;refine filter_one hi ?_ λj hj aw=>?_
 ·rw[Ew _ hi,Aaz hi]
  simp only[Nat.lt_irrefl,decide_false,Bool.not_false,Ag3,Akq,Bool.true_and];rw[<-Array.all_toList,Akh];intro x hx;obtain⟨h1,_,h3⟩:=ou i hi;have h1:=h1 he;unfold L6 at h1;rw[Akh] at h1;have Ia:x.on<i:=by simpa using h1 x hx
  rw[Ew _ (h3 x hx)];simp[Ia]
 ·by_cases al:j<i
  ·rw[Ew _ hj];simp[al]
  ·have As:i<j:=by omega
   rw[Ew _ hj,Aaz hj]
   simp only[al,decide_false,Bool.not_false,Ag3,Akq,Bool.true_and];rw[<-Array.all_toList];obtain⟨_,h2,h3⟩:=ou j hj;have h2:=h2 (by omega)
   unfold MM at h2;rw[List.any_eq_true] at h2;obtain⟨x,hx,rT⟩:=h2;simp only[Bool.and_eq_true,decide_eq_true_eq] at rT;rw[List.all_eq_false];refine⟨x,hx,?_⟩
   rw[Ew _ (h3 x hx),rT.1];have:¬x.on<i:=by have:=rT.2;omega
   simp[this]
def Ws{K K':Act->Ψ->Prop}{o:Ϝ}{a:Act}{w:Ψ}(h:o.wp P a w K' (Exit.then K Q)):o.wp P a w K' Q:=by
 unfold Oper.wp at *;generalize (execOp a.eval o).run P w=r at *;cases r with
 |ok n w'=>
  cases n<;>simp only[Oper.upon] at h |- <;>
   first
    |exact h
    |exact Calls.mono h (λe bq he=>by cases e<;>exact he)
 |halt x w'=>cases x<;>simp only[Oper.upon] at h |- <;>exact h
def Yf{i:Nat}{o:Ϝ}(hi:ops[i]?=φ o){K:Act->Ψ->Prop}{l:List Ϝ}{R:Exit->Act->Ψ->Prop}(hR:∀a w,Ahd P ops R l a w->K a w)(hp:∀ {o:Ϝ} {K':Act->Ψ->Prop} {a:Act} {w:Ψ},o.wp P a w K' R->o.wp P a w K' Q)(hl:LetsOut R->LetsOut Q){a:Act}{w:Ψ}
 (h:Ahd P ops R (o::l) a w):wpOp P ops Q i K a w:=by
 unfold wpOp;simp only[hi];unfold Ahd at h;split
 ·rename_i hw
  rw[if_pos hw] at h;exact h.imp (λh=>Oper.wp_mono hR (hp h)) (λh=>⟨h.1,hl h.2⟩)
 ·rename_i hw
  rw[if_neg hw] at h;exact hR _ _ h
def uH{fuel s e N:Nat}(hN:ops.size=N)(h:seqB md N s e ops.toList 0=θ)(he:e<=N):∀(n i:Nat) {a:Act} {w:Ψ},s<=i->i+n=e->
 Ahd P ops (Exit.then (Aku P md ops Q fuel (fP N e)) Q) ((ops.toList.drop i).take n) a w->Aku P md ops Q (fuel+n) (fP N i) a w
 |0,i,a,w,_,hie,h2=>by
  obtain rfl:i=e:=by omega
  have h2:Exit.then (Aku P md ops Q fuel (fP N i)) Q .normal a w:=by simpa [Ahd] using h2
  exact h2
 |n+1,i,a,w,hs,hie,h2=>by
  rw[show fuel+(n+1)=(fuel+n)+1 by omega]
  have hi:i<ops.size:=by omega
  subst hN;refine wpAny_all (alk h hs (by omega) hi) (by simp) λj hj=>?_
  obtain rfl:j=i:=by simpa using hj
  have hl:(ops.toList.drop j).take (n+1)=ops[j]::(ops.toList.drop (j+1)).take n:=by
   rw[List.drop_eq_getElem_cons (by simpa using hi),Agi]
   simp
  rw[hl] at h2;rw[yE hi];exact Yf (Aaz hi) (λa w h2=>uH rfl h he n (j+1) (by omega) (by omega) h2) Ws (λh=>h) h2
def Zj{id N:Nat}{a:Act}{w:Ψ}(hm:P.follows .mixedOrders=θ)(hN:ops.size=N)(h:Aku P .any ops Q N (fP N 0) a w.drew):(Code.region id ops θ).wp P Q a w:=by
 refine wp_region_any hm ?_
 rw[aho,hN];exact h
def zG{fuel:Nat}{l l':Array Bool}{a:Act}{w:Ψ}(h:l=l')(hh:Aku P md ops Q fuel l' a w):Aku P md ops Q fuel l a w:=h▸hh
def Ln{fuel:Nat}{listed:Array Bool}{a:Act}{w:Ψ}(rs:List Nat)(hr:Aka md ops listed=rs)(aw:rs≠ [])(h:∀i∈rs,wpOp P ops Q i (Aku P md ops Q fuel (listed.setIfInBounds i θ)) a w):Aku P md ops Q (fuel+1) listed a w:=
 wpAny_all hr aw h
def IF{fuel i:Nat}{listed:Array Bool}{a:Act}{w:Ψ}(o:Ϝ)(hi:ops[i]?=φ o)(h:Ahd P ops (Exit.then (Aku P md ops Q fuel (listed.setIfInBounds i θ)) Q) [o] a w):wpOp P ops Q i (Aku P md ops Q fuel (listed.setIfInBounds i θ)) a w:=
 Yf hi (λ_ _ h=>h) Ws (λh=>h) h
def Gu{i:Nat}{is:List Nat}{K:Nat->Prop}(h1:K i)(h2:∀k∈is,K k):∀k∈i::is,K k:=by
 intro k hk;rcases ϫ.1 hk with rfl|hk
 ·exact h1
 ·exact h2 k hk
def Ly{K:Nat->Prop}:∀k∈([]:List Nat),K k:=λ_ h=>absurd h Λ
def mf{rest:List Ϝ}{o og:Ϝ}{g d:Nat}{b:Bool}{a:Act}{w:Ψ}(gx:o.guard=φ (g,b))(U1:ops.toList[g]?=φ og)(hd:og.dst=φ d)(ht:a.tmps[d]?=φ (.bool b))
 (h:∀K:Act->Ψ->Prop,(∀a w,Ahd P ops Q rest a w->K a w)->o.wp P a w K Q):Ahd P ops Q (o::rest) a w:=by
 refine wpList_step λK hK=>?_
 have hw:Aj9 o (yielded ops a.tmps)=θ:=by
  unfold Aj9;rw[gx];rw[Array.getElem?_toList] at U1
  simp only[yielded,U1,Option.bind_some,hd,ht,beq_self_eq_true]
 rw[if_pos hw];exact h K hK
end
end Go.Jn
namespace Go.Jn
open Go Go.Proofs Go.Sim Go.Conc Go.Tw Go.RowKit
section
variable [Go.Tw.aR]
def wX{α:Type}{w:Ψ}{g sz e:Nat}{R:α->List υ->Prop}{f:α->List υ}{xs:List α}{cs:Array υ}(hb:Bk w g e cs)(hx:xs.length<=1000)(hf:∀x,(f x).length=sz)(hR:∀x∈xs,R x (f x))(hc:cs=(xs.flatMap f).toArray):
 Row w w.heap.size sz R (ζ (φ ⟨g,0,ν⟩) xs.length xs.length) xs:=by
 have ql:∀l:List α,(l.flatMap f).length=l.length * sz:=by
  intro l;induction l with
  |nil=>simp
  |cons a l ih=>simp only[List.flatMap_cons,List.length_append,ih,hf,List.length_cons,Nat.succ_mul];omega
 refine lu (f:=f) ?_ hf hR (e:=e) (base:=g)
 refine⟨ql xs,.inr ⟨g,xs.length,cs,rfl,ϊ _,hb,ϊ _,by unfold maxLen;omega,by rw[hc,List.size_toArray,ql],?_⟩⟩
 rw[hc];simp only[List.toList_toArray];rw[List.take_of_length_le (by rw[ql];omega)]
def ru{w:Ψ}{g:Nat}(xs:List Int)(hx:xs.length<=1000){cs:Array υ}(h:Bk w g 3 cs)(hc:cs=(xs.flatMap λx=> [ξ κ x]).toArray):Row w w.heap.size 1 cH (ζ (φ ⟨g,0,ν⟩) xs.length xs.length) xs:=
 wX h hx (λ_=>rfl) (λ_ _=>rfl) hc
def Lz{w:Ψ}{g:Nat}(xs:List Span)(hx:xs.length<=1000){cs:Array υ}(h:Bk w g 37 cs)(hc:cs=(xs.flatMap Span.vs).toArray):Row w w.heap.size 2 Span.R (ζ (φ ⟨g,0,ν⟩) xs.length xs.length) xs:=
 wX h hx (λ_=>rfl) (λ_ _=>rfl) hc
def RJ{w:Ψ}{g:Nat}(xs:List Cut)(hx:xs.length<=1000){cs:Array υ}(h:Bk w g 56 cs)(hc:cs=(xs.flatMap Cut.vs).toArray):Row w w.heap.size 2 Cut.R (ζ (φ ⟨g,0,ν⟩) xs.length xs.length) xs:=
 wX h hx (λ_=>rfl) (λ_ _=>rfl) hc
def ft{α:Type}{w w':Ψ}{sz:Nat}{R:α->List υ->Prop}{v:υ}{xs:List α}(h:Row w w.heap.size sz R v xs)(hb:Γ w.heap.size w w'):Row w' w'.heap.size sz R v xs:=
 (h.still (Δ.aK hb (ϊ _)) λ_ _ h=>h).more hb.size
set_option maxRecDepth 400000 in
def rz6{gE gp gb gt gc g3:Nat}{A4:Option ϕ}{n4 c4:Nat}{W:Ψ->Prop}{a:Act}{w:Ψ}(hs:Sl [(0,.bool χ),(1,π (φ ⟨gE,0,ν⟩)),(2,ζ (φ ⟨gc,0,ν⟩) 3 3),(3,ζ (φ ⟨g3,0,ν⟩) 3 3),(4,.slice A4 n4 c4),(5,ξ κ 0),(6,ξ κ 4),(7,ξ κ 0),(8,ξ κ 8),(9,ξ κ 0)] a)(hc:Bk w gE 26 #[ξ κ 1,ζ (φ ⟨gp,0,ν⟩) 3 3,ζ (φ ⟨gb,0,ν⟩) 2 2,ζ (φ ⟨gt,0,ν⟩) 1 1])
 (aB:ύ prog 43 #[η #[ξ κ 1,ζ (φ ⟨gp,0,ν⟩) 3 3,ζ (φ ⟨gb,0,ν⟩) 2 2,ζ (φ ⟨gt,0,ν⟩) 1 1],ζ (φ ⟨w.heap.size,0,ν⟩) 3 3,ζ (φ ⟨gc,0,ν⟩) 3 3] (w.alloc (Ξ #[ξ κ 4,ξ κ 3,ξ κ 3] 3)) λe w'=>e=Ω (μ #[.bool θ,ξ κ 0])/\W w'):sC.wp prog (dP λa w=>Sl [(0,.bool χ),(1,π (φ ⟨gE,0,ν⟩)),(2,ζ (φ ⟨gc,0,ν⟩) 3 3),(3,ζ (φ ⟨g3,0,ν⟩) 3 3),(4,.slice A4 n4 c4),(5,ξ κ 0),(6,ξ κ 4),(7,ξ κ 0),(8,ξ κ 8),(9,ξ κ 0),(10,.bool θ),(11,ξ κ 0)] a/\W w) a w:=by
 obtain⟨x,rfl,hx⟩:=hs.lit;simp only[Al] at hx;have q0:=hc.cell 0;have q1:=hc.cell 1;have q2:=hc.cell 2;have q3:=hc.cell 3;have aB:=ψ aB;clear hc;unfold lit;simp only[hx];simp only[sC,jI,jl,iV,iB,gT,gS,gR,hJ,Tryz.f21,bO,a8,Akq];go_wp2_with (go_at_call 43;refine aB.e.mono ?_;rintro e w1 ⟨rfl,hp⟩;have HP:=ψ hp;clear hp)
 exact⟨⟨rfl,rfl,(by repeat first|exact iT|refine eN rfl ?_)⟩,HP.e⟩
set_option maxRecDepth 400000 in
def rz7{gE gp gb gt gc g3:Nat}{A4:Option ϕ}{n4 c4:Nat}{W:Ψ->Prop}{a:Act}{w:Ψ}(hs:Sl [(0,.bool χ),(1,π (φ ⟨gE,0,ν⟩)),(2,ζ (φ ⟨gc,0,ν⟩) 3 3),(3,ζ (φ ⟨g3,0,ν⟩) 3 3),(4,.slice A4 n4 c4),(5,ξ κ 0),(6,ξ κ 4),(7,ξ κ 0),(8,ξ κ 8),(9,ξ κ 0),(10,.bool θ),(11,ξ κ 0)] a)(hc:Bk w gE 26 #[ξ κ 1,ζ (φ ⟨gp,0,ν⟩) 3 3,ζ (φ ⟨gb,0,ν⟩) 2 2,ζ (φ ⟨gt,0,ν⟩) 1 1])
 (aB:ύ prog 43 #[η #[ξ κ 1,ζ (φ ⟨gp,0,ν⟩) 3 3,ζ (φ ⟨gb,0,ν⟩) 2 2,ζ (φ ⟨gt,0,ν⟩) 1 1],ζ (φ ⟨w.heap.size,0,ν⟩) 3 3,ζ (φ ⟨g3,0,ν⟩) 3 3] (w.alloc (Ξ #[ξ κ 4,ξ κ 3,ξ κ 3] 3)) λe w'=>e=Ω (μ #[.bool χ,ξ κ 0])/\W w'):sD.wp prog (dP λa w=>Sl [(0,.bool χ),(1,π (φ ⟨gE,0,ν⟩)),(2,ζ (φ ⟨gc,0,ν⟩) 3 3),(3,ζ (φ ⟨g3,0,ν⟩) 3 3),(4,.slice A4 n4 c4),(5,ξ κ 0),(6,ξ κ 4),(7,ξ κ 0),(8,ξ κ 8),(9,ξ κ 0),(10,.bool θ),(11,ξ κ 0),(12,.bool χ),(13,ξ κ 0)] a/\W w) a w:=by
 obtain⟨x,rfl,hx⟩:=hs.lit;simp only[Al] at hx;have q0:=hc.cell 0;have q1:=hc.cell 1;have q2:=hc.cell 2;have q3:=hc.cell 3;have aB:=ψ aB;clear hc;unfold lit;simp only[hx];simp only[sD,lV,jI,jl,iV,iB,gT,gS,gR,hJ,Tryz.f21,bO,a8,Akq];go_wp2_with (go_at_call 43;refine aB.e.mono ?_;rintro e w1 ⟨rfl,hp⟩;have HP:=ψ hp;clear hp)
 exact⟨⟨rfl,rfl,(by repeat first|exact iT|refine eN rfl ?_)⟩,HP.e⟩
set_option maxRecDepth 400000 in
def akx{gE gp gb gt gc g3:Nat}{A4:Option ϕ}{n4 c4:Nat}{kO:Option ϕ}{n16 c16:Nat}{W:Ψ->Prop}{a:Act}{w:Ψ}(hs:Sl [(0,.bool χ),(1,π (φ ⟨gE,0,ν⟩)),(2,ζ (φ ⟨gc,0,ν⟩) 3 3),(3,ζ (φ ⟨g3,0,ν⟩) 3 3),(4,.slice A4 n4 c4),(5,ξ κ 0),(6,ξ κ 4),(7,ξ κ 0),(8,ξ κ 8),(9,ξ κ 0),(10,.bool θ),(11,ξ κ 0),(12,.bool χ),(13,ξ κ 0),(14,ξ κ 2),(15,ξ κ 0),(16,.slice kO n16 c16),(17,ξ κ 0)] a)(hc:Bk w gE 26 #[ξ κ 1,ζ (φ ⟨gp,0,ν⟩) 3 3,ζ (φ ⟨gb,0,ν⟩) 2 2,ζ (φ ⟨gt,0,ν⟩) 1 1])
 (aB:ύ prog 26 #[η #[ξ κ 1,ζ (φ ⟨gp,0,ν⟩) 3 3,ζ (φ ⟨gb,0,ν⟩) 2 2,ζ (φ ⟨gt,0,ν⟩) 1 1]] w λe w'=>e=Ω (μ #[η #[ξ κ 10,ξ κ 10],ξ κ 0])/\W w'):
 si.wp prog (dP λa w=>∃w1,W w1/\(∃g8,g8=w1.heap.size/\Sl [(0,.bool χ),(1,π (φ ⟨gE,0,ν⟩)),(2,ζ (φ ⟨gc,0,ν⟩) 3 3),(3,ζ (φ ⟨g3,0,ν⟩) 3 3),(4,.slice A4 n4 c4),(5,ξ κ 0),(6,ξ κ 4),(7,ξ κ 0),(8,ξ κ 8),(9,ξ κ 0),(10,.bool θ),(11,ξ κ 0),(12,.bool χ),(13,ξ κ 0),(14,ξ κ 2),(15,ξ κ 0),(16,.slice kO n16 c16),(17,ξ κ 0),(18,π (φ ⟨g8,0,ν⟩)),(19,ξ κ 0)] a)/\w=w1.alloc (Ξ #[ξ κ 10,ξ κ 10] 37)) a w:=by
 obtain⟨x,rfl,hx⟩:=hs.lit;simp only[Al] at hx;have q0:=hc.cell 0;have q1:=hc.cell 1;have q2:=hc.cell 2;have q3:=hc.cell 3;have aB:=ψ aB;clear hc;unfold lit;simp only[hx];simp only[si,mg,lA,kN,lV,jI,jl,iV,iB,gT,gS,gR,hJ,Tryz.f21,bO,a8,Akq];go_wp2_with (go_at_call 26;refine aB.e.mono ?_;rintro e w1 ⟨rfl,hp⟩;have HP:=ψ hp;clear hp)
 exact⟨_,HP.e,⟨_,rfl,⟨rfl,rfl,(by repeat first|exact iT|refine eN rfl ?_)⟩⟩,rfl⟩
def RU{w:Ψ}{g:Nat}{t:TypeId}{cs:Array υ}(h:Bk w g t cs):Bk w.drew g t cs:=h
set_option maxRecDepth 400000 in
def aky{gE gp gb gt gc g3 g8:Nat}{A4:Option ϕ}{n4 c4:Nat}{kO:Option ϕ}{n16 c16:Nat}{a:Act}{w:Ψ}(hs:Sl [(0,.bool χ),(1,π (φ ⟨gE,0,ν⟩)),(2,ζ (φ ⟨gc,0,ν⟩) 3 3),(3,ζ (φ ⟨g3,0,ν⟩) 3 3),(4,.slice A4 n4 c4),(5,ξ κ 0),(6,ξ κ 4),(7,ξ κ 0),(8,ξ κ 8),(9,ξ κ 0),(10,.bool θ),(11,ξ κ 0),(12,.bool χ),(13,ξ κ 0),(14,ξ κ 2),(15,ξ κ 0),(16,.slice kO n16 c16),(17,ξ κ 0),(18,π (φ ⟨g8,0,ν⟩)),(19,ξ κ 0)] a)(h8:Bk w g8 37 #[ξ κ 10,ξ κ 10])
 (cV:Row w w.heap.size 2 Span.R (.slice A4 n4 c4) [⟨0,2⟩,⟨4,7⟩])(AF:Row w w.heap.size 1 cH (.slice kO n16 c16) [4,5]):
 sj.wp prog (dP λa w'=>Sl [(0,.bool χ),(1,π (φ ⟨gE,0,ν⟩)),(2,ζ (φ ⟨gc,0,ν⟩) 3 3),(3,ζ (φ ⟨g3,0,ν⟩) 3 3)] a/\Γ w.heap.size w w') a w:=by
 obtain⟨x,rfl,hx⟩:=hs.lit;simp only[Al] at hx;have q0:=h8.cell 0;have q1:=h8.cell 1;have tW:g8<w.heap.size:=h8.lt;have le8:g8<=w.heap.size:=Nat.le_of_lt tW;have QP:Hid (∀W,Γ w.heap.size w W->∀g,Bk W g 37 #[ξ κ 0,ξ κ 2,ξ κ 4,ξ κ 7]->ύ prog 75 #[.slice A4 n4 c4,ζ (φ ⟨g,0,ν⟩) 2 2] W λe w'=>e=Ω (.bool θ)/\Γ W.heap.size W w'):=ψ λW hb g hg=>by
  have:=abR (ft cV hb) (Lz [⟨0,2⟩,⟨4,7⟩] (by decide) hg rfl) (ϊ _)
  exact this
 have QJ:Hid (∀W,Γ w.heap.size w W->∀g,Bk W g 3 #[ξ κ 4,ξ κ 5]->ύ prog 30 #[.slice kO n16 c16,ζ (φ ⟨g,0,ν⟩) 2 2] W λe w'=>e=Ω (.bool θ)/\Γ W.heap.size W w'):=ψ λW hb g hg=>by
  have:=GK (ft AF hb) (ru [4,5] (by decide) hg rfl) (ϊ _)
  exact this
 clear h8 cV AF;unfold lit;simp only[hx];simp only[sj,mX,mg,lA,kN,lV,jI,jl,iV,iB,gT,gS,gR,hJ,Tryz.f21,bO,a8,Akq];refine wp_seq (Zj (N:=68) (by kernel_rfl) rfl ?_)
 refine uH (N:=68) (s:=0) (e:=50) (fuel:=18) rfl (by kernel_rfl) (by omega) 50 0 (by omega) rfl ?_
 generalize hQ:Exit.then _ _=Q';simp only[Agl];repeat(first| (refine mf rfl rfl rfl (by kernel_rfl) (λ_ _=>?_)) |go_step)
 subst hQ;show Aku _ _ _ _ _ _ _ _;have hcut:∀x:Act,x=x:=λ_=>rfl
 refine Ln (fuel:=17) [50,51] (by kernel_rfl) (by simp) (Gu (IF _ rfl ?_) (Gu (IF _ rfl ?_) Ly))
 ·generalize hQ:Exit.then _ _=Q'
  repeat(first
   | (refine mf rfl rfl rfl (by kernel_rfl) (λ_ _=>?_))
   |go_step
   | (go_at_call 50;refine(Bc _ _).mono ?_;rintro e w1 ⟨rfl,rfl⟩)
   | (dsimp only)
   |go_upon
   |go_back
   |go_values)
  subst hQ;show Aku _ _ _ _ _ _ _ _;refine Ln (fuel:=16) [51] (by kernel_rfl) (by simp) (Gu (IF _ rfl ?_) Ly)
  generalize hQ:Exit.then _ _=Q';repeat(first
   | (refine mf rfl rfl rfl (by kernel_rfl) (λ_ _=>?_))
   |go_step
   | (go_at_call 50;refine(Bc _ _).mono ?_;rintro e w1 ⟨rfl,rfl⟩)
   | (dsimp only)
   |go_upon
   |go_back
   |go_values)
  subst hQ;show Aku _ _ _ _ _ _ _ _;refine zG (l':=fP 68 52) (V1 (n:=68) (i:=50) (j:=51) rfl (by omega)) ?_
  refine uH (N:=68) (s:=52) (e:=55) (fuel:=13) rfl (by kernel_rfl) (by omega) 3 52 (by omega) rfl ?_
  generalize hQ:Exit.then _ _=Q';simp only[Agk,Agl,Agi,Agj];repeat(first
   | (refine mf rfl rfl rfl (by kernel_rfl) (λ_ _=>?_))
   |go_step
   | (dsimp only)
   |go_upon
   |go_back
   |go_values)
  subst hQ;show Aku _ _ _ _ _ _ _ _;refine Akv (fuel:=12) (i:=55) (v:=.slice A4 n4 c4) rfl (by kernel_rfl) (by kernel_rfl) (by kernel_rfl) (λ_ _ _ h=>h) (Or.inl ⟨by kernel_rfl,λw=>by kernel_rfl⟩) ?_
  refine zG (l':=fP 68 (55+1)) (yE (by omega)) ?_
  simp only[Act.put,Ajl,Ajm,ε];refine uH (N:=68) (s:=56) (e:=63) (fuel:=5) rfl (by kernel_rfl) (by omega) 7 56 (by omega) rfl ?_
  generalize hQ:Exit.then _ _=Q';simp only[Agk,Agl,Agi,Agj];repeat(first
   | (refine mf rfl rfl rfl (by kernel_rfl) (λ_ _=>?_))
   |go_step
   | (go_at_call 67;refine(B8 _ _ _).mono ?_;rintro e w1 ⟨rfl,rfl⟩)
   | (go_at_call 75;refine(QP.e _ (by repeat first|exact Akx _ _|refine iY ?_|refine Aky ?_ (by simp<;>omega) _) _ (by first|exact RU (Bk.cG (by simp) _ _) |exact Bk.cG (by simp) _ _)).mono ?_;rintro e w5 ⟨rfl,eR⟩;have H5:Hid (Γ w.heap.size w w5):=ψ (Akz (B:=w.heap.size) (by repeat first|exact Akx _ _|refine iY ?_|refine Aky ?_ (by simp<;>omega) _) (eR.mono (by simp<;>omega)));clear eR)
   | (dsimp only)
   |go_upon
   |go_back
   |go_values)
  subst hQ;show Aku _ _ _ _ _ _ _ _;refine Akv (fuel:=4) (i:=63) (v:=.slice kO n16 c16) rfl (by kernel_rfl) (by kernel_rfl) (by kernel_rfl) (λ_ _ _ h=>h) (Or.inl ⟨by kernel_rfl,λw=>by kernel_rfl⟩) ?_
  refine zG (l':=fP 68 (63+1)) (yE (by omega)) ?_
  simp only[Act.put,Ajl,Ajm,ε];refine uH (N:=68) (s:=64) (e:=68) (fuel:=0) rfl (by kernel_rfl) (by omega) 4 64 (by omega) rfl ?_
  generalize hQ:Exit.then _ _=Q';simp only[Agk,Agl,Agi,Agj];repeat(first
   | (refine mf rfl rfl rfl (by kernel_rfl) (λ_ _=>?_))
   |go_step
   | (go_at_call 30;have qi:=QJ.e (w5.alloc (Obj.cells #[ϝ Ϛ 4,ϝ Ϛ 5] 3)) (H5.e.alloc H5.e.size _) w5.heap.size (Bk.new _ _ _);refine qi.mono ?_;rintro e w6 ⟨rfl,fI⟩;have H6:=ψ ((H5.e.alloc H5.e.size _).trans (fI.mono (by have:=H5.e.size;simp;omega)));clear fI)
   | (dsimp only)
   |go_upon
   |go_back
   |go_values)
  subst hQ;show Aku _ _ _ _ _ _ _ _;refine wpAny_done (by kernel_rfl) ?_ _
  go_wp2;exact⟨⟨rfl,rfl,eN rfl (eN rfl (eN rfl (eN rfl (iT))))⟩,H6.e⟩
 ·generalize hQ:Exit.then _ _=Q'
  repeat(first
   | (refine mf rfl rfl rfl (by kernel_rfl) (λ_ _=>?_))
   |go_step
   | (go_at_call 50;refine(Bc _ _).mono ?_;rintro e w1 ⟨rfl,rfl⟩)
   | (dsimp only)
   |go_upon
   |go_back
   |go_values)
  subst hQ;show Aku _ _ _ _ _ _ _ _;refine Ln (fuel:=16) [50] (by kernel_rfl) (by simp) (Gu (IF _ rfl ?_) Ly)
  generalize hQ:Exit.then _ _=Q';repeat(first
   | (refine mf rfl rfl rfl (by kernel_rfl) (λ_ _=>?_))
   |go_step
   | (go_at_call 50;refine(Bc _ _).mono ?_;rintro e w1 ⟨rfl,rfl⟩)
   | (dsimp only)
   |go_upon
   |go_back
   |go_values)
  subst hQ;show Aku _ _ _ _ _ _ _ _;refine zG (l':=fP 68 52) (ahn (n:=68) (i:=50) (j:=51) rfl (by omega)) ?_
  refine uH (N:=68) (s:=52) (e:=55) (fuel:=13) rfl (by kernel_rfl) (by omega) 3 52 (by omega) rfl ?_
  generalize hQ:Exit.then _ _=Q';simp only[Agk,Agl,Agi,Agj];repeat(first
   | (refine mf rfl rfl rfl (by kernel_rfl) (λ_ _=>?_))
   |go_step
   | (dsimp only)
   |go_upon
   |go_back
   |go_values)
  subst hQ;show Aku _ _ _ _ _ _ _ _;refine Akv (fuel:=12) (i:=55) (v:=.slice A4 n4 c4) rfl (by kernel_rfl) (by kernel_rfl) (by kernel_rfl) (λ_ _ _ h=>h) (Or.inl ⟨by kernel_rfl,λw=>by kernel_rfl⟩) ?_
  refine zG (l':=fP 68 (55+1)) (yE (by omega)) ?_
  simp only[Act.put,Ajl,Ajm,ε];refine uH (N:=68) (s:=56) (e:=63) (fuel:=5) rfl (by kernel_rfl) (by omega) 7 56 (by omega) rfl ?_
  generalize hQ:Exit.then _ _=Q';simp only[Agk,Agl,Agi,Agj];repeat(first
   | (refine mf rfl rfl rfl (by kernel_rfl) (λ_ _=>?_))
   |go_step
   | (go_at_call 67;refine(B8 _ _ _).mono ?_;rintro e w1 ⟨rfl,rfl⟩)
   | (go_at_call 75;refine(QP.e _ (by repeat first|exact Akx _ _|refine iY ?_|refine Aky ?_ (by simp<;>omega) _) _ (by first|exact RU (Bk.cG (by simp) _ _) |exact Bk.cG (by simp) _ _)).mono ?_;rintro e w5 ⟨rfl,eR⟩;have H5:Hid (Γ w.heap.size w w5):=ψ (Akz (B:=w.heap.size) (by repeat first|exact Akx _ _|refine iY ?_|refine Aky ?_ (by simp<;>omega) _) (eR.mono (by simp<;>omega)));clear eR)
   | (dsimp only)
   |go_upon
   |go_back
   |go_values)
  subst hQ;show Aku _ _ _ _ _ _ _ _;refine Akv (fuel:=4) (i:=63) (v:=.slice kO n16 c16) rfl (by kernel_rfl) (by kernel_rfl) (by kernel_rfl) (λ_ _ _ h=>h) (Or.inl ⟨by kernel_rfl,λw=>by kernel_rfl⟩) ?_
  refine zG (l':=fP 68 (63+1)) (yE (by omega)) ?_
  simp only[Act.put,Ajl,Ajm,ε];refine uH (N:=68) (s:=64) (e:=68) (fuel:=0) rfl (by kernel_rfl) (by omega) 4 64 (by omega) rfl ?_
  generalize hQ:Exit.then _ _=Q';simp only[Agk,Agl,Agi,Agj];repeat(first
   | (refine mf rfl rfl rfl (by kernel_rfl) (λ_ _=>?_))
   |go_step
   | (go_at_call 30;have qi:=QJ.e (w5.alloc (Obj.cells #[ϝ Ϛ 4,ϝ Ϛ 5] 3)) (H5.e.alloc H5.e.size _) w5.heap.size (Bk.new _ _ _);refine qi.mono ?_;rintro e w6 ⟨rfl,fI⟩;have H6:=ψ ((H5.e.alloc H5.e.size _).trans (fI.mono (by have:=H5.e.size;simp;omega)));clear fI)
   | (dsimp only)
   |go_upon
   |go_back
   |go_values)
  subst hQ;show Aku _ _ _ _ _ _ _ _;refine wpAny_done (by kernel_rfl) ?_ _
  go_wp2;exact⟨⟨rfl,rfl,eN rfl (eN rfl (eN rfl (eN rfl (iT))))⟩,H6.e⟩
def FB(w0:Ψ)(a:Act)(w:Ψ):Prop:=∃gE gp gb gk gt gl gc g3,Sl [(0,.bool χ),(1,π (φ ⟨gE,0,ν⟩)),(2,ζ (φ ⟨gc,0,ν⟩) 3 3),(3,ζ (φ ⟨g3,0,ν⟩) 3 3)] a/\jo w0 w gE gp gb gk gt gl gc g3
def FA.fb{w0:Ψ}{a:Act}{w:Ψ}(h:FA w0 a w):FB w0 a w:=by
 obtain⟨hd,aI,h0,gE,gp,gb,gk,gt,gl,gc,g3,h1,h2,h3,hx⟩:=h;exact⟨gE,gp,gb,gk,gt,gl,gc,g3,⟨hd,aI,eN h0 (eN h1 (eN h2 (eN h3 iT)))⟩,hx⟩
def jo.kD{w0 w:Ψ}{gE gp gb gk gt gl gc g3:Nat}(h:jo w0 w gE gp gb gk gt gl gc g3):Row w w.heap.size 2 Cut.R (ζ (φ ⟨gc,0,ν⟩) 3 3) dQ:=aa9 h.bc
def jo.LV{w0 w:Ψ}{gE gp gb gk gt gl gc g3:Nat}(h:jo w0 w gE gp gb gk gt gl gc g3):Row w w.heap.size 2 Cut.R (ζ (φ ⟨g3,0,ν⟩) 3 3) uS:=RJ uS (by decide) h.b3 rfl
def ak0{w0:Ψ}{a:Act}{w:Ψ}(hf:FB w0 a w):eX prog [GF,sA,sB,sC,sD,sE,sF,si,sj] (dP (FB w0)) a w:=by
 obtain⟨gE,gp,gb,gk,gt,gl,gc,g3,hs,hx⟩:=hf;refine jj (rz3 (W:=λA n c w'=>Row w' w'.heap.size 2 Span.R (.slice A n c) [⟨0,2⟩,⟨4,7⟩]/\Γ w.heap.size w w') hs hx.bE ?c3) ?_
 case c3=>
  refine(aaz (ϊ _) (kY hx.ex) xh (x:=te) (k:=0) rfl).mono ?_
  rintro e w' ⟨v,rfl,ho,hb⟩;obtain⟨A,n,c,rfl⟩:=j8 ho;rw[abZ] at ho;exact⟨A,n,c,rfl,lu ho (λ_=>rfl) (λ_ _=>rfl),hb⟩
 rintro a w1 ⟨A4,n4,c4,hs,cV,hb⟩;replace hx:=hx.grown hb;clear hb;refine jj (rz4 (W:=λw'=>Γ w1.heap.size w1 w') hs hx.bE ?c4) ?_
 case c4=>
  refine(V0 (ϊ _) (kY hx.ex) xh (x:=te) (k:=0) (bears:=0) rfl rfl).mono ?_
  rintro e w' ⟨rfl,hb⟩;exact⟨by rw[ab7],hb⟩
 rintro a w2 ⟨hs,hb⟩;replace hx:=hx.grown hb;replace cV:=ft cV hb;clear hb;refine jj (rz5 (W:=λw'=>Γ w2.heap.size w2 w') hs hx.bE ?c5) ?_
 case c5=>
  refine(V0 (ϊ _) (kY hx.ex) xh (x:=te) (k:=0) (bears:=1) rfl rfl).mono ?_
  rintro e w' ⟨rfl,hb⟩;exact⟨by rw[ab8],hb⟩
 rintro a w3 ⟨hs,hb⟩;replace hx:=hx.grown hb;replace cV:=ft cV hb;clear hb;have ow:Γ w3.heap.size w3 (w3.alloc (Ξ #[ξ κ 4,ξ κ 3,ξ κ 3] 3)):=(Akx _ _).alloc (ϊ _) _;have yp:=hx.grown ow;refine jj (rz6 (W:=λw'=>Γ w3.heap.size w3 w') hs hx.bE ?c6) ?_
 case c6=>
  refine(Ta (l:=[4,3,3]) (kD:=dQ) (ϊ _) (kY yp.ex) (ru [4,3,3] (by decide) (Bk.new _ _ _) rfl) yp.kD xh acd).mono ?_
  rintro e w' ⟨rfl,hb⟩;exact⟨by rw[ab4],ow.trans (hb.mono (by simp))⟩
 rintro a w4 ⟨hs,hb⟩;replace hx:=hx.grown hb;replace cV:=ft cV hb;clear hb ow yp;have ow:Γ w4.heap.size w4 (w4.alloc (Ξ #[ξ κ 4,ξ κ 3,ξ κ 3] 3)):=(Akx _ _).alloc (ϊ _) _;have yp:=hx.grown ow;refine jj (rz7 (W:=λw'=>Γ w4.heap.size w4 w') hs hx.bE ?c7) ?_
 case c7=>
  refine(Ta (l:=[4,3,3]) (kD:=uS) (ϊ _) (kY yp.ex) (ru [4,3,3] (by decide) (Bk.new _ _ _) rfl) yp.LV xh ace).mono ?_
  rintro e w' ⟨rfl,hb⟩;exact⟨by rw[ab5],ow.trans (hb.mono (by simp))⟩
 rintro a w5 ⟨hs,hb⟩;replace hx:=hx.grown hb;replace cV:=ft cV hb;clear hb ow yp;refine jj (rz8 (W:=λw'=>Γ w5.heap.size w5 w') hs hx.bE ?c8) ?_
 case c8=>
  refine(ZL (ϊ _) (kY hx.ex)).mono ?_
  rintro e w' ⟨rfl,hb⟩;exact⟨by rw[abX,xh],hb⟩
 rintro a w6 ⟨hs,hb⟩;replace hx:=hx.grown hb;replace cV:=ft cV hb;clear hb;refine jj (rz9 (W:=λA n c w'=>Row w' w'.heap.size 1 cH (.slice A n c) [4,5]/\Γ w6.heap.size w6 w') hs hx.bE ?c9) ?_
 case c9=>
  refine(ag8 (k:=0) (ϊ _) (kY hx.ex) aca).mono ?_
  rintro e w' ⟨v,rfl,ho,hb⟩;obtain⟨A,n,c,rfl⟩:=j8 ho;rw[ab6] at ho;exact⟨A,n,c,rfl,Ih ho,hb⟩
 rintro a w7 ⟨kO,n16,c16,hs,AF,hb⟩;replace hx:=hx.grown hb;replace cV:=ft cV hb;clear hb;refine jj (akx (W:=λw'=>Γ w7.heap.size w7 w') hs hx.bE ?c10) ?_
 case c10=>
  refine(amm (ϊ _) (kY hx.ex) PH).mono ?_
  rintro e w' ⟨rfl,hb⟩;exact⟨by rw[ack],hb⟩
 rintro a w8 ⟨qW,hb,⟨g8,Nn,hs⟩,rfl⟩;have ak:Γ w7.heap.size w7 (qW.alloc (Ξ #[ξ κ 10,ξ κ 10] 37)):=hb.alloc hb.size _;replace hx:=hx.grown ak;replace cV:=ft cV ak;replace AF:=ft AF ak;clear hb ak;refine jj (aky (gp:=0) (gb:=0) (gt:=0) hs (by rw[Nn];exact Bk.new _ _ _) cV AF) ?_
 rintro a w9 ⟨hs,hb⟩;exact⟨gE,gp,gb,gk,gt,gl,gc,g3,hs,hx.grown hb⟩
def FC(w0:Ψ)(a:Act)(w:Ψ):Prop:=∃gE gp gb gk gt gl gc g3 dk n22 c22 bZ n25 b6 er n28 ew,
 Sl [(0,.bool χ),(1,π (φ ⟨gE,0,ν⟩)),(2,ζ (φ ⟨gc,0,ν⟩) 3 3),(3,ζ (φ ⟨g3,0,ν⟩) 3 3),(5,ξ κ 0),(7,ξ κ 0),(9,ξ κ 0),(11,ξ κ 0),(13,ξ κ 0),(20,ξ κ 1),(21,ξ κ 0),(22,.slice dk n22 c22),(23,ζ ν 0 0),(24,ξ κ 8),(25,.slice bZ n25 b6),(26,ξ κ 2),(27,.bool θ),(28,.slice er n28 ew),(29,ξ κ 14),(30,.bool θ)] a/\
 jo w0 w gE gp gb gk gt gl gc g3/\Row w w.heap.size 1 cH (.slice dk n22 c22) [1,1]/\Row w w.heap.size 2 Cut.R (.slice bZ n25 b6) dQ/\Row w w.heap.size 2 Cut.R (.slice er n28 ew) dQ
def OV{w0 w:Ψ}{gE gp gb gk gt gl gc g3:Nat}(hm:gI w0)(h:jo w0 w gE gp gb gk gt gl gc g3):gI w:=hm.below h.below hm.lt
def S5{w w':Ψ}{mI:List Cut->Int}{n:Int}{e:Ending}(hb:fA aW mI=φ (dQ,n))(h:wM w aW mI e w'):
 ∃A k c,e=Ω (μ #[.slice A k c,ξ κ n,.bool θ,ξ κ 0])/\Row w' w'.heap.size 2 Cut.R (.slice A k c) dQ/\Γ w.heap.size w w':=by
 obtain⟨cv,mv,fv,rfl,aQ,fX⟩:=h;rw[hb] at aQ;obtain⟨ho,rfl,rfl⟩:=aQ;obtain⟨A,k,c,rfl⟩:=j8 ho;exact⟨A,k,c,by rw[PH],lu (l:=dQ) ho (λ_=>rfl) (λ_ _=>rfl),fX⟩
def ak1{w0:Ψ}(hm:gI w0){a:Act}{w:Ψ}(hf:FB w0 a w):eX prog [sk,rZ,so,sr,ss,su] (dP (FC w0)) a w:=by
 obtain⟨gE,gp,gb,gk,gt,gl,gc,g3,hs,hx⟩:=hf;refine jj (akz (W:=λw'=>Γ w.heap.size w w') hs hx.bE ?c12) ?_
 case c12=>
  refine(L4 (ϊ _) (kY hx.ex) hx.kD aeR).mono ?_
  rintro e w' ⟨rfl,hb⟩;exact⟨by rw[ab1],hb⟩
 rintro a w1 ⟨hs,hb⟩;replace hx:=hx.grown hb;clear hb;refine jj (akA (W:=λw'=>Γ w1.heap.size w1 w') hs hx.bE ?c13) ?_
 case c13=>
  refine(L4 (ϊ _) (kY hx.ex) hx.LV ahS).mono ?_
  rintro e w' ⟨rfl,hb⟩;exact⟨by rw[ab2],hb⟩
 rintro a w2 ⟨hs,hb⟩;replace hx:=hx.grown hb;clear hb;refine jj (akB (W:=λA n c w'=>Row w' w'.heap.size 1 cH (.slice A n c) [1,1]/\Γ w2.heap.size w2 w') hs hx.bE ?c14) ?_
 case c14=>
  refine(alD (ϊ _) (kY hx.ex) hx.kD aeR ach).mono ?_
  rintro e w' ⟨v,rfl,ho,hb⟩;obtain⟨A,n,c,rfl⟩:=j8 ho;rw[acg] at ho;exact⟨A,n,c,rfl,Ih ho,hb⟩
 rintro a w3 ⟨dk,n22,c22,hs,j4,hb⟩;replace hx:=hx.grown hb;clear hb;refine jj (akC (W:=λw'=>Γ w3.heap.size w3 w') hs hx.bE ?c15) ?_
 case c15=>
  refine(alC (ϊ _) (kY hx.ex) hx.LV ahS aci).mono ?_
  rintro e w' ⟨rfl,hb⟩;exact⟨rfl,hb⟩
 rintro a w4 ⟨hs,hb⟩;replace hx:=hx.grown hb;replace j4:=ft j4 hb;clear hb;refine jj (akD (W:=λA n c w'=>Row w' w'.heap.size 2 Cut.R (.slice A n c) dQ/\Γ w4.heap.size w4 w') hs hx.bE ?c16) ?_
 case c16=>
  refine(Md (ϊ _) (kY hx.ex) (OV hm hx)).mono ?_
  rintro e w' h;exact S5 ab3 h
 rintro a w5 ⟨bZ,n25,b6,hs,gO,hb⟩;replace hx:=hx.grown hb;replace j4:=ft j4 hb;clear hb;refine jj (akE (W:=λA n c w'=>Row w' w'.heap.size 2 Cut.R (.slice A n c) dQ/\Γ w5.heap.size w5 w') hs hx.bE ?c17) ?_
 case c17=>
  refine(Xm (ϊ _) (kY hx.ex) (OV hm hx)).mono ?_
  rintro e w' h;exact S5 acf h
 rintro a w6 ⟨er,n28,ew,hs,mE,hb⟩;exact⟨gE,gp,gb,gk,gt,gl,gc,g3,dk,n22,c22,bZ,n25,b6,er,n28,ew,hs,hx.grown hb,ft j4 hb,ft gO hb,mE⟩
def akZ{w0:Ψ}(hm:gI w0){a:Act}(h:eX prog [ui,uj,uk] (dP (FA w0)) a w0):eX prog [ui,uj,uk,GF,sA,sB,sC,sD,sE,sF,si,sj,sk,rZ,so,sr,ss,su] (dP (FC w0)) a w0:=by
 refine FN (jQ:=[GF,sA,sB,sC,sD,sE,sF,si,sj,sk,rZ,so,sr,ss,su]) (λa w hf=>?_) [ui,uj,uk] h
 exact FN (jQ:=[sk,rZ,so,sr,ss,su]) (λa w hf=>ak1 hm hf) [GF,sA,sB,sC,sD,sE,sF,si,sj] (ak0 hf.fb)
set_option maxRecDepth 400000 in
def akG{gE gc g3:Nat}{dk:Option ϕ}{n22 c22:Nat}{bZ:Option ϕ}{n25 b6:Nat}{er:Option ϕ}{n28 ew:Nat}{iW:Option ϕ}{n31 iZ:Nat}{a:Act}{w:Ψ}(hs:Sl [(0,.bool χ),(1,π (φ ⟨gE,0,ν⟩)),(2,ζ (φ ⟨gc,0,ν⟩) 3 3),(3,ζ (φ ⟨g3,0,ν⟩) 3 3),(5,ξ κ 0),(7,ξ κ 0),(9,ξ κ 0),(11,ξ κ 0),(13,ξ κ 0),(15,ξ κ 0),(17,ξ κ 0),(20,ξ κ 1),(21,ξ κ 0),(22,.slice dk n22 c22),(23,ζ ν 0 0),(24,ξ κ 8),(25,.slice bZ n25 b6),(26,ξ κ 2),(27,.bool θ),(28,.slice er n28 ew),(29,ξ κ 14),(30,.bool θ),(31,.slice iW n31 iZ),(32,ξ κ 0),(33,ξ κ 1)] a)
 (hc:Row w w.heap.size 2 Cut.R (ζ (φ ⟨gc,0,ν⟩) 3 3) dQ)(j4:Row w w.heap.size 1 cH (.slice dk n22 c22) [1,1])(gO:Row w w.heap.size 2 Cut.R (.slice bZ n25 b6) dQ)(mE:Row w w.heap.size 2 Cut.R (.slice er n28 ew) dQ)(yf:Row w w.heap.size 1 cH (.slice iW n31 iZ) [0,1]):
 wh.wp prog (dP λa w'=>Sl [(1,π (φ ⟨gE,0,ν⟩))] a/\Γ w.heap.size w w') a w:=by
 obtain⟨x,rfl,hx⟩:=hs.lit;simp only[Al] at hx;have CA:Hid (∀W,Γ w.heap.size w W->ύ prog 35 #[.slice bZ n25 b6,ζ (φ ⟨gc,0,ν⟩) 3 3] W λe w'=>e=Ω (.bool θ)/\Γ W.heap.size W w'):=ψ λW hb=>by
  have:=PF (ft gO hb) (ft hc hb) (ϊ _);exact this
 have CB:Hid (∀W,Γ w.heap.size w W->ύ prog 35 #[.slice er n28 ew,ζ (φ ⟨gc,0,ν⟩) 3 3] W λe w'=>e=Ω (.bool θ)/\Γ W.heap.size W w'):=ψ λW hb=>by
  have:=PF (ft mE hb) (ft hc hb) (ϊ _);exact this
 have CC:Hid (∀W,Γ w.heap.size w W->∀g,Bk W g 3 #[ξ κ 1,ξ κ 1]->ύ prog 30 #[.slice dk n22 c22,ζ (φ ⟨g,0,ν⟩) 2 2] W λe w'=>e=Ω (.bool θ)/\Γ W.heap.size W w'):=ψ λW hb g hg=>by
  have:=GK (ft j4 hb) (ru [1,1] (by decide) hg rfl) (ϊ _)
  exact this
 have CD:Hid (∀W,Γ w.heap.size w W->∀g,Bk W g 3 #[ξ κ 0,ξ κ 1]->ύ prog 30 #[.slice iW n31 iZ,ζ (φ ⟨g,0,ν⟩) 2 2] W λe w'=>e=Ω (.bool θ)/\Γ W.heap.size W w'):=ψ λW hb g hg=>by
  have:=GK (ft yf hb) (ru [0,1] (by decide) hg rfl) (ϊ _)
  exact this
 clear hc j4 gO mE yf;unfold lit;simp only[hx];simp only[wh,zf,wC,wA,uo,sJ,qX,pF,oM,nT,mX,mg,lA,kN,lV,jI,jl,iV,iB,gT,gS,gR,hJ,Tryz.f21,bO,a8,Akq];refine wp_seq (wp_region_lit ?_)
 generalize hQ:Exit.then _ _=Q';repeat(first
  | (refine mf rfl rfl rfl (by kernel_rfl) (λ_ _=>?_))
  |go_step
  | (dsimp only)
  |go_upon
  |go_back
  |go_values)
 go_at_call 35
 refine(CA.e _ (Akx _ _)).mono ?_
 rintro e w1 ⟨rfl,ae⟩;have H1:=ψ ae;clear ae CA;repeat(first
  | (refine mf rfl rfl rfl (by kernel_rfl) (λ_ _=>?_))
  |go_step
  | (dsimp only)
  |go_upon
  |go_back
  |go_values)
 go_at_call 35
 refine(CB.e _ H1.e).mono ?_
 rintro e w2 ⟨rfl,ak⟩;have H2:=ψ (H1.e.trans (ak.mono H1.e.size));clear ak CB H1;repeat(first
  | (refine mf rfl rfl rfl (by kernel_rfl) (λ_ _=>?_))
  |go_step
  | (dsimp only)
  |go_upon
  |go_back
  |go_values)
 go_at_call 30
 have qi:=CC.e (w2.alloc (Obj.cells #[ϝ Ϛ 1,ϝ Ϛ 1] 3)) (H2.e.alloc H2.e.size _) w2.heap.size (Bk.new _ _ _);refine qi.mono ?_
 rintro e w3 ⟨rfl,bD⟩;have H3:=ψ ((H2.e.alloc H2.e.size _).trans (bD.mono (by have:=H2.e.size;simp;omega)))
 clear bD qi H2 CC;repeat(first
  | (refine mf rfl rfl rfl (by kernel_rfl) (λ_ _=>?_))
  |go_step
  | (dsimp only)
  |go_upon
  |go_back
  |go_values)
 go_at_call 30
 have qi:=CD.e (w3.alloc (Obj.cells #[ϝ Ϛ 0,ϝ Ϛ 1] 3)) (H3.e.alloc H3.e.size _) w3.heap.size (Bk.new _ _ _);refine qi.mono ?_
 rintro e w4 ⟨rfl,cO⟩;have H4:=ψ ((H3.e.alloc H3.e.size _).trans (cO.mono (by have:=H3.e.size;simp;omega)))
 clear cO qi H3 CD;repeat(first
  | (refine mf rfl rfl rfl (by kernel_rfl) (λ_ _=>?_))
  |go_step
  | (dsimp only)
  |go_upon
  |go_back
  |go_values)
 subst hQ;go_wp2;exact⟨⟨rfl,rfl,eN rfl (iT)⟩,H4.e⟩
set_option maxRecDepth 400000 in
def akH{gE gp gb gt:Nat}{W:Option ϕ->Nat->Nat->Option ϕ->Nat->Nat->Option ϕ->Nat->Nat->Ψ->Prop}{a:Act}{w:Ψ}(hs:Sl [(1,π (φ ⟨gE,0,ν⟩))] a)(hc:Bk w gE 26 #[ξ κ 1,ζ (φ ⟨gp,0,ν⟩) 3 3,ζ (φ ⟨gb,0,ν⟩) 2 2,ζ (φ ⟨gt,0,ν⟩) 1 1])
 (aB:ύ prog 53 #[η #[ξ κ 1,ζ (φ ⟨gp,0,ν⟩) 3 3,ζ (φ ⟨gb,0,ν⟩) 2 2,ζ (φ ⟨gt,0,ν⟩) 1 1],η #[.string agE,ξ κ 13,ζ ν 0 0]] w λe w'=>∃Ap np cp Ab nb cb At nt ct,e=Ω (μ #[η #[ξ κ 1,.slice Ap np cp,.slice Ab nb cb,.slice At nt ct],ξ κ 0])/\W Ap np cp Ab nb cb At nt ct w'):
 wj.wp prog (dP λa w=>∃Ap np cp Ab nb cb At nt ct w1,W Ap np cp Ab nb cb At nt ct w1/\Sl [(1,π (φ ⟨gE,0,ν⟩)),(5,ξ κ 0),(34,π (φ ⟨w1.heap.size,0,ν⟩))] a/\w=w1.alloc (Ξ #[ξ κ 1,.slice Ap np cp,.slice Ab nb cb,.slice At nt ct] 26)) a w:=by
 obtain⟨x,rfl,hx⟩:=hs.lit;simp only[Al] at hx;have q0:=hc.cell 0;have q1:=hc.cell 1;have q2:=hc.cell 2;have q3:=hc.cell 3;have aB:=ψ aB;clear hc;unfold lit;simp only[hx];simp only[wj,BP,zf,wC,wA,uo,sJ,qX,pF,oM,nT,mX,mg,lA,kN,lV,jI,jl,iV,iB,gT,gS,gR,hJ,Tryz.f21,bO,a8,Akq];go_wp2_with (go_at_call 53;refine aB.e.mono ?_;rintro e w1 ⟨Ap,np,cp,Ab,nb,cb,At,nt,ct,rfl,hp⟩;have HP:=ψ hp;clear hp)
 exact⟨_,_,_,_,_,_,_,_,_,_,HP.e,⟨rfl,rfl,eN rfl (eN rfl (eN rfl iT))⟩,rfl⟩
set_option maxRecDepth 400000 in
def akI{gE Tv:Nat}{Ap Ab At:Option ϕ}{np cp nb cb nt ct:Nat}{W:Option ϕ->Nat->Nat->Ψ->Prop}{a:Act}{w:Ψ}(hs:Sl [(1,π (φ ⟨gE,0,ν⟩)),(5,ξ κ 0),(34,π (φ ⟨Tv,0,ν⟩))] a)(hc:Bk w Tv 26 #[ξ κ 1,.slice Ap np cp,.slice Ab nb cb,.slice At nt ct])
 (aB:ύ prog 33 #[η #[ξ κ 1,.slice Ap np cp,.slice Ab nb cb,.slice At nt ct]] w λe w'=>∃bZ n25 b6,e=Ω (μ #[.slice bZ n25 b6,ξ κ 1,.bool θ,ξ κ 0])/\W bZ n25 b6 w'):wm.wp prog (dP λa w=>∃bZ n25 b6,Sl [(1,π (φ ⟨gE,0,ν⟩)),(5,ξ κ 0),(7,ξ κ 0),(25,.slice bZ n25 b6),(26,ξ κ 1)] a/\W bZ n25 b6 w) a w:=by
 obtain⟨x,rfl,hx⟩:=hs.lit;simp only[Al] at hx;have q0:=hc.cell 0;have q1:=hc.cell 1;have q2:=hc.cell 2;have q3:=hc.cell 3;have aB:=ψ aB;clear hc;unfold lit;simp only[hx];simp only[wm,FQ,BP,zf,wC,wA,uo,sJ,qX,pF,oM,nT,mX,mg,lA,kN,lV,jI,jl,iV,iB,gT,gS,gR,hJ,Tryz.f21,bO,a8,Akq];go_wp2_with (go_at_call 33;refine aB.e.mono ?_;rintro e w1 ⟨bZ,n25,b6,rfl,hp⟩;have HP:=ψ hp;clear hp)
 exact⟨bZ,n25,b6,⟨rfl,rfl,(by repeat first|exact iT|refine eN rfl ?_)⟩,HP.e⟩
set_option maxRecDepth 400000 in
def akK{gE:Nat}{Ap Ab At:Option ϕ}{np cp nb cb nt ct:Nat}{bZ:Option ϕ}{n25 b6:Nat}{W:Option ϕ->Nat->Nat->Ψ->Prop}{a:Act}{w:Ψ}(hs:Sl [(1,π (φ ⟨gE,0,ν⟩)),(5,ξ κ 0),(7,ξ κ 0),(25,.slice bZ n25 b6),(26,ξ κ 1)] a)(hc:Bk w gE 26 #[ξ κ 1,.slice Ap np cp,.slice Ab nb cb,.slice At nt ct])
 (aB:ύ prog 56 #[η #[ξ κ 1,.slice Ap np cp,.slice Ab nb cb,.slice At nt ct]] w λe w'=>∃kP n35 jd,e=Ω (μ #[.slice kP n35 jd,ξ κ 0])/\W kP n35 jd w'):wu.wp prog (dP λa w=>∃kP n35 jd,Sl [(5,ξ κ 0),(7,ξ κ 0),(9,ξ κ 0),(25,.slice bZ n25 b6),(26,ξ κ 1),(35,.slice kP n35 jd)] a/\W kP n35 jd w) a w:=by
 obtain⟨x,rfl,hx⟩:=hs.lit;simp only[Al] at hx;have q0:=hc.cell 0;have q1:=hc.cell 1;have q2:=hc.cell 2;have q3:=hc.cell 3;have aB:=ψ aB;clear hc;unfold lit;simp only[hx];simp only[wu,JX,JW,FQ,BP,zf,wC,wA,uo,sJ,qX,pF,oM,nT,mX,mg,lA,kN,lV,jI,jl,iV,iB,gT,gS,gR,hJ,Tryz.f21,bO,a8,Akq];go_wp2_with (go_at_call 56;refine aB.e.mono ?_;rintro e w1 ⟨kP,n35,jd,rfl,hp⟩;have HP:=ψ hp;clear hp)
 exact⟨kP,n35,jd,⟨rfl,rfl,(by repeat first|exact iT|refine eN rfl ?_)⟩,HP.e⟩
set_option maxRecDepth 400000 in
def akL{bZ:Option ϕ}{n25 b6:Nat}{kP:Option ϕ}{n35 jd:Nat}{a:Act}{w:Ψ}(hs:Sl [(5,ξ κ 0),(7,ξ κ 0),(9,ξ κ 0),(25,.slice bZ n25 b6),(26,ξ κ 1),(35,.slice kP n35 jd)] a)
 (gO:Row w w.heap.size 2 Cut.R (.slice bZ n25 b6) mr)(Hx:Row w w.heap.size 1 cH (.slice kP n35 jd) [0,1,2]):
 wD.wp prog (λe a w'=>e=.ret/\a.defers=[cQ]/\a.tmps.size=349/\a.tmps[0]?=φ (.bool θ)/\Γ w.heap.size w w') a w:=by
 obtain⟨x,rfl,hx⟩:=hs.lit;simp only[Al] at hx;have CA:Hid (∀W,Γ w.heap.size w W->∀g,Bk W g 56 #[ξ κ 2,ξ κ 0,ξ κ 2,ξ κ 6,ξ κ 2,ξ κ 10]->ύ prog 35 #[.slice bZ n25 b6,ζ (φ ⟨g,0,ν⟩) 3 3] W λe w'=>e=Ω (.bool θ)/\Γ W.heap.size W w'):=ψ λW hb g hg=>by
  have:=PF (ft gO hb) (RJ mr (by decide) hg rfl) (ϊ _)
  exact this
 have CB:Hid (∀W,Γ w.heap.size w W->∀g,Bk W g 3 #[ξ κ 0,ξ κ 1,ξ κ 2]->ύ prog 30 #[.slice kP n35 jd,ζ (φ ⟨g,0,ν⟩) 3 3] W λe w'=>e=Ω (.bool θ)/\Γ W.heap.size W w'):=ψ λW hb g hg=>by
  have:=GK (ft Hx hb) (ru [0,1,2] (by decide) hg rfl) (ϊ _)
  exact this
 clear gO Hx;unfold lit;simp only[hx];simp only[wD,JX,JW,FQ,BP,zf,wC,wA,uo,sJ,qX,pF,oM,nT,mX,mg,lA,kN,lV,jI,jl,iV,iB,gT,gS,gR,hJ,Tryz.f21,bO,a8,Akq];go_wp2_with (first
  | (go_at_call 66;refine(di _ _ _).mono ?_;rintro e w1 ⟨rfl,rfl⟩)
  | (go_at_call 35;refine(CA.e _ (by repeat first|exact Akx _ _|refine Aky ?_ (by simp<;>omega) _) _ (Bk.cG (by simp) _ _)).mono ?_;rintro e w5 ⟨rfl,eR⟩;have H5:Hid (Γ w.heap.size w w5):=ψ (Akz (B:=w.heap.size) (by repeat first|exact Akx _ _|refine Aky ?_ (by simp<;>omega) _) (eR.mono (by simp<;>omega)));clear eR)
  | (go_at_call 30;have qi:=CB.e (w5.alloc (Obj.cells #[ϝ Ϛ 0,ϝ Ϛ 1,ϝ Ϛ 2] 3)) (H5.e.alloc H5.e.size _) w5.heap.size (Bk.new _ _ _);refine qi.mono ?_;rintro e w6 ⟨rfl,fI⟩;have H6:=ψ ((H5.e.alloc H5.e.size _).trans (fI.mono (by have:=H5.e.size;simp;omega)));clear fI))
 exact H6.e
end
end Go.Jn
namespace Go.Jn
open Go Go.Proofs Go.Sim Go.Conc Go.Tw Go.RowKit
def akn{α:Type}{w:Ψ}{No:Nat->Prop}{sz:Nat}{R:α->List υ->Prop}{v:υ}{xs:List α}(h:cW w No sz R v xs){p:ϕ}(hp:No p.block)(u:υ):cW (w.setCell p u) No sz R v xs:=by
 obtain⟨A,c,hv,h1,h2,h3⟩:=h;refine⟨A,c,hv,h1,h2,λhx=>?_⟩
 obtain⟨ad,ha,hb,hn,hc⟩:=h3 hx;refine⟨ad,ha,by simpa [World.setCell] using hb,hn,λi x hi=>?_⟩
 obtain⟨cs,r,hl,au⟩:=hc i x hi;refine⟨cs,r,hl,λj u hu=>?_⟩
 have aw:(ad.add (i * sz+j)).block≠p.block:=by rw[cq];intro e;rw[e] at hn;exact hn hp
 exact(World.cell?_of_block (Below.heap_setCell w p _ _ aw)).trans (au j u hu)
section
variable [Go.Tw.aR]
def zR(gk:Nat):List (bR×υ):=[(te,ζ (φ ⟨gk,0,ν⟩) 1 1),(⟨EC,6,[]⟩,ζ ν 0 0)]
def CU(gl g1 g2:Nat):List (Tw.Tape×υ):=[(⟨[0,2],⟨7,7⟩⟩,ζ (φ ⟨gl,0,ν⟩) 2 2),(⟨[0],⟨4,4⟩⟩,ζ (φ ⟨g1,0,ν⟩) 1 1),(⟨[2],⟨2,2⟩⟩,ζ (φ ⟨g2,0,ν⟩) 1 1)]
def amc{W:Ψ}{gp gb gk gl g1 g2 base:Nat}{tv:υ}(hp:Bk W gp 72 #[.string It,ξ κ 4,ξ κ 5,ξ κ 0,.string Iu,ξ κ 3,ξ κ 3,ξ κ 1,.string Is,ξ κ 2,ξ κ 3,ξ κ 0])
 (hb:Bk W gb 59 #[.string EA,ξ κ 8,ζ (φ ⟨gk,0,ν⟩) 1 1,.string EC,ξ κ 6,ζ ν 0 0])(hk:Bk W gk 37 #[ξ κ 3,ξ κ 3])(hl:Bk W gl 3 #[ξ κ 0,ξ κ 2])
 (h1:Bk W g1 3 #[ξ κ 0])(h2:Bk W g2 3 #[ξ κ 2])(ho:W.ownsRow base 95 3 tv 3 ((CU gl g1 g2).flatMap eG)):
 bg W W.heap.size zS (ζ (φ ⟨gp,0,ν⟩) 3 3) (ζ (φ ⟨gb,0,ν⟩) 2 2) tv:=by
 refine⟨?_,?_,?_⟩
 ·exact wX (xs:=aW.pieces) (f:=vV) hp (by decide) (λ_=>rfl) (λx hx=>by
   refine⟨rfl,?_⟩
   simp only[aW,ϫ,Λ,or_false] at hx;rcases hx with rfl|rfl|rfl<;>decide) rfl
 ·have:=wX (xs:=zR gk) (sz:=3) (f:=eP) (R:=λp cs=>cs=eP p) hb (by show 2<=1000;decide) (λ_=>rfl) (λ_ _=>rfl) rfl
  exact yY (ps:=zR gk) this (λp hm cs hc=>by
   simp only[zR,ϫ,Λ,or_false] at hm;rcases hm with rfl|rfl
   ·exact⟨_,hc,(by show te.name.size<=maxLen;decide),Lz [⟨3,3⟩] (by decide) hk rfl⟩
   ·exact⟨_,hc,by decide,Row.nil⟩)
 ·have:=lu (l:=CU gl g1 g2) (f:=eG) (R:=λp cs=>cs=eG p) ho (λ_=>rfl) (λ_ _=>rfl)
  exact yY (ps:=CU gl g1 g2) this (λp hm cs hc=>by
   simp only[CU,ϫ,Λ,or_false] at hm;rcases hm with rfl|rfl|rfl
   ·exact⟨_,hc,ru [0,2] (by decide) hl rfl⟩
   ·exact⟨_,hc,ru [0] (by decide) h1 rfl⟩
   ·exact⟨_,hc,ru [2] (by decide) h2 rfl⟩)
def kT{w:Ψ}{g g':Nat}{t t':TypeId}{cs bh:Array υ}(h:Bk w g t cs)(h':Bk w g' t' bh)(ht:t≠t'):g≠g':=by
 rintro rfl;have h:w.heap[g]?=_:=h;have h':w.heap[g]?=_:=h';rw[h] at h';simp only[Aeh,Obj.cells.injEq] at h';exact ht h'.2.1
def ajt{w:Ψ}{base n sz g:Nat}{e t:TypeId}{v:υ}{xs:List υ}{cs:Array υ}(h:w.ownsRow base e sz v n xs)(hb:Bk w g t cs)(ht:e≠t):∀k,v.ownBlock=φ k->g≠k:=by
 rcases h.2 with⟨rfl,_⟩ | ⟨k,cap,cur,rfl,jU,hk,_⟩
 ·intro k hk;simp[Value.ownBlock] at hk
 ·intro k' rH
  simp[Value.ownBlock] at rH;subst rH
  exactλe=>kT (show Bk w k _ cur from hk) hb ht e.symm
def amd{w0 w W4 w6:Ψ}{gE gp gb gk gt gl gc g3 g1 g2:Nat}{v':υ}(hx:jo w0 w gE gp gb gk gt gl gc g3)(h4:Γ w.heap.size w W4)(b1:Bk W4 g1 3 #[ξ κ 0])(b2:Bk W4 g2 3 #[ξ κ 2])
 (aG:w6.ownsRow w0.heap.size 95 3 v' 3 ((CU gl g1 g2).flatMap eG))(hg:W4.grownBy w6 (φ gt)):
 Bk w6 gE 26 #[ξ κ 1,ζ (φ ⟨gp,0,ν⟩) 3 3,ζ (φ ⟨gb,0,ν⟩) 2 2,ζ (φ ⟨gt,0,ν⟩) 1 1]/\
 Bk (w6.setCell ⟨gE,3,ν⟩ v') gE 26 #[ξ κ 1,ζ (φ ⟨gp,0,ν⟩) 3 3,ζ (φ ⟨gb,0,ν⟩) 2 2,v']/\
 bg (w6.setCell ⟨gE,3,ν⟩ v') (w6.setCell ⟨gE,3,ν⟩ v').heap.size zS (ζ (φ ⟨gp,0,ν⟩) 3 3) (ζ (φ ⟨gb,0,ν⟩) 2 2) v'/\
 ∀ {A:Option ϕ} {n c:Nat},cW w (λk=>k=gE\/k=gt) 2 Cut.R (.slice A n c) mr->cW (w6.setCell ⟨gE,3,ν⟩ v') (λk=>k=gE\/k=gt) 2 Cut.R (.slice A n c) mr:=by
 have up:∀ {g t cs},Bk w g t cs->g≠gt->Bk w6 g t cs:=λh aw=>Bk.grown (W:=W4) (h.below h4 h.lt) hg (by simpa using aw)
 have ht:=hx.ex.t;have hE:=up hx.bE (kT hx.bE ht (by decide))
 have hp:=up hx.ex.p (kT hx.ex.p ht (by decide))
 have hb:=up hx.ex.b (kT hx.ex.b ht (by decide))
 have hk:=up hx.ex.k (kT hx.ex.k ht (by decide))
 have hl:=up hx.ex.l (kT hx.ex.l ht (by decide))
 have Vj:=ht.below h4 ht.lt;have h1:Bk w6 g1 3 #[ξ κ 0]:=Bk.grown (W:=W4) b1 hg (by simpa using kT b1 Vj (by decide))
 have h2:Bk w6 g2 3 #[ξ κ 2]:=Bk.grown (W:=W4) b2 hg (by simpa using kT b2 Vj (by decide))
 have ho:=lj (u:=v') (p:=⟨gE,3,ν⟩) aG (ajt aG hE (by decide))
 refine⟨hE,hE.set 3 v',amc (hp.cu (kT hp hE (by decide)) _) (hb.cu (kT hb hE (by decide)) _) (hk.cu (kT hk hE (by decide)) _) (hl.cu (kT hl hE (by decide)) _) (h1.cu (kT h1 hE (by decide)) _) (h2.cu (kT h2 hE (by decide)) _) ho,λhr=>?_⟩
 have cV:cW W4 (λk=>k=gE\/k=gt) 2 Cut.R _ mr:=hr.below h4 (λk hk=>.inl hk)
 exact akn (cV.grown hg (λk hk=>.inr (by simpa using hk.symm))) (.inl rfl) _
end
end Go.Jn
namespace Go.Jn
open Go Go.Proofs Go.Sim Go.Conc Go.Tw Go.RowKit
def anb{P:Program}{md:Region.Mode}{ops:Array Ϝ}{Q:Exit->Act->Ψ->Prop}(I:Nat->Array Bool->Act->Ψ->Prop)
 (dq:∀n l a w i (K:Act->Ψ->Prop),I n l a w->i∈Aka md ops l->(∀a' w',I (n+1) (l.setIfInBounds i θ) a' w'->K a' w')->wpOp P ops Q i K a w)
 (qk:∀n l a w,I n l a w->Aka md ops l=[]->Q .normal a w)(Uj:∀l a w,I ops.size l a w->Aka md ops l=[]):
 ∀fuel n l a w,n+fuel=ops.size->I n l a w->Aku P md ops Q fuel l a w:=by
 intro fuel;induction fuel with
 |zero=>
  intro n l a w hn h;have hn:n=ops.size:=hn;subst hn;exact⟨Uj l a w h,qk _ l a w h (Uj l a w h)⟩
 |succ k ih=>exactλn l a w hn h=>⟨qk n l a w h,λi hi=>dq n l a w i _ h hi λa' w' h'=>ih (n+1) _ a' w' (by omega) h'⟩
def waits(ops:Array Ϝ)(i:Nat):List Nat:=((ops[i]?).map λo=>(o.after.toList.filter (Region.binds .any ·)).map (·.on)).getD []
def IX{ops:Array Ϝ}{l:Array Bool}{i:Nat}:i∈Aka .any ops l↔i<ops.size/\l.getD i θ=χ/\∀d∈waits ops i,l.getD d χ=θ:=by
 rw[mem_ready];unfold waits;constructor
 ·rintro⟨h,o,ho,ha⟩
  refine⟨(Ϟ.1 ho).1,h,λd hd=>?_⟩
  rw[ho] at hd;simp only[Ag3,Akq,List.mem_map,List.mem_filter] at hd;obtain⟨e,⟨he,hb⟩,rfl⟩:=hd;exact ha e (by simpa using he) hb
 ·rintro⟨hi,h,ha⟩
  refine⟨h,ops[i],Ϟ.2 ⟨hi,rfl⟩,λe he hb=>ha _ ?_⟩
  rw[Ϟ.2 ⟨hi,rfl⟩]
  simp only[Ag3,Akq,List.mem_map,List.mem_filter];exact⟨e,⟨by simpa using he,hb⟩,rfl⟩
def dt:Array Ϝ:=opsOf sw
def af1:Nat:=match sw with| .region i _ _=>i|_=>0
def al7:sw=.region af1 dt θ:=by kernel_rfl
def By:dt.size=12:=by kernel_rfl
def abo:∃o,dt[0]?=φ o/\o.op=.fieldAddr 26 (.tmp 1) 3/\o.dst=φ 306/\o.guard=ν:=⟨_,rfl,rfl,rfl,rfl⟩
def abp:∃o,dt[1]?=φ o/\o.op=.load 24 (.tmp 306)/\o.dst=φ 307/\o.guard=ν:=⟨_,rfl,rfl,rfl,rfl⟩
def abt:∃o,dt[2]?=φ o/\o.op=.buildSlice 33 1 #[(0,.const (ξ κ 0))]/\o.dst=φ 308/\o.guard=ν:=⟨_,rfl,rfl,rfl,rfl⟩
def abu:∃o,dt[3]?=φ o/\o.op=.call {callee:=.value (.func 50),args:=#[.const (ξ κ 4)],argTypes:=#[3]}/\o.dst=φ 309/\o.guard=ν:=⟨_,rfl,rfl,rfl,rfl⟩
def abv:∃o,dt[4]?=φ o/\o.op=.build 95 #[(0,.tmp 308),(1,.tmp 309)]/\o.dst=φ 310/\o.guard=ν:=⟨_,rfl,rfl,rfl,rfl⟩
def abw:∃o,dt[5]?=φ o/\o.op=.buildSlice 33 1 #[(0,.const (ξ κ 2))]/\o.dst=φ 311/\o.guard=ν:=⟨_,rfl,rfl,rfl,rfl⟩
def abx:∃o,dt[6]?=φ o/\o.op=.call {callee:=.value (.func 50),args:=#[.const (ξ κ 2)],argTypes:=#[3]}/\o.dst=φ 312/\o.guard=ν:=⟨_,rfl,rfl,rfl,rfl⟩
def aby:∃o,dt[7]?=φ o/\o.op=.build 95 #[(0,.tmp 311),(1,.tmp 312)]/\o.dst=φ 313/\o.guard=ν:=⟨_,rfl,rfl,rfl,rfl⟩
def abz:∃o,dt[8]?=φ o/\o.op=.buildSlice 24 2 #[(0,.tmp 310),(1,.tmp 313)]/\o.dst=φ 314/\o.guard=ν:=⟨_,rfl,rfl,rfl,rfl⟩
def abA:∃o,dt[9]?=φ o/\o.op=.call {callee:=.builtin .append,args:=#[.tmp 307,.tmp 314],argTypes:=#[24,24]}/\o.dst=φ 315/\o.guard=ν:=⟨_,rfl,rfl,rfl,rfl⟩
def abq:∃o,dt[10]?=φ o/\o.op=.fieldAddr 26 (.tmp 1) 3/\o.dst=φ 316/\o.guard=ν:=⟨_,rfl,rfl,rfl,rfl⟩
def abr:∃o,dt[11]?=φ o/\o.op=.store 24 (.tmp 316) (.tmp 315)/\o.dst=ν/\o.guard=ν:=⟨_,rfl,rfl,rfl,rfl⟩
def Yg:waits dt 1=[0]:=by kernel_rfl
def Jp:waits dt 4=[2,3]:=by kernel_rfl
def Qu:waits dt 7=[5,6]:=by kernel_rfl
def Qv:waits dt 8=[4,7]:=by kernel_rfl
def Qw:waits dt 9=[1,8,6]:=by kernel_rfl
def FP:waits dt 10=[0,1,2,3,4,5,6,7,8,9]:=by kernel_rfl
def Jo:10∈waits dt 11:=List.contains_iff_mem.1 (by kernel_rfl)
def wlt:(ϸ 12).all (λi=>(waits dt i).all λd=>decide (d<i))=θ:=by kernel_rfl
def Lm{l:Array Bool}(h:Aka .any dt l=[]):∀i,i<12->l.getD i θ=θ:=by
 intro i;induction i using Nat.strongRecOn with
 |_ i ih=>
  intro hi;cases hb:l.getD i θ with
  |true=>rfl
  |false=>
   have:i∈Aka .any dt l:=IX.2 ⟨by rw[By];exact hi,hb,λd hd=>by
    have al:d<i:=by
     have:=Akh.1 (Akh.1 wlt i (Ahy.2 hi)) d hd;simpa using this
    have:=ih d al (by omega)
    have hs:i<l.size:=by
     apply Classical.byContradiction;intro hn;rw[Aaa,Aan (by omega)] at hb
     cases hb
    rw[Aaa,Ϟ.2 ⟨by omega,rfl⟩] at this |-
    exact this⟩
   rw[h] at this;cases this
def GP{l:Array Bool}{i:Nat}(h:i<l.size)(d e:Bool):l.getD i d=l.getD i e:=by
 rw[Aaa,Aaa,Ϟ.2 ⟨h,rfl⟩];rfl
def Mm{l:Array Bool}{i:Nat}(h:i<l.size)(d:Bool):(l.setIfInBounds i θ).getD i d=θ:=by
 rw[Aaa,Aai,if_pos rfl,if_pos h];rfl
def aaT{l:Array Bool}{i n:Nat}(hc:l.toList.countP id=n)(hi:i<l.size)(hb:l.getD i θ=χ):(l.setIfInBounds i θ).toList.countP id=n+1:=by
 rw[Array.toList_setIfInBounds,List.countP_set (by simpa using hi)]
 have e:l.toList[i]'(by simpa using hi)=χ:=by
  rw[Aaa,Ϟ.2 ⟨hi,rfl⟩] at hb
  simpa using hb
 rw[e,hc];simp
def aaS{l:Array Bool}(h:l.toList.countP id=12)(hs:l.size=12):Aka .any dt l=[]:=by
 rw[List.eq_nil_iff_forall_not_mem];intro i hi;obtain⟨h1,h2,-⟩:=IX.1 hi;rw[By] at h1;have:=List.countP_eq_length.1 (h.trans (by simpa using hs.symm:12=l.toList.length)) (l[i]'(by omega)) (by simp)
 rw[Aaa,Ϟ.2 ⟨by omega,rfl⟩] at h2
 simp only[id,Akq] at this h2;rw[this] at h2;cases h2
end Go.Jn
namespace Go.Jn
open Go Go.Proofs Go.Sim Go.Conc Go.Tw Go.RowKit
section
variable [Go.Tw.aR]
def FV(gE gt k:Nat)(W:Ψ)(v:υ):Prop:=match k with
 |0=>v=π (φ ⟨gE,3,ν⟩)
 |1=>v=ζ (φ ⟨gt,0,ν⟩) 1 1
 |2=>∃b,v=ζ (φ ⟨b,0,ν⟩) 1 1/\Bk W b 3 #[ξ κ 0]
 |3=>v=η #[ξ κ 4,ξ κ 4]
 |4=>∃b,v=η #[ζ (φ ⟨b,0,ν⟩) 1 1,ξ κ 4,ξ κ 4]/\Bk W b 3 #[ξ κ 0]
 |5=>∃b,v=ζ (φ ⟨b,0,ν⟩) 1 1/\Bk W b 3 #[ξ κ 2]
 |6=>v=η #[ξ κ 2,ξ κ 2]
 |7=>∃b,v=η #[ζ (φ ⟨b,0,ν⟩) 1 1,ξ κ 2,ξ κ 2]/\Bk W b 3 #[ξ κ 2]
 |_=>∃d b c,v=ζ (φ ⟨d,0,ν⟩) 2 2/\Bk W d 95 #[ζ (φ ⟨b,0,ν⟩) 1 1,ξ κ 4,ξ κ 4,ζ (φ ⟨c,0,ν⟩) 1 1,ξ κ 2,ξ κ 2]/\Bk W b 3 #[ξ κ 0]/\Bk W c 3 #[ξ κ 2]
def FV.below{gE gt k:Nat}{W W':Ψ}{v:υ}(h:FV gE gt k W v)(hb:Γ W.heap.size W W'):FV gE gt k W' v:=by
 have up:∀ {g t cs},Bk W g t cs->Bk W' g t cs:=λh=>h.below hb h.lt
 unfold FV at *;split at h<;>first
  |exact h
  | (obtain⟨b,e,h⟩:=h;exact⟨b,e,up h⟩)
  | (obtain⟨d,b,c,e,h1,h2,h3⟩:=h;exact⟨d,b,c,e,up h1,up h2,up h3⟩)
def BK(W:Ψ)(gE gp gb:Nat)(v:υ):Prop:=Bk W gE 26 #[ξ κ 1,ζ (φ ⟨gp,0,ν⟩) 3 3,ζ (φ ⟨gb,0,ν⟩) 2 2,v]
def QT(gE gp gb:Nat)(v25:υ)(W:Ψ)(v:υ):Prop:=∃A n c,v=.slice A n c/\BK W gE gp gb (.slice A n c)/\bg W W.heap.size zS (ζ (φ ⟨gp,0,ν⟩) 3 3) (ζ (φ ⟨gb,0,ν⟩) 2 2) (.slice A n c)/\Row W W.heap.size 2 Cut.R v25 mr
def Lb(gE gp gb gt:Nat)(v25:υ)(W:Ψ)(v:υ):Prop:=BK W gE gp gb (ζ (φ ⟨gt,0,ν⟩) 1 1)/\QT gE gp gb v25 (W.setCell ⟨gE,3,ν⟩ v) v
structure zr(m:List (Nat×υ))(w:Ψ)(gE gp gb gt:Nat)(v25:υ)(n:Nat)(l:Array Bool)(a:Act)(W:Ψ):Prop where
 sz:l.size=12
 cnt:l.toList.countP id=n
 cl:∀k,l.getD k χ=θ->∀d∈waits dt k,l.getD d χ=θ
 sl:Sl m a
 ph:(l.getD 9 χ=χ/\Γ w.heap.size w W/\∀k,k<9->l.getD k χ=θ->∃v,a.tmps[306+k]?=φ v/\FV gE gt k W v)\/
  (l.getD 9 χ=θ/\l.getD 10 χ=χ/\∃v,a.tmps[315]?=φ v/\Lb gE gp gb gt v25 W v)\/
  (l.getD 10 χ=θ/\l.getD 11 χ=χ/\∃v,a.tmps[315]?=φ v/\a.tmps[316]?=φ (π (φ ⟨gE,3,ν⟩))/\Lb gE gp gb gt v25 W v)\/
  (l.getD 11 χ=θ/\∃v,QT gE gp gb v25 W v)
def PT{m:List (Nat×υ)}{a:Act}(h:Sl m a)(hm:∀p∈m,p.1<306){d:Nat}(hd:306<=d)(v:υ):Sl m (a.put (φ d) v):=by
 refine⟨h.1,by simpa [Act.put] using h.2.1,λp hp=>?_⟩
 have:=h.2.2 p hp;have:=hm p hp;simp only[Act.put];rw[Aai,if_neg (by omega)]
 exact h.2.2 p hp
section
variable {m:List (Nat×υ)}{w:Ψ}{gE gp gb gt:Nat}{v25:υ}{n:Nat}{l:Array Bool}{a:Act}{W:Ψ}
def zr.next(h:zr m w gE gp gb gt v25 n l a W){i:Nat}(hi:i∈Aka .any dt l):
 (l.setIfInBounds i θ).size=12/\(l.setIfInBounds i θ).toList.countP id=n+1/\(∀k,(l.setIfInBounds i θ).getD k χ=θ->∀d∈waits dt k,(l.setIfInBounds i θ).getD d χ=θ):=by
 obtain⟨h1,h2,h3⟩:=IX.1 hi;rw[By] at h1;have hs:=h.sz;refine⟨by simpa using hs,aaT h.cnt (by omega) h2,λk hk d hd=>?_⟩
 by_cases qu:i=k
 ·subst qu
  exact getD_set_true (h3 d hd)
 ·rw[Akw χ qu] at hk
  exact getD_set_true (h.cl k hk d hd)
def zr.one(h:zr m w gE gp gb gt v25 n l a W)(hm:∀p∈m,p.1<306)(h9:l.getD 9 χ=χ)(hb:Γ w.heap.size w W)(hf:∀k,k<9->l.getD k χ=θ->∃v,a.tmps[306+k]?=φ v/\FV gE gt k W v)
 {i:Nat}(hi:i∈Aka .any dt l)(DC:i<9){v:υ}{W':Ψ}(hW:Γ W.heap.size W W')(hv:FV gE gt i W' v):
 zr m w gE gp gb gt v25 (n+1) (l.setIfInBounds i θ) (a.put (φ (306+i)) v) W':=by
 obtain⟨n1,n2,n3⟩:=h.next hi;refine⟨n1,n2,n3,PT h.sl hm (by omega) v,.inl ⟨by rw[Akw χ (by omega)];exact h9,hb.trans (hW.mono hb.size),λk hk hl=>?_⟩⟩
 simp only[Act.put];by_cases qu:i=k
 ·subst qu
  have hs:=h.sl.2.1;exact⟨v,by rw[Aai,if_pos rfl,if_pos (by omega)],hv⟩
 ·rw[Akw χ qu] at hl
  obtain⟨u,hu,hfu⟩:=hf k hk hl;exact⟨u,by rw[Aai,if_neg (by omega)];exact hu,hfu.below hW⟩
def yZ{o:Ϝ}{i:Nat}{K:Act->Ψ->Prop}{Q:Exit->Act->Ψ->Prop}(ho:dt[i]?=φ o)(hg:o.guard=ν)(h:Oper.wp prog o a W K Q):wpOp prog dt Q i K a W:=by
 unfold wpOp;rw[ho];simp only[bI hg,if_true];exact .inl h
def ev{k:Nat}{v:υ}(h:a.tmps[k]?=φ v):a.eval (.tmp k)=v:=by
 unfold Act.eval;simp[h]
def X3{i d:Nat}{o:Ϝ}{K:Act->Ψ->Prop}{Q:Exit->Act->Ψ->Prop}(ho:dt[i]?=φ o)(ab:o.op=.fieldAddr 26 (.tmp 1) 3)(hd:o.dst=φ d)(hg:o.guard=ν)(h1:a.tmps[1]?=φ (π (φ ⟨gE,0,ν⟩)))(h:K (a.put (φ d) (π (φ ⟨gE,3,ν⟩))) W):wpOp prog dt Q i K a W:=by
 refine yZ ho hg ?_
 have e:=ev h1;obtain⟨d,op,ty,ps,af,gu⟩:=o;simp only at ab hd hg;subst ab hd hg;clear ho;go_simp;exact h
def amO{K:Act->Ψ->Prop}{Q:Exit->Act->Ψ->Prop}(h1:a.tmps[306]?=φ (π (φ ⟨gE,3,ν⟩)))(hc: W.cell? ⟨gE,3,ν⟩=φ (ζ (φ ⟨gt,0,ν⟩) 1 1))(h:K (a.put (φ 307) (ζ (φ ⟨gt,0,ν⟩) 1 1)) W):wpOp prog dt Q 1 K a W:=by
 obtain⟨o,ho,ab,hd,hg⟩:=abp;refine yZ ho hg ?_
 have e:=ev h1;obtain⟨d,op,ty,ps,af,gu⟩:=o;simp only at ab hd hg;subst ab hd hg;clear ho;go_simp;exact h
def X4{i d:Nat}{o:Ϝ}{z:Int}{K:Act->Ψ->Prop}{Q:Exit->Act->Ψ->Prop}(ho:dt[i]?=φ o)(ab:o.op=.buildSlice 33 1 #[(0,.const (ξ κ z))])(hd:o.dst=φ d)(hg:o.guard=ν)(h:K (a.put (φ d) (ζ (φ ⟨W.heap.size,0,ν⟩) 1 1)) (W.alloc (Ξ #[ξ κ z] 3))):wpOp prog dt Q i K a W:=by
 refine yZ ho hg ?_
 obtain⟨d,op,ty,ps,af,gu⟩:=o;simp only at ab hd hg;subst ab hd hg;clear ho;go_simp;exact h
def X5{i d:Nat}{o:Ϝ}{z:Int}{K:Act->Ψ->Prop}{Q:Exit->Act->Ψ->Prop}(ho:dt[i]?=φ o)(ab:o.op=.call {callee:=.value (.func 50),args:=#[.const (ξ κ z)],argTypes:=#[3]})(hd:o.dst=φ d)(hg:o.guard=ν)(h:K (a.put (φ d) (η #[ξ κ z,ξ κ z])) (W.alloc (Ξ #[ξ κ z,ξ κ z] 37))):wpOp prog dt Q i K a W:=by
 refine yZ ho hg ?_
 obtain⟨d,op,ty,ps,af,gu⟩:=o;simp only at ab hd hg;subst ab hd hg;clear ho;go_simp
 go_at_call 50
 refine(Bc _ _).mono ?_
 rintro e w1 ⟨rfl,rfl⟩;exact h
def X6{i d s1 s2:Nat}{o:Ϝ}{b:Nat}{z:Int}{K:Act->Ψ->Prop}{Q:Exit->Act->Ψ->Prop}(ho:dt[i]?=φ o)(ab:o.op=.build 95 #[(0,.tmp s1),(1,.tmp s2)])(hd:o.dst=φ d)(hg:o.guard=ν)(h1:a.tmps[s1]?=φ (ζ (φ ⟨b,0,ν⟩) 1 1))(h2:a.tmps[s2]?=φ (η #[ξ κ z,ξ κ z]))(h:K (a.put (φ d) (η #[ζ (φ ⟨b,0,ν⟩) 1 1,ξ κ z,ξ κ z])) W):wpOp prog dt Q i K a W:=by
 refine yZ ho hg ?_
 have e:=ev h1;have e':=ev h2;obtain⟨d,op,ty,ps,af,gu⟩:=o;simp only at ab hd hg;subst ab hd hg;clear ho;go_simp;exact h
def amQ{b c:Nat}{K:Act->Ψ->Prop}{Q:Exit->Act->Ψ->Prop}(h1:a.tmps[310]?=φ (η #[ζ (φ ⟨b,0,ν⟩) 1 1,ξ κ 4,ξ κ 4]))(h2:a.tmps[313]?=φ (η #[ζ (φ ⟨c,0,ν⟩) 1 1,ξ κ 2,ξ κ 2]))
 (h:K (a.put (φ 314) (ζ (φ ⟨W.heap.size,0,ν⟩) 2 2)) (W.alloc (Ξ #[ζ (φ ⟨b,0,ν⟩) 1 1,ξ κ 4,ξ κ 4,ζ (φ ⟨c,0,ν⟩) 1 1,ξ κ 2,ξ κ 2] 95))):wpOp prog dt Q 8 K a W:=by
 obtain⟨o,ho,ab,hd,hg⟩:=abz;refine yZ ho hg ?_
 have e:=ev h1;have e':=ev h2;obtain⟨d,op,ty,ps,af,gu⟩:=o;simp only at ab hd hg;subst ab hd hg;clear ho;go_simp;exact h
def amP{A:Option ϕ}{k c:Nat}{u:υ}{K:Act->Ψ->Prop}{Q:Exit->Act->Ψ->Prop}(h1:a.tmps[316]?=φ (π (φ ⟨gE,3,ν⟩)))(h2:a.tmps[315]?=φ (.slice A k c))(hc: W.cell? ⟨gE,3,ν⟩=φ u)(hf: W.frozen? ⟨gE,3,ν⟩=χ)(h:K a (W.setCell ⟨gE,3,ν⟩ (.slice A k c))):wpOp prog dt Q 11 K a W:=by
 obtain⟨o,ho,ab,hd,hg⟩:=abr;refine yZ ho hg ?_
 have e:=ev h1;have e':=ev h2;obtain⟨d,op,ty,ps,af,gu⟩:=o;simp only at ab hd hg;subst ab hd hg;clear ho;go_simp;exact h
def amN{w0:Ψ}{gk gl gc g3 b:Nat}{bZ:Option ϕ}{n25 b6:Nat}{K:Act->Ψ->Prop}{Q:Exit->Act->Ψ->Prop}(hx:jo w0 w gE gp gb gk gt gl gc g3)(gO:cW w (λk=>k=gE\/k=gt) 2 Cut.R (.slice bZ n25 b6) mr)
 (hb:Γ w.heap.size w W){g1 g2:Nat}(h1:a.tmps[307]?=φ (ζ (φ ⟨gt,0,ν⟩) 1 1))(h2:a.tmps[314]?=φ (ζ (φ ⟨b,0,ν⟩) 2 2))
 (hn:Bk W b 95 #[ζ (φ ⟨g1,0,ν⟩) 1 1,ξ κ 4,ξ κ 4,ζ (φ ⟨g2,0,ν⟩) 1 1,ξ κ 2,ξ κ 2])(b1:Bk W g1 3 #[ξ κ 0])(b2:Bk W g2 3 #[ξ κ 2])
 (h:∀v w',Lb gE gp gb gt (.slice bZ n25 b6) w' v->K (a.put (φ 315) v) w'):wpOp prog dt Q 9 K a W:=by
 obtain⟨o,ho,ab,hd,hg⟩:=abA;obtain⟨i0,cR,cT,aN,ba⟩:=info_parts Oq;have ape:w.ownsRow w0.heap.size 95 3 (ζ (φ ⟨gt,0,ν⟩) 1 1) 1 [ζ (φ ⟨gl,0,ν⟩) 2 2,ξ κ 7,ξ κ 7]:=
  ⟨rfl,.inr ⟨gt,1,_,rfl,hx.ex.ht,hx.ex.t,ϊ _,by unfold maxLen;omega,rfl,rfl⟩⟩
 have ajs:W.ownsRow w0.heap.size 95 3 (ζ (φ ⟨gt,0,ν⟩) 1 1) 1 [ζ (φ ⟨gl,0,ν⟩) 2 2,ξ κ 7,ξ κ 7]:=
  ⟨rfl,.inr ⟨gt,1,_,rfl,hx.ex.ht,hx.ex.t.below hb hx.ex.t.lt,ϊ _,by unfold maxLen;omega,rfl,rfl⟩⟩
 have lw:w0.heap.size<=W.heap.size:=Ϥ hx.below.size hb.size;refine wpOp_step ho λK' hK=>?_
 refine ug (Q:=Q) hg (.tmp 307) (.tmp 314) 24 ab w0.heap.size 95 i0 (η #[ζ ν 0 0,ξ κ 0,ξ κ 0]) 3 40 (U Tryz.underlying24) cR cT aN ba rfl (by decide) (ζ (φ ⟨gt,0,ν⟩) 1 1) 1 _ (ev h1) ajs ⟨b,0,ν⟩ 2 2
  [ζ (φ ⟨g1,0,ν⟩) 1 1,ξ κ 4,ξ κ 4,ζ (φ ⟨g2,0,ν⟩) 1 1,ξ κ 2,ξ κ 2] (ev h2) rfl (λj u hu=>by
    rw[nu];have:=hn.cell j;exact(by simpa using this.trans (by simpa using hu))) (by simp[Value.oneCell']) (by simp only[maxLen];omega) (by omega) lw ?_
 intro v' w6 aG dS;rw[hd];refine hK _ _ (h _ _ ?_)
 obtain⟨hE,uY,hB,hR⟩:=amd hx hb b1 b2 aG dS;obtain⟨A',n',c',rfl⟩:=pw aG;exact⟨hE,A',n',c',rfl,uY,hB,(hR gO).row⟩
end
set_option maxRecDepth 4000 in
def akJ{gE gp gb gk gt gl gc g3:Nat}{bZ:Option ϕ}{n25 b6:Nat}{a:Act}{w0 w:Ψ}(hs:Sl [(1,π (φ ⟨gE,0,ν⟩)),(5,ξ κ 0),(7,ξ κ 0),(25,.slice bZ n25 b6),(26,ξ κ 1)] a)
 (hx:jo w0 w gE gp gb gk gt gl gc g3)(gO:cW w (λk=>k=gE\/k=gt) 2 Cut.R (.slice bZ n25 b6) mr):
 sw.wp prog (dP λa W=>∃A n c,Sl [(1,π (φ ⟨gE,0,ν⟩)),(5,ξ κ 0),(7,ξ κ 0),(25,.slice bZ n25 b6),(26,ξ κ 1)] a/\
  Bk W gE 26 #[ξ κ 1,ζ (φ ⟨gp,0,ν⟩) 3 3,ζ (φ ⟨gb,0,ν⟩) 2 2,.slice A n c]/\bg W W.heap.size zS (ζ (φ ⟨gp,0,ν⟩) 3 3) (ζ (φ ⟨gb,0,ν⟩) 2 2) (.slice A n c)/\Row W W.heap.size 2 Cut.R (.slice bZ n25 b6) mr) a w:=by
 rw[al7];refine wp_region_any (by kernel_rfl) ?_
 have hm:∀p∈([(1,π (φ ⟨gE,0,ν⟩)),(5,ξ κ 0),(7,ξ κ 0),(25,.slice bZ n25 b6),(26,ξ κ 1)]:List (Nat×υ)),p.1<306:=by simp
 refine anb (zr [(1,π (φ ⟨gE,0,ν⟩)),(5,ξ κ 0),(7,ξ κ 0),(25,.slice bZ n25 b6),(26,ξ κ 1)] w gE gp gb gt (.slice bZ n25 b6)) ?step ?fin (λl a w h=>aaS (by rw[h.cnt,By]) h.sz) dt.size 0 _ a _ (by omega) ?start
 case start=>
  rw[By];exact⟨by simp,by simp,λk hk=>by simp[Akt] at hk;split at hk<;>simp at hk,hs,.inl ⟨by simp,iY (Akx _ _),λk _ hk=>by simp[Akt] at hk;split at hk<;>simp at hk⟩⟩
 case fin=>
  intro n l a W h hr;have uX:=GP (l:=l) (i:=11) (by rw[h.sz];omega) θ χ
  have oY:=GP (l:=l) (i:=10) (by rw[h.sz];omega) θ χ
  have h9:=GP (l:=l) (i:=9) (by rw[h.sz];omega) θ χ
  rw[Lm hr 11 (by omega)] at uX
  rw[Lm hr 10 (by omega)] at oY
  rw[Lm hr 9 (by omega)] at h9
  rcases h.ph with h'|h'|h'| ⟨-,v,A,n,c,rfl,h1,h2,h3⟩
  ·rw[<-h9] at h';cases h'.1
  ·rw[<-oY] at h';cases h'.2.1
  ·rw[<-uX] at h';cases h'.2.1
  ·exact⟨A,n,c,h.sl,h1,h2,h3⟩
 case step=>
  intro n l a W i K h hi hK;obtain⟨Dz,vm,fZ⟩:=IX.1 hi;rw[By] at Dz;have e1:a.tmps[1]?=φ (π (φ ⟨gE,0,ν⟩)):=h.sl.get (by simp)
  have Nz:=h.sz;have il:=h.sl.2.1;have eK:l.getD i χ=χ:=(GP (by omega) _ _).trans vm
  rcases h.ph with⟨h9,hb,hf⟩ | ⟨h9,oY,v,hv,hM⟩ | ⟨oY,uX,v,hv,hp,hM⟩ | ⟨uX,v,hF⟩
  ·have one:=λ{v:υ} {W':Ψ} (DC:i<9) (hW:Γ W.heap.size W W') (hv:FV gE gt i W' v)=>hK _ _ (h.one hm h9 hb hf hi DC hW hv)
   match i,Dz with
   |0,_=>obtain⟨o,ho,ab,hd,hg⟩:=abo;exact X3 ho ab hd hg e1 (one (by omega) (Akx _ _) rfl)
   |1,_=>
    obtain⟨v,hv,Ea⟩:=hf 0 (by omega) (fZ 0 (by rw[Yg];simp))
    exact amO (hv.trans (congrArg φ Ea)) ((hx.bE.below hb hx.bE.lt).cell 3) (one (by omega) (Akx _ _) rfl)
   |2,_=>obtain⟨o,ho,ab,hd,hg⟩:=abt;exact X4 ho ab hd hg (one (by omega) ((Akx _ _).alloc (ϊ _) _) ⟨_,rfl,Bk.new _ _ _⟩)
   |3,_=>obtain⟨o,ho,ab,hd,hg⟩:=abu;exact X5 ho ab hd hg (one (by omega) ((Akx _ _).alloc (ϊ _) _) rfl)
   |4,_=>
    obtain⟨v,hv,b,rfl,h1⟩:=hf 2 (by omega) (fZ 2 (by rw[Jp];simp))
    obtain⟨u,hu,rfl⟩:=hf 3 (by omega) (fZ 3 (by rw[Jp];simp))
    obtain⟨o,ho,ab,hd,hg⟩:=abv;exact X6 ho ab hd hg hv hu (one (by omega) (Akx _ _) ⟨b,rfl,h1⟩)
   |5,_=>obtain⟨o,ho,ab,hd,hg⟩:=abw;exact X4 ho ab hd hg (one (by omega) ((Akx _ _).alloc (ϊ _) _) ⟨_,rfl,Bk.new _ _ _⟩)
   |6,_=>obtain⟨o,ho,ab,hd,hg⟩:=abx;exact X5 ho ab hd hg (one (by omega) ((Akx _ _).alloc (ϊ _) _) rfl)
   |7,_=>
    obtain⟨v,hv,b,rfl,h1⟩:=hf 5 (by omega) (fZ 5 (by rw[Qu];simp))
    obtain⟨u,hu,rfl⟩:=hf 6 (by omega) (fZ 6 (by rw[Qu];simp))
    obtain⟨o,ho,ab,hd,hg⟩:=aby;exact X6 ho ab hd hg hv hu (one (by omega) (Akx _ _) ⟨b,rfl,h1⟩)
   |8,_=>
    obtain⟨v,hv,b,rfl,h1⟩:=hf 4 (by omega) (fZ 4 (by rw[Qv];simp))
    obtain⟨u,hu,c,rfl,h2⟩:=hf 7 (by omega) (fZ 7 (by rw[Qv];simp))
    have hB:Γ W.heap.size W (W.alloc (Ξ #[ζ (φ ⟨b,0,ν⟩) 1 1,ξ κ 4,ξ κ 4,ζ (φ ⟨c,0,ν⟩) 1 1,ξ κ 2,ξ κ 2] 95)):=(Akx _ _).alloc (ϊ _) _;exact amQ hv hu (one (by omega) hB ⟨_,b,c,rfl,Bk.new _ _ _,h1.below hB h1.lt,h2.below hB h2.lt⟩)
   |9,_=>
    obtain⟨v,hv,rfl⟩:=hf 1 (by omega) (fZ 1 (by rw[Qw];simp))
    obtain⟨u,hu,d,b,c,rfl,h0,h1,h2⟩:=hf 8 (by omega) (fZ 8 (by rw[Qw];simp))
    obtain⟨n1,n2,n3⟩:=h.next hi;refine amN hx gO hb hv hu h0 h1 h2 λv w' hM=>hK _ _ ⟨n1,n2,n3,PT h.sl hm (by omega) v,.inr (.inl ⟨Mm (by omega) _,?_,v,?_,hM⟩)⟩
    ·rw[Akw χ (by omega)]
     cases oY:l.getD 10 χ with
     |false=>rfl
     |true=>rw[h.cl 10 oY 9 (by rw[FP];simp)] at h9;cases h9
    ·simp only[Act.put]
     rw[Aai,if_pos rfl,if_pos (by omega)]
   |10,_=>rw[fZ 9 (by rw[FP];simp)] at h9;cases h9
   |11,_=>rw[h.cl 10 (fZ 10 Jo) 9 (by rw[FP];simp)] at h9;cases h9
  ·have c8:=h.cl 9 h9
   rw[Qw] at c8;have f8:=c8 8 (by simp)
   have f1:=c8 1 (by simp)
   have f6:=c8 6 (by simp)
   have c4:=h.cl 8 f8;rw[Qv] at c4;have f4:=c4 4 (by simp)
   have f7:=c4 7 (by simp)
   have f0:=h.cl 1 f1 0 (by rw[Yg];simp)
   have f2:=h.cl 4 f4 2 (by rw[Jp];simp)
   have f3:=h.cl 4 f4 3 (by rw[Jp];simp)
   have f5:=h.cl 7 f7 5 (by rw[Qu];simp)
   match i,Dz with
   |0,_=>rw[f0] at eK;cases eK
   |1,_=>rw[f1] at eK;cases eK
   |2,_=>rw[f2] at eK;cases eK
   |3,_=>rw[f3] at eK;cases eK
   |4,_=>rw[f4] at eK;cases eK
   |5,_=>rw[f5] at eK;cases eK
   |6,_=>rw[f6] at eK;cases eK
   |7,_=>rw[f7] at eK;cases eK
   |8,_=>rw[f8] at eK;cases eK
   |9,_=>rw[h9] at eK;cases eK
   |10,_=>
    obtain⟨n1,n2,n3⟩:=h.next hi;obtain⟨o,ho,ab,hd,hg⟩:=abq;refine X3 ho ab hd hg e1 (hK _ _ ⟨n1,n2,n3,PT h.sl hm (by omega) _,.inr (.inr (.inl ⟨Mm (by omega) _,?_,v,?_,?_,hM⟩))⟩)
    ·rw[Akw χ (by omega)]
     cases uX:l.getD 11 χ with
     |false=>rfl
     |true=>rw[h.cl 11 uX 10 Jo] at oY;cases oY
    ·simp only[Act.put]
     rw[Aai,if_neg (by omega)];exact hv
    ·simp only[Act.put]
     rw[Aai,if_pos rfl,if_pos (by omega)]
   |11,_=>rw[fZ 10 Jo] at oY;cases oY
  ·have c10:=h.cl 10 oY
   rw[FP] at c10;have adq:i=11:=by
    apply Classical.byContradiction;intro aw;rcases Nat.lt_or_ge i 10 with h'|h'
    ·have:=c10 i (by simp;omega)
     rw[this] at eK;cases eK
    ·have:i=10:=by omega
     subst this;rw[oY] at eK;cases eK
   subst adq;obtain⟨n1,n2,n3⟩:=h.next hi;obtain⟨hE,A,k,c,rfl,hF⟩:=hM;have uY:Bk W gE 26 _:=hE;exact amP hp hv (uY.cell 3) (uY.frozen 3) (hK _ _ ⟨n1,n2,n3,h.sl,.inr (.inr (.inr ⟨Mm (by omega) _,_,A,k,c,rfl,hF⟩))⟩)
  ·have wY:=h.cl 11 uX 10 Jo
   have c10:=h.cl 10 wY;rw[FP] at c10;exfalso;rcases Nat.lt_or_ge i 10 with h'|h'
   ·have:=c10 i (by simp;omega)
    rw[this] at eK;cases eK
   ·have:i=10\/i=11:=by omega
    rcases this with rfl|rfl
    ·rw[wY] at eK;cases eK
    ·rw[uX] at eK;cases eK
end
end Go.Jn
namespace Go.Jn
open Go Go.Proofs Go.Sim Go.Conc Go.Tw Go.RowKit
section
variable [Go.Tw.aR]
set_option maxRecDepth 400000 in
def ak4(w:Ψ)(x:Nat->υ):eX prog [ui,uj,uk] (dP (FA w)) ⟨(lit x).toArray,[cQ]⟩ w:=by
 unfold lit;unfold eX eX eX eX;simp only[ui,uj,uk,gT,gS,gR,hJ,Tryz.f21,bO,a8,Akq];go_wp2_with (first
  | (go_at_call 94;refine(acn _).mono ?_;rintro e w1 ⟨gp,gb,gk,gt,gl,rfl,hex,ae⟩
     have HX:=ψ (And.intro hex ae);clear hex ae)
  | (go_at_call 95;refine(abb _).mono ?_;rintro e w2 ⟨gc,rfl,xP,ef,ak⟩
     have Rf:=ψ (And.intro xP (And.intro ef ak));clear xP ef ak))
 have vc:Bk (w2.alloc (Ξ #[ξ κ 1,ζ (φ ⟨gp,0,ν⟩) 3 3,ζ (φ ⟨gb,0,ν⟩) 2 2,ζ (φ ⟨gt,0,ν⟩) 1 1] 26)) gc 56 #[ξ κ 1,ξ κ 0,ξ κ 0,ξ κ 0,ξ κ 0,ξ κ 4]:=Rf.e.2.1.alloc _;have Mx:Bk (w2.alloc (Ξ #[ξ κ 1,ζ (φ ⟨gp,0,ν⟩) 3 3,ζ (φ ⟨gb,0,ν⟩) 2 2,ζ (φ ⟨gt,0,ν⟩) 1 1] 26)) w2.heap.size 26 #[ξ κ 1,ζ (φ ⟨gp,0,ν⟩) 3 3,ζ (φ ⟨gb,0,ν⟩) 2 2,ζ (φ ⟨gt,0,ν⟩) 1 1]:=Bk.new _ _ _;have xF:Γ w2.heap.size w2 (w2.alloc (Ξ #[ξ κ 1,ζ (φ ⟨gp,0,ν⟩) 3 3,ζ (φ ⟨gb,0,ν⟩) 2 2,ζ (φ ⟨gt,0,ν⟩) 1 1] 26)):=(Akx _ _).alloc (ϊ _) _;generalize (w2.alloc (Ξ #[ξ κ 1,ζ (φ ⟨gp,0,ν⟩) 3 3,ζ (φ ⟨gb,0,ν⟩) 2 2,ζ (φ ⟨gt,0,ν⟩) 1 1] 26))=V at vc Mx xF |-
 have c0: V.cell? ⟨gc,0,ν⟩=φ (ξ κ 1):=vc.cell 0;have c1: V.cell? ⟨gc,1,ν⟩=φ (ξ κ 0):=vc.cell 1;have c2: V.cell? ⟨gc,2,ν⟩=φ (ξ κ 0):=vc.cell 2;have c3: V.cell? ⟨gc,3,ν⟩=φ (ξ κ 0):=vc.cell 3;have lc:gc<V.heap.size:=vc.lt;have lc':gc<=V.heap.size:=by omega
 have HV:=ψ (And.intro vc (And.intro Mx xF));clear vc Mx xF;go_region_with (go_at_call 66;refine(di _ _ _).mono ?_;rintro e w3 ⟨rfl,rfl⟩)
 all_goals
  show FA w _ _;refine⟨rfl,rfl,rfl,_,gp,gb,gk,gt,gl,gc,_,rfl,rfl,rfl,?_⟩
  have eC:=Rf.e.2.2;have aN:=HX.e.2.size;have ba:=eC.size;have h0:wL V w.heap.size gp gb gk gt gl:=⟨(HX.e.1.p.below eC HX.e.1.p.lt).below HV.e.2.2 (HX.e.1.p.below eC HX.e.1.p.lt).lt,(HX.e.1.b.below eC HX.e.1.b.lt).below HV.e.2.2 (HX.e.1.b.below eC HX.e.1.b.lt).lt,(HX.e.1.k.below eC HX.e.1.k.lt).below HV.e.2.2 (HX.e.1.k.below eC HX.e.1.k.lt).lt,(HX.e.1.t.below eC HX.e.1.t.lt).below HV.e.2.2 (HX.e.1.t.below eC HX.e.1.t.lt).lt,(HX.e.1.l.below eC HX.e.1.l.lt).below HV.e.2.2 (HX.e.1.l.below eC HX.e.1.l.lt).lt,HX.e.1.hp,HX.e.1.hb,HX.e.1.hk,HX.e.1.ht,HX.e.1.hl⟩;have cF:Γ w.heap.size w V:=(HX.e.2.trans (eC.mono aN)).trans (HV.e.2.2.mono (by omega))
  exact acs h0 HV.e.2.1 HV.e.1 cF (by omega)
def FD(w0:Ψ)(a:Act)(w:Ψ):Prop:=∃gE gp gb gk gt gl gc g3 dk n22 c22 bZ n25 b6 er n28 ew iW n31 iZ,
 Sl [(0,.bool χ),(1,π (φ ⟨gE,0,ν⟩)),(2,ζ (φ ⟨gc,0,ν⟩) 3 3),(3,ζ (φ ⟨g3,0,ν⟩) 3 3),(5,ξ κ 0),(7,ξ κ 0),(9,ξ κ 0),(11,ξ κ 0),(13,ξ κ 0),(15,ξ κ 0),(20,ξ κ 1),(21,ξ κ 0),(22,.slice dk n22 c22),(23,ζ ν 0 0),(24,ξ κ 8),(25,.slice bZ n25 b6),(26,ξ κ 2),(27,.bool θ),(28,.slice er n28 ew),(29,ξ κ 14),(30,.bool θ),(31,.slice iW n31 iZ)] a/\
 jo w0 w gE gp gb gk gt gl gc g3/\Row w w.heap.size 1 cH (.slice dk n22 c22) [1,1]/\Row w w.heap.size 2 Cut.R (.slice bZ n25 b6) dQ/\Row w w.heap.size 2 Cut.R (.slice er n28 ew) dQ/\Row w w.heap.size 1 cH (.slice iW n31 iZ) [0,1]
def FE(a:Act)(w:Ψ):Prop:=∃bZ n25 b6 kP n35 jd,Sl [(5,ξ κ 0),(7,ξ κ 0),(9,ξ κ 0),(25,.slice bZ n25 b6),(26,ξ κ 1),(35,.slice kP n35 jd)] a/\
 Row w w.heap.size 2 Cut.R (.slice bZ n25 b6) mr/\Row w w.heap.size 1 cH (.slice kP n35 jd) [0,1,2]
def abY:zM zS=[0,1,2]:=by decide+kernel
def I2{α:Type}{w:Ψ}{B sz:Nat}{R:α->List υ->Prop}{v:υ}{xs:List α}(h:Row w B sz R v xs):∃A n c,v=.slice A n c:=by
 obtain⟨A,c,e,_⟩:=h;exact⟨A,_,c,e⟩
def ak3{w0:Ψ}(hm:gI w0){a:Act}{w:Ψ}(hf:FD w0 a w):eX prog [we,wh,wj,wm,sw,wu] (dP FE) a w:=by
 obtain⟨gE,gp,gb,gk,gt,gl,gc,g3,dk,n22,c22,bZ,n25,b6,er,n28,ew,iW,n31,iZ,hs,hx,j4,gO,mE,yf⟩:=hf;refine jj (akF (W:=λw'=>Γ w.heap.size w w') hs hx.bE ?c19) ?_
 case c19=>
  refine(Zn (ϊ _) (kY hx.ex) PH).mono ?_
  rintro e w' ⟨rfl,hb⟩;exact⟨by rw[abW],hb⟩
 rintro a w1 ⟨hs,hb⟩;replace hx:=hx.grown hb;replace j4:=ft j4 hb;replace gO:=ft gO hb;replace mE:=ft mE hb;replace yf:=ft yf hb;clear hb;refine jj (akG hs hx.kD j4 gO mE yf) ?_
 rintro a w2 ⟨hs,hb⟩;replace hx:=hx.grown hb;clear hb j4 gO mE yf;refine jj (akH (W:=λAp np cp Ab nb cb At nt ct w'=>bg w' w'.heap.size (fj aW gh) (.slice Ap np cp) (.slice Ab nb cb) (.slice At nt ct)/\Γ w2.heap.size w2 w') hs hx.bE ?c21) ?_
 case c21=>
  refine(Zh (x:=gh) (kv:=ζ ν 0 0) (ϊ _) (kY hx.ex) (by show agE.size<=maxLen;decide) Row.nil xh abU).mono ?_
  rintro e w' ⟨ix,ia,fD,rfl,ai,hb⟩;obtain⟨Ap,np,cp,rfl⟩:=I2 ai.pieces;obtain⟨Ab,nb,cb,rfl⟩:=I2 ai.aF;obtain⟨At,nt,ct,rfl⟩:=I2 ai.aJ;exact⟨Ap,np,cp,Ab,nb,cb,At,nt,ct,rfl,ai,hb⟩
 rintro a w3 ⟨Ap,np,cp,Ab,nb,cb,At,nt,ct,qW,⟨ai,hb⟩,hs,rfl⟩;have ak:Γ w2.heap.size w2 (qW.alloc (Ξ #[ξ κ 1,.slice Ap np cp,.slice Ab nb cb,.slice At nt ct] 26)):=hb.alloc hb.size _;replace hx:=hx.grown ak;have ow:Γ qW.heap.size qW (qW.alloc (Ξ #[ξ κ 1,.slice Ap np cp,.slice Ab nb cb,.slice At nt ct] 26)):=(Akx _ _).alloc (ϊ _) _;have aiq:=ai.still (Δ.aK ow (ϊ _));have hn:Bk (qW.alloc (Ξ #[ξ κ 1,.slice Ap np cp,.slice Ab nb cb,.slice At nt ct] 26)) qW.heap.size 26 #[ξ κ 1,.slice Ap np cp,.slice Ab nb cb,.slice At nt ct]:=Bk.new _ _ _;have aI:qW.heap.size<=(qW.alloc (Ξ #[ξ κ 1,.slice Ap np cp,.slice Ab nb cb,.slice At nt ct] 26)).heap.size:=ow.size;generalize (qW.alloc (Ξ #[ξ κ 1,.slice Ap np cp,.slice Ab nb cb,.slice At nt ct] 26))=w3 at *;refine jj (akI (W:=λA n c w'=>cW w' (λk=>k=gE\/k=gt) 2 Cut.R (.slice A n c) mr/\Γ w3.heap.size w3 w') hs hn ?c22) ?_
 case c22=>
  refine(Md aI aiq (OV hm hx)).mono ?_
  rintro e w' ⟨cv,mv,fv,rfl,aQ,fX⟩;rw[abV] at aQ;obtain⟨ho,rfl,rfl⟩:=aQ;obtain⟨A,k,c,rfl⟩:=j8 ho;have h0:cj (fj aW gh) 0=0:=by decide+kernel
  exact⟨A,k,c,by rw[h0],cW.vO (xs:=mr) ho (λ_=>rfl) (λ_ _=>rfl) (λk hk=>by
   rcases hk with rfl|rfl
   ·exact hx.bE.lt
   ·exact hx.ex.t.lt),fX⟩
 rintro a w4 ⟨Yk,aiJ,afQ,hs,gO,hb⟩;replace hx:=hx.grown hb;clear hb;refine jj (akJ hs hx gO) ?_
 rintro a w5 ⟨At',nt',ct',hs,AX,ad4,hr⟩;refine jj (akK (W:=λA n c w'=>Row w' w'.heap.size 1 cH (.slice A n c) [0,1,2]/\Γ w5.heap.size w5 w') hs AX ?c24) ?_
 case c24=>
  refine(aaq (ϊ _) ad4 acj).mono ?_
  rintro e w' ⟨v,rfl,eI,hb⟩;rw[abY] at eI;obtain⟨A,n,c,rfl⟩:=I2 eI;exact⟨A,n,c,rfl,eI,hb⟩
 rintro a w6 ⟨kP,n35,jd,hs,Hx,hb⟩;exact⟨_,_,_,kP,n35,jd,hs,ft hr hb,Hx⟩
end
end Go.Jn
namespace Go.Jn
open Go Go.Proofs Go.Sim Go.Conc Go.Tw
def mN:Array Ϝ:=opsOf Jf
def al6:∃id,Jf=.region id mN χ:=⟨_,rfl⟩
def n18:mN.size=7:=by decide+kernel
def ai2:∃o,mN[0]?=φ o/\o.op=.load 26 (.tmp 1)/\o.dst=φ 197/\o.guard=ν/\j7 ϋ G0 o=θ:=by
 have h:j7 ϋ G0 (mN[0]'(by rw[n18];omega))=θ:=by decide+kernel
 exact⟨_,rfl,rfl,rfl,rfl,h⟩
def Wk:∃o,mN[1]?=φ o/\o.op=.call {callee:=.value (.func 38),args:=#[.tmp 197],argTypes:=#[26]}/\o.dst=φ 198/\o.guard=ν:=⟨_,rfl,rfl,rfl,rfl⟩
def ai3:∃o,mN[2]?=φ o/\o.op=.move (.tmp 198)/\o.dst=φ 196/\o.guard=ν:=⟨_,rfl,rfl,rfl,rfl⟩
def ai4:∃o,mN[3]?=φ o/\o.op=.extract (.tmp 196) 0/\o.dst=φ 199/\o.guard=ν:=⟨_,rfl,rfl,rfl,rfl⟩
def ai5:∃o,mN[4]?=φ o/\o.op=.extract (.tmp 196) 1/\o.dst=φ 200/\o.guard=ν:=⟨_,rfl,rfl,rfl,rfl⟩
def ai6:∃o,mN[5]?=φ o/\o.op=.assign (.tmp 199)/\o.dst=φ 31/\o.guard=ν:=⟨_,rfl,rfl,rfl,rfl⟩
def ai7:∃o,mN[6]?=φ o/\o.op=.assign (.tmp 200)/\o.dst=φ 15/\o.guard=ν:=⟨_,rfl,rfl,rfl,rfl⟩
def alQ{P:Program}{main:Bool}{fn:FuncId}{t:Array υ}{k:List Item}{D:List Deferred}{cs:List Frame}{ops:Array Ϝ}{i:Nat}{rest:List Nat}{o:Ϝ}{f:FuncId}{args:Array υ}
 (ho:ops[i]?=φ o)(hg:Aj9 o (yielded ops t)=θ){aa:Ψ}(hr:(execOp (aS t) o).runT P aa #[]=(.ok (.enter f args) aa,#[])):
 stepG P main (rg fn t (.inRegion ops (i::rest)::k) D .normal cs) aa=.go (aO (Frame.enter P f args .normal) (⟨fn,t,.inRegion ops (i::rest)::k,D,.run,.normal,ν⟩::cs)) aa #[]:=by
 have e1:Frame.eval ⟨fn,t,.inRegion ops (i::rest)::k,D,.run,.normal,ν⟩=aS t:=tf;simp only[stepG,stepG.exec,ho,Ag3,hg,Akq,if_true,stepG.oper,Frame.oper?,stepG.apply,e1,hr];simp[ud,GStep.after]
def call38{t:Array υ}{o:Ϝ}(ab:o.op=.call {callee:=.value (.func 38),args:=#[.tmp 197],argTypes:=#[26]}){v:υ}(hv:t.getD 197 ω=v)(aa:Ψ):
 (execOp (aS t) o).runT ϋ aa #[]=(.ok (.enter 38 #[v]) aa,#[]):=by
 have h:=ad3 (P:=ϋ) Tryz.func38 RG aiN #[v] aa;unfold execOp;rw[ab];have e:(aS t) (.tmp 197)=v:=hv;have e0:(aS t) (.func 38)=.func (.func 38) #[] #[]:=rfl;simp only[resolve,List.map_toArray,List.map_cons,List.map_nil,e,e0,Deferred.ofValue,Array.append_empty];exact h
section
variable [Go.Tw.aR]
open Go.RowKit in
def ahf{tl:Array υ}{o:Ϝ}(ab:o.op=.load 26 (.tmp 1)){gE:Nat}(ht:tl.getD 1 ω=π (φ ⟨gE,0,ν⟩)){w:Ψ}{A1 A2 A3:Option ϕ}{n1 c1 n2 c2 n3 c3:Nat}{s:Int}
 (hb:Bk w gE 26 #[ξ κ s,.slice A1 n1 c1,.slice A2 n2 c2,.slice A3 n3 c3]):
 (execOp (aS tl) o).run Tw.prog w=.ok (.value (η #[ξ κ s,.slice A1 n1 c1,.slice A2 n2 c2,.slice A3 n3 c3])) w:=by
 have q0:=hb.cell 0;have q1:=hb.cell 1;have q2:=hb.cell 2;have q3:=hb.cell 3;have e:(aS tl) (.tmp 1)=π (φ ⟨gE,0,ν⟩):=ht;unfold execOp;rw[ab];simp only[e];go_simp
end
end Go.Jn
namespace Go.Jn
open Go Go.Proofs Go.Sim Go.Conc Go.Tw
def mW(w:Ψ):Ψ:={w with heap:=#[.cells #[.func (.func 234) #[] #[],.func (.func 236) #[] #[]] 146 (0,2)]}
def r0:Ren:=λa b=>a=0/\b=0
def Tu(ρ:Ren)(f:FuncId):ah ρ (.func (.func f) #[] #[]) (.func (.func f) #[] #[]):=.func (.func f) rfl (λi hi _=>absurd hi (by simp)) rfl (λi hi _=>absurd hi (by simp))
def am5{C:bQ}{w:Ψ}(h:ri w):bV C r0 (mW w) w:=by
 obtain⟨fr,h⟩:=h;refine⟨?_,?_,?_,?_,?_⟩
 ·rintro a b ⟨rfl,rfl⟩;simp[mW]
 ·rintro a b ⟨rfl,rfl⟩;exact(Ϟ.1 h).1
 ·rintro a b b' ⟨rfl,rfl⟩ ⟨_,rfl⟩;rfl
 ·rintro a a' b ⟨rfl,rfl⟩ ⟨rfl,_⟩;rfl
 ·rintro a b o ⟨rfl,rfl⟩ ho
  have e:o=.cells #[.func (.func 234) #[] #[],.func (.func 236) #[] #[]] 146 (0,2):=by simpa [mW] using ho.symm
  subst e;refine⟨_,h,.cells 146 ⟨rfl,λi h1 h2=>?_⟩ (.inr ⟨rfl,ϊ _⟩)⟩
  match i,h1,h2 with
  |0,_,_=>exact Tu _ _
  |1,_,_=>exact Tu _ _
  |i+2,h1,_=>exact absurd h1 (by simp)
def am6{w:Ψ}:bJ (mW w).heap:=by
 intro o ho hb;have e:o=.cells #[.func (.func 234) #[] #[],.func (.func 236) #[] #[]] 146 (0,2):=by simpa [mW] using ho
 subst e;exact hb
def Qs{w:Ψ}(T:Tape):gI (aZ (mW w) T):=⟨(0,2),rfl⟩
def Qr{w:Ψ}(b:Nat):mZ r0 (mW w) b:=by
 rintro a ⟨rfl,_⟩;exact⟨_,rfl,rfl,ϊ _⟩
def aj1{ρ:Ren}{u t t7:Array υ}(h:aP ρ u t)(hs:t7.size=t.size)(J:Nat->Bool)(hk:∀i,J i=χ->t7[i]?=t[i]?):∃u7:Array υ,aP ρ u7 t7/\∀i,J i=χ->u7[i]?=u[i]?:=by
 have hu:u.size=t7.size:=h.1.trans hs.symm;refine⟨Array.ofFn λi:Fin t7.size=>if J i then Classical.choose (rB ρ t7[i.1]) else u[i.1]'(by rw[hu];exact i.2),⟨by simp,λi h1 h2=>?_⟩,λi hi=>?_⟩
 ·rw[Array.getElem_ofFn]
  by_cases hj:J i=θ
  ·simp only[hj,if_true];exact Classical.choose_spec (rB ρ t7[i])
  ·have hj:J i=χ:=by simpa using hj
   simp only[hj,Bool.false_eq_true,if_false];have e:=hk i hj;have ht:i<t.size:=by rw[<-hs];exact h2
   rw[Aaz h2,Aaz ht] at e
   rw[ϟ e];exact h.2 i _ ht
 ·by_cases al:i<t7.size
  ·rw[Ajx,dif_pos al,Aaz (by rw[hu];exact al)]
   simp only[hi,Bool.false_eq_true,if_false]
  ·rw[Aan (by simpa using al),Aan (by rw[hu];omega)]
def am4{main:Bool}{Stop:Sim.aaa->Goroutine->Ψ->Prop}{M:Sim.aaa}{w:Ψ}{cs:List Frame}{t:Array υ}(hs:t.size=349){k:List Item}{ov:υ}
 (h:∀t7:Array υ,t7.size=349->t7[31]?=φ ov->t7[15]?=φ (ξ κ 0)->(∀i,i≠198->i≠196->i≠199->i≠200->i≠31->i≠15->t7[i]?=t[i]?)->Walk ϋ main Stop M (rg 21 t7 k [] .normal cs) w):
 Walk ϋ main Stop M (rg 21 (ay t (φ 198) (μ #[ov,ξ κ 0])) (.inRegion mN [2,3,4,5,6]::k) [] .normal cs) w:=by
 have dY:(ay t (φ 198) (μ #[ov,ξ κ 0])).size=349:=by simp[ay,hs]
 have e0:(ay t (φ 198) (μ #[ov,ξ κ 0])).getD 198 ω=μ #[ov,ξ κ 0]:=ib (by omega)
 have k0:∀i,i≠198->(ay t (φ 198) (μ #[ov,ξ κ 0]))[i]?=t[i]?:=λi h=>bL (Ag2 h)
 revert dY e0 k0
 generalize ay t (φ 198) (μ #[ov,ξ κ 0])=t1;intro cZ e1 k1;obtain⟨o,ho,ab,hd,gx⟩:=ai3;refine du (v:=μ #[ov,ξ κ 0]) ho (bI gx) rfl (λaa _=>⟨_,(run_move t1 aa ab).trans (by rw[show(aS t1) (.tmp 198)=_ from e1]),cS⟩) ?_
 rw[hd];have dD:(ay t1 (φ 196) (μ #[ov,ξ κ 0])).size=349:=by simp[ay,cZ]
 have e2:(ay t1 (φ 196) (μ #[ov,ξ κ 0])).getD 196 ω=μ #[ov,ξ κ 0]:=ib (by omega)
 have k2:∀i,i≠198->i≠196->(ay t1 (φ 196) (μ #[ov,ξ κ 0]))[i]?=t[i]?:=λi h h'=>(bL (Ag2 h')).trans (k1 i h)
 revert dD e2 k2
 generalize ay t1 (φ 196) (μ #[ov,ξ κ 0])=t2;intro dD e2 k2;obtain⟨o,ho,ab,hd,gx⟩:=ai4;refine du (v:=ov) ho (bI gx) rfl (λaa _=>⟨_,Ft t2 aa ab e2 rfl,cS⟩) ?_
 rw[hd];have gQ:(ay t2 (φ 199) ov).size=349:=by simp[ay,dD]
 have e3:(ay t2 (φ 199) ov).getD 199 ω=ov:=ib (by omega)
 have f3:(ay t2 (φ 199) ov).getD 196 ω=μ #[ov,ξ κ 0]:=by
  rw[Aaa,show(ay t2 (φ 199) ov)[196]?=t2[196]? from bL (by omega),<- Aaa];exact e2
 have k3:∀i,i≠198->i≠196->i≠199->(ay t2 (φ 199) ov)[i]?=t[i]?:=λi h h' dR=>(bL (Ag2 dR)).trans (k2 i h h')
 revert gQ e3 f3 k3
 generalize ay t2 (φ 199) ov=t3;intro gQ e3 f3 k3;obtain⟨o,ho,ab,hd,gx⟩:=ai5;refine du (v:=ξ κ 0) ho (bI gx) rfl (λaa _=>⟨_,Ft t3 aa ab f3 rfl,cS⟩) ?_
 rw[hd];have tK:(ay t3 (φ 200) (ξ κ 0)).size=349:=by simp[ay,gQ]
 have e4:(ay t3 (φ 200) (ξ κ 0)).getD 200 ω=ξ κ 0:=ib (by omega)
 have f4:(ay t3 (φ 200) (ξ κ 0)).getD 199 ω=ov:=by
  rw[Aaa,show(ay t3 (φ 200) (ξ κ 0))[199]?=t3[199]? from bL (by omega),<- Aaa];exact e3
 have k4:∀i,i≠198->i≠196->i≠199->i≠200->(ay t3 (φ 200) (ξ κ 0))[i]?=t[i]?:=λi h h' dR h3=>(bL (Ag2 h3)).trans (k3 i h h' dR)
 revert tK e4 f4 k4
 generalize ay t3 (φ 200) (ξ κ 0)=t4;intro tK e4 f4 k4;obtain⟨o,ho,ab,hd,gx⟩:=ai6;refine du (v:=ov) ho (bI gx) rfl (λaa _=>⟨_,(run_assign t4 aa ab).trans (by rw[show(aS t4) (.tmp 199)=_ from f4]),cS⟩) ?_
 rw[hd];have AJ:(ay t4 (φ 31) ov).size=349:=by simp[ay,tK]
 have e5:(ay t4 (φ 31) ov)[31]?=φ ov:=tY (by omega)
 have f5:(ay t4 (φ 31) ov).getD 200 ω=ξ κ 0:=by
  rw[Aaa,show(ay t4 (φ 31) ov)[200]?=t4[200]? from bL (by omega),<- Aaa];exact e4
 have k5:∀i,i≠198->i≠196->i≠199->i≠200->i≠31->(ay t4 (φ 31) ov)[i]?=t[i]?:=λi h h' dR h3 h4=>(bL (Ag2 h4)).trans (k4 i h h' dR h3)
 revert AJ e5 f5 k5
 generalize ay t4 (φ 31) ov=t5;intro AJ e5 f5 k5;obtain⟨o,ho,ab,hd,gx⟩:=ai7;refine du (v:=ξ κ 0) ho (bI gx) rfl (λaa _=>⟨_,(run_assign t5 aa ab).trans (by rw[show(aS t5) (.tmp 200)=_ from f5]),cS⟩) ?_
 rw[hd];refine iA (h _ (by simp[ay,AJ]) ((bL (by omega)).trans e5) (tY (by omega)) λi a1 a2 a3 a4 a5 a6=>(bL (Ag2 a6)).trans (k5 i a1 a2 a3 a4 a5))
def acm{S:Nat->Prop}{W:Ψ}{base gp gb gk gt gl:Nat}(h:wL W base gp gb gk gt gl):FY S W W.heap.size aW (ζ (φ ⟨gp,0,ν⟩) 3 3) (ζ (φ ⟨gb,0,ν⟩) 2 2) (ζ (φ ⟨gt,0,ν⟩) 1 1):=by
 letI:=iQ
 have sv:∀(g n c:Nat),n≠0->Sv S (ζ (φ ⟨g,0,ν⟩) n c):=λg n c hn A n' c' e h0=>by
  injection e with _ e2 _;omega
 refine⟨(kY h).pieces,?_,?_,sv _ _ _ (by omega),sv _ _ _ (by omega),sv _ _ _ (by omega)⟩
 ·have:=wX (xs:=zR gk) (sz:=3) (f:=eP) (R:=λp cs=>cs=eP p) h.b (by show 2<=1000;decide) (λ_=>rfl) (λ_ _=>rfl) rfl
  refine yY (ps:=zR gk) this (λp hm cs hc=>?_)
  subst hc;simp only[zR,ϫ,Λ,or_false] at hm;rcases hm with rfl|rfl
  ·refine⟨⟨_,rfl,(by show te.name.size<=maxLen;decide),Lz [⟨3,3⟩] (by decide) h.k rfl⟩,λu hu=>?_⟩
   simp only[eP,ϫ,Λ,or_false] at hu;rcases hu with rfl|rfl|rfl
   ·intro A n c e;cases e
   ·intro A n c e;cases e
   ·exact sv _ _ _ (by omega)
  ·refine⟨⟨_,rfl,by decide,Row.nil⟩,λu hu=>?_⟩
   simp only[eP,ϫ,Λ,or_false] at hu;rcases hu with rfl|rfl|rfl<;>(intro A n c e;cases e)
 ·have:=wX (xs:=[((⟨[0,2],⟨7,7⟩⟩:Tw.Tape),Value.slice (φ ⟨gl,0,ν⟩) 2 2)]) (sz:=3) (f:=eG) (R:=λp cs=>cs=eG p) h.t (by show 1<=1000;decide) (λ_=>rfl) (λ_ _=>rfl) rfl
  refine yY this (λp hm cs hc=>?_)
  subst hc;simp only[ϫ,Λ,or_false] at hm;subst hm;refine⟨⟨_,rfl,ru [0,2] (by decide) h.l rfl⟩,λu hu=>?_⟩
  simp only[eG,ϫ,Λ,or_false] at hu;rcases hu with rfl|rfl|rfl
  ·exact sv _ _ _ (by omega)
  ·intro A n c e;cases e
  ·intro A n c e;cases e
def ade{ρ:Ren}(h:ρ 0 0):∀g,G0 g=θ->ρ g g:=λg hg=>by
 have:g=0:=by simpa [G0] using hg
 subst this;exact h
abbrev Qz:ϖ:=chain [we,wh,wj,wm,sw,wu] wD
abbrev Ma(gp gb gt:Nat):υ:=η #[ξ κ 1,ζ (φ ⟨gp,0,ν⟩) 3 3,ζ (φ ⟨gb,0,ν⟩) 2 2,ζ (φ ⟨gt,0,ν⟩) 1 1]
def Zf(w0:Ψ)(cs:List Frame)(_:Sim.aaa)(g:Goroutine)(w:Ψ):Prop:=
 ∃(t:Array υ) (arg:υ) (a:Act) (wl:Ψ) (ρ:Ren) (T:Tape),∃gE gp gb gk gt gl gc g3 dk n22 c22 bZ n25 b6 er n28 ew,
  g=aO (Frame.enter ϋ 38 #[arg] .normal) (⟨21,t,.inRegion mN [1,2,3,4,5,6]:: [.code Qz],[],.run,.normal,ν⟩::cs)/\t.size=349/\
  Sl [(0,.bool χ),(1,π (φ ⟨gE,0,ν⟩)),(2,ζ (φ ⟨gc,0,ν⟩) 3 3),(3,ζ (φ ⟨g3,0,ν⟩) 3 3),(5,ξ κ 0),(7,ξ κ 0),(9,ξ κ 0),(11,ξ κ 0),(13,ξ κ 0),(20,ξ κ 1),(21,ξ κ 0),(22,.slice dk n22 c22),(23,ζ ν 0 0),(24,ξ κ 8),(25,.slice bZ n25 b6),(26,ξ κ 2),(27,.bool θ),(28,.slice er n28 ew),(29,ξ κ 14),(30,.bool θ)] a/\
  jo (aZ (mW w0) T) wl gE gp gb gk gt gl gc g3/\Row wl wl.heap.size 1 cH (.slice dk n22 c22) [1,1]/\Row wl wl.heap.size 2 Cut.R (.slice bZ n25 b6) dQ/\Row wl wl.heap.size 2 Cut.R (.slice er n28 ew) dQ/\
  (∃t0,aP ρ a.tmps t0/\∀i,i≠197->t[i]?=t0[i]?)/\ah ρ (Ma gp gb gt) arg/\bV C0 ρ wl w/\ρ 0 0/\bJ wl.heap/\(∀b,b<w0.heap.size->mZ ρ wl b)/\∀b,b<w0.heap.size->w.heap[b]?=w0.heap[b]?
def alc{w:Ψ}(hM:ri w){x:Array υ}(hx:x.size<=1)(cs:List Frame):Walk ϋ θ (Zf w cs) (allM w) (aO (Frame.enter ϋ 21 x .normal) cs) w:=by
 letI:=iQ
 rw[zQ Tryz.func21 Zr x .normal];have hs:(x++Θ (Tryz.f21.ntmps - x.size) ω).size=349:=by
  rw[Array.size_append,Array.size_replicate,show Tryz.f21.ntmps=349 from rfl];omega
 generalize (x++Θ (Tryz.f21.ntmps - x.size) ω)=t' at hs |-
 obtain⟨u,hu⟩:=Mb r0 t';obtain⟨y,rfl,_⟩:=VX u (hu.1.trans hs);have hW:bV C0 r0 (mW w) w:=am5 hM;refine pieces (S:=⟨.seq Jf Qz,[],[],cs,.normal⟩) (cs:=[ui,uj,uk,GF,sA,sB,sC,sD,sE,sF,si,sj,sk,rZ,so,sr,ss,su]) aat (a:=⟨(lit y).toArray,[cQ]⟩) rfl rfl
  (QL:=λe bB aa=>e=.normal/\∃T,FC (aZ (mW w) T) bB aa) (λe a w h=>.inl h.1) (λT=>?_) hW ⟨rfl,rfl⟩ (zF hW) (λb hb=>kA.1 hb) am6 hu ?_
 ·exact FN (jQ:=[]) (Q:=λe bB aa=>e=.normal/\∃T,FC (aZ (mW w) T) bB aa) (λa w hf=>⟨rfl,T,hf⟩) _ (akZ (Qs T) (ak4 _ y))
 ·rintro e bB aa bS aE eV aA D' ⟨rfl,T,hF⟩ bY Nb hf gN hg hn ht hD
  refine⟨λ_=>?_,λh=>by cases h⟩
  obtain⟨gE,gp,gb,gk,gt,gl,gc,g3,dk,n22,c22,bZ,n25,b6,er,n28,ew,vA,hex,j4,gO,mE⟩:=hF;have hd:=vA.1;rw[hd] at hD;have hD:=xf hD;subst hD;have il:eV.size=349:=ht.1.symm.trans vA.2.1;obtain⟨id,EW⟩:=al6;refine fF ?_
  rw[EW];refine gH ?_
  rw[n18];obtain⟨o,ho,ab,aen,gx,k8⟩:=ai2;have h1:bB.tmps.getD 1 ω=π (φ ⟨gE,0,ν⟩):=cJ (vA.2.2 (1,_) (by simp))
  refine Yb GJ (rest:=[1,2,3,4,5,6]) ho (bI gx) rfl k8 ht Nb (ade hg) hf gN (QL:=λv aq=>v=Ma gp gb gt/\∃T,aq=aZ aa T) (λT=>⟨_,_,(by rw[Qd];exact ahf ab h1 (w:=aZ aa T) hex.bE),rfl,T,rfl⟩) ?_
  rintro v v' apo bH pU mo ⟨rfl,T2,rfl⟩ hv aef rQ nD ae1;rw[aen];obtain⟨o1,Ht,afj,aoa,aeC⟩:=Wk;have Hk:(ay eV (φ 197) v').getD 197 ω=v':=ib (by omega)
  refine kM rfl (λky=>alQ Ht (bI aeC) (call38 afj Hk ky)) (.stop λky hk=>?_)
  refine⟨ay eV (φ 197) v',v',bB,aZ aa T2,bH,T2,gE,gp,gb,gk,gt,gl,gc,g3,dk,n22,c22,bZ,n25,b6,er,n28,ew,rfl,by simp[ay,il],vA,?_,j4,gO,mE,⟨eV,ht.mono rQ.le,λi hi=>bL (Ag2 hi)⟩,hv,aef.keep nD hk,rQ.le _ _ hg,hn,λb hb=>?_,λb hb=>?_⟩
  ·exact⟨⟨hex.ex.p,hex.ex.b,hex.ex.k,hex.ex.t,hex.ex.l,hex.ex.hp,hex.ex.hb,hex.ex.hk,hex.ex.ht,hex.ex.hl⟩,hex.bE,hex.bc,hex.b3,⟨hex.below.os,rfl,hex.below.output,hex.below.size,hex.below.block⟩,hex.lE⟩
  ·exact CY rQ (Ϡ hb bY.fQ) (CY bY hb (Qr b))
  ·have m1:bS.has b:=aaa.tx bY.R bY.O (kA.2 hb)
   exact((hk.kept b (aaa.tx rQ.R rQ.O m1)).trans (rQ.im b m1 (CY bY hb (Qr b)))).trans (bY.im b (kA.2 hb) (Qr b))
def aau:∀c∈ [we,wh,wj,wm,sw,wu],C0.clean c:=by
 have h: [we,wh,wj,wm,sw,wu].all (cr ϋ G0)=θ:=by decide+kernel
 intro c hc;exact Akh.1 h c hc
def aav:C0.clean wD:=by
 have h:cr ϋ G0 wD=θ:=by decide+kernel
 exact h
def aka:Tryz.f21.results=#[.tmp 0]:=rfl
def ab9:yH aW=[0,1]:=by decide+kernel
def acG(t:Array υ)(v:υ)(k:List Item):Frame.finish ⟨21,t,.inRegion mN [1,2,3,4,5,6]::k,[],.run,.normal,ν⟩ v=⟨21,ay t (φ 198) v,.inRegion mN [2,3,4,5,6]::k,[],.run,.normal,ν⟩:=by
 obtain⟨o,ho,_,hd,_⟩:=Wk;simp[Frame.finish,ho,hd,ay]
def ag6{σ:Ren}{wl w:Ψ}{NR:Nat}(hW:bV C0 σ wl w)(hr:∀a q,σ a q->q<NR)(hn:bJ wl.heap){n:Nat}{zs:List Int}{ov:υ}(ho:w.ownsRow NR 3 1 ov n (zs.map (ϝ .i64))):
 ∃(bM:Ren) (fR:Ψ) (ol:υ),bV C0 bM fR w/\σ.le bM/\(∀a p,bM a p->σ a p\/(wl.heap.size<=a/\NR<=p))/\ah bM ol ov/\fR.ownsRow wl.heap.size 3 1 ol n (zs.map (ϝ .i64))/\Γ wl.heap.size wl fR/\bJ fR.heap:=by
 rcases ho.2 with⟨rfl,h0⟩ | ⟨g,cap,cur,rfl,nC,hg,dX,kZ,fg,lT⟩
 ·exact⟨σ,wl,ζ ν 0 0,hW,σ.le_refl,λa p h=>.inl h,.sliceNone 0 0,⟨ho.1,.inl ⟨rfl,h0⟩⟩,Akx _ _,hn⟩
 ·obtain⟨u,hu,Ke⟩:=Pt (ext σ wl.heap.size g) cur n zs lT
  have jw:=uP (o:=.cells u 3) hW hg (λa ha=>by have:=hr a g ha;omega) (.cells 3 hu (.inl rfl))
  refine⟨_,_,ζ (φ ⟨wl.heap.size,0,ν⟩) n cap,jw,xj _ _ _,?_,.slice _ _ ⟨.inr ⟨rfl,rfl⟩,rfl,rfl⟩,⟨ho.1,.inr ⟨_,cap,u,rfl,ϊ _,jO,dX,kZ,hu.1.trans fg,Ke⟩⟩,
   (Akx _ _).alloc (ϊ _) _,bJ.push hn (o:=.cells u 3) (λh=>h)⟩
  rintro a p (ha| ⟨rfl,rfl⟩)
  ·exact .inl ha
  ·exact .inr ⟨ϊ _,nC⟩
def acr{w0 w:Ψ}{gE gp gb gk gt gl gc g3:Nat}(h:jo w0 w gE gp gb gk gt gl gc g3)(T:Tape):jo (aZ w0 T) (aZ w T) gE gp gb gk gt gl gc g3:=
 ⟨⟨h.ex.p,h.ex.b,h.ex.k,h.ex.t,h.ex.l,h.ex.hp,h.ex.hb,h.ex.hk,h.ex.ht,h.ex.hl⟩,h.bE,h.bc,h.b3,⟨h.below.os,rfl,h.below.output,h.below.size,h.below.block⟩,h.lE⟩
def acC{w0 w:Ψ}{a:Act}(h:FD w0 a w)(T:Tape):FD (aZ w0 T) a (aZ w T):=by
 obtain⟨gE,gp,gb,gk,gt,gl,gc,g3,dk,n22,c22,bZ,n25,b6,er,n28,ew,iW,n31,iZ,hs,hx,h1,h2,h3,h4⟩:=h;exact⟨gE,gp,gb,gk,gt,gl,gc,g3,dk,n22,c22,bZ,n25,b6,er,n28,ew,iW,n31,iZ,hs,acr hx T,h1,h2,h3,h4⟩
def ald{w0 w2 wl:Ψ}{fr:Frame}{cs:List Frame}{t t0:Array υ}{a:Act}{ρ:Ren}{T:Tape}{ov:υ}{NR:Nat}{gE gp gb gk gt gl gc g3:Nat}{dk bZ er:Option ϕ}{n22 c22 n25 b6 n28 ew:Nat}(il:t.size=349)
 (hs:Sl [(0,.bool χ),(1,π (φ ⟨gE,0,ν⟩)),(2,ζ (φ ⟨gc,0,ν⟩) 3 3),(3,ζ (φ ⟨g3,0,ν⟩) 3 3),(5,.int .i64 0),(7,.int .i64 0),(9,.int .i64 0),(11,.int .i64 0),(13,.int .i64 0),(20,.int .i64 1),(21,.int .i64 0),(22,.slice dk n22 c22),(23,ζ ν 0 0),(24,.int .i64 8),(25,.slice bZ n25 b6),(26,.int .i64 2),(27,.bool θ),(28,.slice er n28 ew),(29,.int .i64 14),(30,.bool θ)] a)
 (hx:jo (aZ (mW w0) T) wl gE gp gb gk gt gl gc g3)(j4:Row wl wl.heap.size 1 cH (.slice dk n22 c22) [1,1])(gO:Row wl wl.heap.size 2 Cut.R (.slice bZ n25 b6) dQ)(mE:Row wl wl.heap.size 2 Cut.R (.slice er n28 ew) dQ)
 (vB:aP ρ a.tmps t0)(Ad:∀i,i≠197->t[i]?=t0[i]?)(hW:bV C0 ρ wl w2)(hg:ρ 0 0)(hn:bJ wl.heap)(lP:∀b,b<w0.heap.size->mZ ρ wl b)(Hy:∀a q,ρ a q->q<NR)(De:w0.heap.size<=NR)(hN2:NR<=w2.heap.size)
 (aG:w2.ownsRow NR 3 1 ov 2 (([0,1]:List Int).map (ϝ .i64))):
 Walk ϋ θ (λ_ g w=>g=aO (fr.finish (.bool θ)) cs/\∀b,b<w0.heap.size->w.heap[b]?=w2.heap[b]?) (allM w2) (rg 21 (ay t (φ 198) (μ #[ov,.int .i64 0])) (.inRegion mN [2,3,4,5,6]:: [.code Qz]) [] .normal (fr::cs)) w2:=by
 letI:=iQ
 refine am4 il λt7 N6 EY e15 hk=>?_
 obtain⟨bM,fR,ol,jw,hle,hinv,hv,vX,qj,NI⟩:=ag6 hW Hy hn aG;obtain⟨iW,n31,iZ,rfl⟩:=j8 vX;have pf:t0.size=349:=vB.1.symm.trans hs.2.1;obtain⟨u7,Vl,hku⟩:=aj1 (vB.mono hle) (N6.trans pf.symm) (λi=> [197,198,196,199,200,31,15].contains i) (λi hi=>by
  have hi:¬i∈ [197,198,196,199,200,31,15]:=by simpa using hi
  simp only[ϫ,Λ,or_false,not_or] at hi;obtain⟨a1,a2,a3,a4,a5,a6,a7⟩:=hi;exact(hk i a2 a3 a4 a5 a6 a7).trans (Ad i a1))
 have ZY:=SR (SR Vl hv EY) (.int .i64 0) e15;have tN:((u7.setIfInBounds 31 (.slice iW n31 iZ)).setIfInBounds 15 (.int .i64 0)).size=349:=ZY.1.trans N6;have aoL:u7.size=349:=Vl.1.trans N6;have yx:((u7.setIfInBounds 31 (.slice iW n31 iZ)).setIfInBounds 15 (.int .i64 0))[31]?=φ (.slice iW n31 iZ):=(bL (by omega)).trans (tY (by omega))
 have V2:((u7.setIfInBounds 31 (.slice iW n31 iZ)).setIfInBounds 15 (.int .i64 0))[15]?=φ (.int .i64 0):=tY (by rw[Aem];omega)
 have kk:∀i,[197,198,196,199,200,31,15].contains i=χ->((u7.setIfInBounds 31 (.slice iW n31 iZ)).setIfInBounds 15 (.int .i64 0))[i]?=a.tmps[i]?:=λi hi=>by
  have hj:¬i∈ [197,198,196,199,200,31,15]:=by simpa using hi
  simp only[ϫ,Λ,or_false,not_or] at hj;exact((bL (Ag2 hj.2.2.2.2.2.2)).trans (bL (Ag2 hj.2.2.2.2.2.1))).trans (hku i hi)
 revert ZY tN yx V2 kk
 generalize ((u7.setIfInBounds 31 (.slice iW n31 iZ)).setIfInBounds 15 (.int .i64 0))=u8;intro ZY tN yx V2 kk;have Pg:FD (aZ (mW w0) T) ⟨u8,[cQ]⟩ fR:=by
  refine⟨gE,gp,gb,gk,gt,gl,gc,g3,dk,n22,c22,bZ,n25,b6,er,n28,ew,iW,n31,iZ,⟨rfl,tN,λp hp=>?_⟩,hx.grown qj,ft j4 qj,ft gO qj,ft mE qj,Ih (l:=[0,1]) vX⟩
  have old:∀(i:Nat) (v:υ),[197,198,196,199,200,31,15].contains i=χ->a.tmps[i]?=φ v->u8[i]?=φ v:=λi v hc h=>(kk i hc).trans h
  simp only[ϫ,Λ,or_false] at hp;rcases hp with rfl|rfl|rfl|rfl|rfl|rfl|rfl|rfl|rfl|rfl|rfl|rfl|rfl|rfl|rfl|rfl|rfl|rfl|rfl|rfl|rfl|rfl
  all_goals first
   |exact yx
   |exact V2
   |exact old _ _ rfl (hs.2.2 (_,_) (by simp))
 have Uk:∀b,b<w0.heap.size->mZ bM fR b:=λb hb c hc=>by
  rcases hinv c b hc with h| ⟨_,h⟩
  ·obtain⟨o,h1,h2⟩:=lP b hb c h
   exact⟨o,(qj.block c (Ϟ.1 h1).1).trans h1,h2⟩
  ·omega
 refine pieces (S:=⟨wD,[],[],fr::cs,.normal⟩) (cs:=[we,wh,wj,wm,sw,wu]) aau (a:=⟨u8,[cQ]⟩) rfl rfl
  (QL:=λe bB aa=>e=.normal/\FE bB aa) (λe a w h=>.inl h.1) (λT'=>?_) jw (hle _ _ hg) (zF jw) (λb hb=>kA.1 hb) NI ZY ?_
 ·exact FN (jQ:=[]) (Q:=λe bB aa=>e=.normal/\FE bB aa) (λa w hf=>⟨rfl,hf⟩) _ (ak3 (w0:=aZ (mW w0) T') (Qs T') (acC Pg T'))
 ·rintro e bB aa bS aE eV aA D' ⟨rfl,Yk,aiJ,afQ,kP,n35,jd,vA,afq,afs⟩ bY Nb hf gN dB qx ym hD
  refine⟨λ_=>?_,λh=>by cases h⟩
  have hd:=vA.1;rw[hd] at hD;have hD:=xf hD;subst hD;refine piece (S:=⟨.skip,[],[],fr::cs,.normal⟩) (c:=wD) aav (a:=bB) rfl hd (QL:=λe a _=>e=.ret/\a.defers=[cQ]/\a.tmps[0]?=φ (.bool θ)) (λT'=>?_) Nb dB hf gN qx ym ?_
  ·exact Code.wp_mono (λe a w h=>⟨.inr h.1,h.1,h.2.1,h.2.2.2.1⟩) (akL vA (w:=aZ aa T') afq afs)
  ·rintro e anB ky pU BR Jl apq ⟨rfl,fJ,h0⟩ rQ an9 xM UN vi lQ ht3
   refine⟨λh=>(by cases h),λ_ sH D' hD=>?_⟩
   rw[fJ] at hD;have hD:=xf hD;subst hD;obtain⟨v',Ea,vD⟩:=IZ ht3 h0;cases vD;have e0:Jl.getD 0 ω=.bool θ:=cJ Ea;refine kM rfl (λQx=>?_) (.stop λQx hk=>⟨rfl,λb hb=>?_⟩)
   ·have e:unwind ϋ θ ⟨21,Jl,sH,[],.returning,.normal,ν⟩ (fr::cs) ν Qx=.go (aO (fr.finish (.bool θ)) cs) Qx #[]:=by
     unfold unwind;simp only[Tryz.func21,results1 aka,ud,GStep.after,doReturn,e0];rfl
    exact e
   ·have ak:b<w2.heap.size:=by omega
    have m1:bS.has b:=aaa.tx bY.R bY.O (kA.2 ak);have m2:pU.has b:=aaa.tx rQ.R rQ.O m1;have f1:=CY bY ak (Uk b hb);exact((hk.kept b m2).trans (rQ.im b m1 f1)).trans (bY.im b (kA.2 ak) (Uk b hb))
def alI{w wl:Ψ}{ρ:Ren}{gp gb gk gt gl base:Nat}{arg:υ}(hm:gI wl)(hx:wL wl base gp gb gk gt gl)(ha:ah ρ (Ma gp gb gt) arg)(hW:bV C0 ρ wl w)(hg:ρ 0 0):
 J5 aW (vQ ρ (gd ρ wl w)) (qa ρ wl w) (ζ (φ ⟨gp,0,ν⟩) 3 3) (ζ (φ ⟨gb,0,ν⟩) 2 2) (ζ (φ ⟨gt,0,ν⟩) 1 1) wl.heap.size arg w:=by
 letI:=iQ
 obtain⟨a',b',c',d',rfl,r1,r2,r3,r4⟩:=WE ha;obtain⟨ai,p1,p2,p3⟩:=ac4 hW (acm (S:=gd ρ wl w) hx) ⟨_,r2⟩ ⟨_,r3⟩ ⟨_,r4⟩;have G3:gd ρ wl w 0:=WK hW (p:=⟨0,0,ν⟩) (hm.cell 0) hg;refine⟨ac6 hW,⟨hg,G3⟩,ac7,λa q h=>?_,Nat.le_of_eq Tt.symm,ai,?_⟩
 ·obtain⟨o1,k1,b1,c,c',e,fr,aV,u,h1,h2,h3,h4,h5,h6,rfl⟩:=Ml h.2
  exact⟨_,k1,rfl,ϊ _⟩
 ·refine .agg rfl λi h1 h2=>?_
  match i,h1,h2 with
  |0,_,_=>exact Pv.rel r1 trivial
  |1,_,_=>exact Pv.rel r2 p1
  |2,_,_=>exact Pv.rel r3 p2
  |3,_,_=>exact Pv.rel r4 p3
  |i+4,h1,_=>exact absurd h1 (by simp)
def ak6:Cq:=by
 letI:=iQ
 intro gs w t q x fr cs sl hx hM hF;obtain⟨N1,TG,M1,g1,w1,PQ,t1,q1,r1,z1,⟨⟨tm,arg,a,wl,ρ,T,gE,gp,gb,gk,gt,gl,gc,g3,dk,n22,c22,bZ,n25,b6,er,n28,ew,rfl,il,hs,hex,j4,gO,mE,⟨t0,vB,Ad⟩,hv,hW,hg,hn,lP,aeM⟩,om⟩,lN⟩:=
  Cw (FM (alc hM hx (fr::cs)) (Gr w)) gs sl t q hF (λb hb=>kA.1 hb)
 have hm:gI wl:=(Qs (w:=w) T).below hex.below (by simp[mW,aZ])
 obtain⟨N2,GU,w2,PR,t2,q2,g2,az,M2,r2,GY,⟨ov,rfl,aG,Uw,aI⟩,nH,mB,Mu⟩:=aiP (alI hm hex.ex hv hW hg) PH lN PQ;have cA:ga (ints az)=[0,1]:=by rw[aly nH mB,ab9];rfl
 rw[cA] at aG;rw[acG] at GY;have jw:=ta hW aI λa b hab=>Uw b (hW.dc a b hab)
 obtain⟨N3,Mo,M3,g3',w3,PS,t3,q3,r3,z3,⟨⟨rfl,aeN⟩,IS⟩,My⟩:=
  Cw (FM (ald (w0:=w) (fr:=fr) (cs:=cs) il hs hex j4 gO mE vB Ad jw hg hn lP hW.dc om.size aI aG) Mu) GU PR t2 q2 GY (λb hb=>kA.1 hb)
 exact⟨N1+(N2+N3),Mo,w3,PS,t3,q3,uc _ _ _ r1 (uc _ _ _ r2 r3),My,rn om IS,λb hb=>(aeN b hb).trans ((Uw b (Ϡ hb om.size)).trans (aeM b hb))⟩
end Go.Jn
namespace Go.Jn
open Go Go.Proofs Go.Conc
open YtfifdjajcogccaaGreatDoor
def an6:joinedFacts ϋ 15 Tryz.f15 Rows.mouldRealSpec Rows.mouldRealRow=θ:=by
 unfold joinedFacts;exact fc (fc (fc (fc (fc (fc (fc (fc (fc (fc (fc (fc (fc (fc (fc (fc (fc (fc (fc (fc (fc (fc (fc (fc (fc (fc (fc (fc (fc (fc (fc aoi aid) aip) ao0) ao3) ao4) aiE) ao5) aiG) ao6) aok) aom) aoq) aos) aou) aoG) aoJ) aoN) aoO) aoP) aoS) aoT) aoU) aoV) aiu) aiv) aoX) aoY) (by kernel_rfl)) aoZ) ao1) ao2
def apm(yj:Cq):Rows.MouldRealSaid:=
 OpenClaim.holds_of_wide_leaving 15 Tryz.f15 rfl rfl rfl rfl rfl rfl rfl ⟨rfl,rfl,rfl,rfl,rfl⟩ rfl rfl rfl rfl rfl (by kernel_rfl) Tryz.func15 an6
  (of_decide_eq_true (by kernel_rfl)) (by unfold Func.isWrapper;first| (rw[if_pos (by decide+kernel)];kernel_rfl) | (rw[if_neg (by decide+kernel)];exact⟨rfl,rfl⟩))
  (λos started H enc _=>apl yj os started H enc)
def aog:Rows.mouldRealRow.wfByText (OpenSpec.ofChange Rows.mouldRealSpec)=θ:=by kernel_rfl
def aob:θ=Rows.mouldRealRow.goesBy Tryz.pinned.checked.prog:=by kernel_rfl
def aod:ϋ.funcNamed Rows.mouldRealRow.func=φ 15:=by kernel_rfl
def aoe:Tryz.f15.params=#[26,50,5]:=by kernel_rfl
def ao9:([26,50,5].all λu=> !ϋ.wantsStandIn u)=θ:=by kernel_rfl
def apI:ϋ.laidByTextLater Rows.mouldRealRow.laid [.funcs] θ:=ak9
def apg(h:Rows.MouldRealSaid):Rows.MouldRealCardSaid:=
 ame .later [.funcs] θ (θ,"8b4c60804a89a2dc1775d2d899c432f4b3d9a7cd22d2b16114beb87ecc832d7f") χ h aog (OpenClaim.laidByTextAt_later rfl rfl apI ajx) rfl ⟨rfl,rfl⟩ ahV rfl
  (λf fn hf Du=>by
    obtain rfl:f=15:=(ϟ (aod.symm.trans hf)).symm;obtain rfl:fn=Tryz.f15:=(ϟ (Tryz.func15.symm.trans Du)).symm;refine⟨aiZ,λj t ht=>?_⟩
    rw[aoe] at ht;have hm:t∈ [26,50,5]:=by
     have:= Array.mem_of_getElem? ht;simp at this;simp[this]
    have:=Akh.1 ao9 t hm;exact(show ϋ.wantsStandIn t=χ by simpa using this)) aob
end Go.Jn
namespace Go.Proofs.YtfifdjajcogccaaGreatDoor
theorem mouldReal_holds:Rows.MouldRealCardSaid:=Go.Jn.apg (Go.Jn.apm Go.Jn.ak6)
end Go.Proofs.YtfifdjajcogccaaGreatDoor
end
