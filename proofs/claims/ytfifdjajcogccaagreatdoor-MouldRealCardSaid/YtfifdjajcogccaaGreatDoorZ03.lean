import Derived.Test.YtfifdjajcogccaaGreatDoorZ02
import Derived.Test.YtfifdjajcogccaaGreatDoorZ01
import Derived.Deep.RegionWith
import Derived.Deep.RegionLaw
import Derived.Shelf.Small.Bits
import Derived.Laws.AppendOwnNone
import Derived.ChangeKeysEq
import Derived.Deep.RegionHeld3
set_option linter.all false
set_option maxHeartbeats 64000000
set_option maxRecDepth 100000
open And renaming intro -> ϐ
open Bool renaming and_eq_true -> Aa3, or_eq_true -> Aig, or_eq_false_iff -> Aih, and_eq_false_iff -> Aii
open Go renaming maxLen -> ϗ, Calls -> ύ, bodyPost_ret -> Ahb, info_parts -> Ag9, wpAnyH_take -> Aij, wpAnyH_ready -> Aik
open Go.Act renaming put -> Ail
open Go.AllReadyH renaming cons -> Aim, nil -> Ain
open Go.IntKind renaming i64 -> Ϛ
open Go.IntWalk renaming i64_in -> Aio
open Go.Lib renaming compareInt -> Aip, compactUpTo -> Aiq
open Go.Op renaming fieldAddr -> Air, load -> Ais, indexAddr -> Ait, call -> Aiu
open Go.RowKit renaming intOf -> ϙ
open Go.RowKit.Below renaming refl -> Ϗ
open Go.Value renaming int -> ϝ
open Go.World renaming cell?_setCell_far -> Aiv, cell?_alloc_lt -> Afz, setCell -> Ad2
open Int renaming ofNat -> Aiw, le_refl -> Aix, le_trans -> Aiy, eq_ofNat_of_zero_le -> Aiz, tmod_eq_emod_of_nonneg -> Ai0
open List renaming flatMap_cons -> Aht, nil_append -> Agr, set_cons_succ -> ε, getElem?_eq_some_iff -> ϱ, length_map -> Ah8, getElem?_map -> Ah9, mem_of_getElem? -> ϩ, mem_map -> Ahx, getElem?_eq_getElem -> Af9, mem_append -> Af8, drop_eq_getElem_cons -> Ai2, drop_eq_nil_of_le -> Ai3, range -> ϸ, range_succ -> Ah2, length_filter_le -> Agd, map_map -> Ai4, mergeSort_perm -> Ai5, pairwise_mergeSort -> Ai6, exists_of_findSome?_eq_some -> Ah1, findSome?_eq_some_iff -> Ai7, getElem?_range -> Ai8, mem_cons -> ϫ, filter_cons_of_pos -> Ai9, filter_cons_of_neg -> Aja, getElem_of_mem -> Ajb, pairwise_iff_getElem -> Ajc, mem_singleton -> Af2, getElem?_eq_none -> Ah3, map_append -> Ahz, flatMap_append -> Agt, any_eq_true -> Ajd, any_eq_false -> Aje, getElem?_of_mem -> Ah0, take_succ_cons -> Agi, drop_succ_cons -> Agk, take_of_length_le -> Agf, mem_range -> Ahy, mem_flatMap -> Ahw, mem_filter -> Ajf, length_filter_eq_length_iff -> Ajg, filter_eq_nil_iff -> Ajh, ext_getElem? -> Aji, getElem?_mapIdx -> Ajj, set_append_right -> Ajk, setIfInBounds_toArray -> Ajl, set_cons_zero -> Ajm
open Nat renaming le_refl -> ϊ, le_of_lt -> Agz, le_of_eq -> Agw, zero_le -> ϡ, mul_one -> Agx, le_trans -> Ϥ, zero_add -> Aib, lt_succ_iff_lt_or_eq -> Agv
open Or renaming inl -> Ajn, inr -> Ajo
open Prod renaming fst -> Ajp
open Bool renaming true -> θ, false -> χ
open Go renaming Value -> υ, undef -> ω, World -> Ψ
open Go.Ending renaming returned -> Ω
open Go.IntKind renaming i64 -> κ
open Go.Lib renaming hid -> ψ
open Go.Obj renaming cells -> Ξ
open Go.RowKit renaming Below -> Γ, Below -> Γ
open Go.Value renaming slice -> ζ, pointer -> π, tuple -> μ, agg -> η, int -> ξ
open Option renaming some -> φ, none -> ν
namespace Go.Tw
variable [Go.Tw.aR]
open Go Go.Proofs Go.RowKit
def dP(F:Act->Ψ->Prop):Exit->Act->Ψ->Prop
 | .normal,a,w=>F a w
 |_,_,_=>False
def dP.imp{F:Act->Ψ->Prop}{Q:Exit->Act->Ψ->Prop}(h:∀a w,F a w->Q .normal a w):∀e a w,dP F e a w->Q e a w:=λe a w hf=>by
 cases e<;>first|exact h a w hf|exact(hf:False).elim
def rj(No:Nat->Prop)(g:Nat)(bv tv:υ)(k:Nat):Prop:=bv.ownBlock=φ k\/tv.ownBlock=φ k\/k=g+1\/No k
structure pI(w:Ψ)(No:Nat->Prop)(b:ao)(pv bv tv:υ)(bs:List (bR×υ))(ts:List (Tape×υ)):Prop where
 p:cW w No 4 Piece.R pv b.pieces
 bo:cW w No 3 (λp cs=>cs=eP p) bv bs
 t:cW w No 3 (λp cs=>cs=eG p) tv ts
 oW:bs.map Ajp=b.aF
 pD:ts.map Ajp=b.aJ
 kn:∀p∈bs,p.1.name.size<=ϗ/\cW w No 2 Span.R p.2 p.1.cM
 tp:∀p∈ts,cW w No 1 cH p.2 p.1.pieces
structure CI(No:Nat->Prop)(b:ao)(w W:Ψ)(g s1 s2:Nat)(pv bv tv:υ)(bs:List (bR×υ))(ts:List (Tape×υ)):Prop where
 box:Bk W g 26 #[ξ κ b.ag,pv,bv,tv]
 res:∃u0 u1 u2 u3,Bk W (g+1) 26 #[u0,u1,u2,u3]
 p:W.ownsRow (g+2) 72 4 pv b.pieces.length (b.pieces.flatMap vV)
 bo:W.ownsRow s1 59 3 bv bs.length (bs.flatMap eP)
 t:W.ownsRow s2 95 3 tv ts.length (ts.flatMap eG)
 oW:bs.map Ajp=b.aF
 pD:ts.map Ajp=b.aJ
 kn:∀p∈bs,cW W (rj No g bv tv) 2 Span.R p.2 p.1.cM
 tp:∀p∈ts,cW W (rj No g bv tv) 1 cH p.2 p.1.pieces
 below:Γ g w W
 gz:g=w.heap.size
 g1:g+2<=s1
 g2:s1<=s2
 pl:∀k,pv.ownBlock=φ k->k<s1
 bl:∀k,bv.ownBlock=φ k->k<s2
def CI.grown{No:Nat->Prop}{b:ao}{w W W':Ψ}{g s1 s2:Nat}{pv bv tv:υ}{bs:List (bR×υ)}{ts:List (Tape×υ)}(h:CI No b w W g s1 s2 pv bv tv bs ts)(hg:W.grownBy W' ν):CI No b w W' g s1 s2 pv bv tv bs ts where
 box:=h.box.grown hg (by simp)
 res:=by obtain⟨u0,u1,u2,u3,hr⟩:=h.res;exact⟨u0,u1,u2,u3,hr.grown hg (by simp)⟩
 p:=EJ h.p hg (by simp)
 bo:=EJ h.bo hg (by simp)
 t:=EJ h.t hg (by simp)
 oW:=h.oW
 pD:=h.pD
 kn p hp:=(h.kn p hp).grown hg (by simp)
 tp p hp:=(h.tp p hp).grown hg (by simp)
 below:=h.below.grown hg (by have:=h.box.lt;omega) (by simp)
 gz:=h.gz
 g1:=h.g1
 g2:=h.g2
 pl:=h.pl
 bl:=h.bl
def Xj{x:bR}{kv jC:υ}:∀ {bs:List (bR×υ)} {i:Nat},bs[i]?=φ (x,kv)->(bs.flatMap eP).set (i * 3+2) jC=(bs.set i (x,jC)).flatMap eP
 | [],i,h=>by simp at h
 |a::l,0,h=>by simp at h;subst h;simp[eP]
 |a::l,i+1,h=>by
  have e:(i+1) * 3+2=(i * 3+2)+1+1+1:=by omega
  have ih:=Xj (jC:=jC) (bs:=l) (i:=i) (by simpa using h)
  rw[e,Aht];simp only[eP,List.cons_append,Agr,ε,Aht];congr 3
def Xk{x:Tape}{kv jC:υ}:∀ {ts:List (Tape×υ)} {i:Nat},ts[i]?=φ (x,kv)->(ts.flatMap eG).set (i * 3) jC=(ts.set i (x,jC)).flatMap eG
 | [],i,h=>by simp at h
 |a::l,0,h=>by simp at h;subst h;simp[eG]
 |a::l,i+1,h=>by
  have e:(i+1) * 3=(i * 3)+1+1+1:=by omega
  have ih:=Xk (jC:=jC) (ts:=l) (i:=i) (by simpa using h)
  rw[e,Aht];simp only[eG,List.cons_append,Agr,ε,Aht];congr 3
def OU{α β:Type}:∀ {l:List (α×β)} {i:Nat} {x:α} {y y':β},l[i]?=φ (x,y)->(l.set i (x,y')).map Ajp=l.map Ajp
 | [],i,x,y,y',h=>by simp at h
 |a::l,0,x,y,y',h=>by simp at h;subst h;simp
 |a::l,i+1,x,y,y',h=>by
  rw[ε,List.map_cons,OU (l:=l) (y:=y) (by simpa using h),List.map_cons]
def mem_set{α:Type}{l:List α}{i:Nat}{a x:α}(h:x∈l.set i a):x∈l\/x=a:=List.mem_or_eq_of_mem_set h
section
variable {No:Nat->Prop}{b:ao}{w W:Ψ}{g s1 s2:Nat}{pv bv tv:υ}{bs:List (bR×υ)}{ts:List (Tape×υ)}
def CI.alm{rb n c i:Nat}{x:bR}{kv jC:υ}(h:CI No b w W g s1 s2 pv (ζ (φ ⟨rb,0,ν⟩) n c) tv bs ts)(hx:bs[i]?=φ (x,kv))(hk:cW W (rj No g (ζ (φ ⟨rb,0,ν⟩) n c) tv) 2 Span.R jC x.cM):
 CI No b w (W.setCell ⟨rb,i * 3+2,ν⟩ jC) g s1 s2 pv (ζ (φ ⟨rb,0,ν⟩) n c) tv (bs.set i (x,jC)) ts:=by
 have hn:n=bs.length:=by
  rcases h.bo.2 with⟨h0,_⟩ | ⟨g',zd,cur,h1,_⟩
  ·cases h0
  ·injection h1
 have ae:=ei h.bo rb rfl;have ak:=h.bl rb rfl;have g1:=h.g1;have hi:=(ϱ.1 hx).1
 have hG:=uV W ⟨rb,i * 3+2,ν⟩ jC;have hN:∀k,φ rb=φ k->rj No g (ζ (φ ⟨rb,0,ν⟩) n c) tv k:=λk e=>Ajn e
 refine⟨h.box.cu (by simp;omega) _,(by obtain⟨u0,u1,u2,u3,hr⟩:=h.res;exact⟨u0,u1,u2,u3,hr.cu (by simp;omega) _⟩),lj h.p (λk e=>by have:=h.pl k e;simp;omega),?_,lj h.t (λk e=>by have:=ei h.t k e;simp;omega),?_,h.pD,?_,λp hp=>(h.tp p hp).grown hG hN,h.below.setCell (by simp;omega) _,h.gz,h.g1,h.g2,h.pl,h.bl⟩
 ·have:=h.bo
  rw[<-hn] at this;rw[List.length_set,<-hn,<-Xj hx];exact IG this (by omega)
 ·rw[OU hx];exact h.oW
 ·intro p hp
  rcases mem_set hp with hp|rfl
  ·exact(h.kn p hp).grown hG hN
  ·exact hk.grown hG hN
def CI.alo{rb n c i:Nat}{x:Tape}{kv jC:υ}(h:CI No b w W g s1 s2 pv bv (ζ (φ ⟨rb,0,ν⟩) n c) bs ts)(hx:ts[i]?=φ (x,kv))(hk:cW W (rj No g bv (ζ (φ ⟨rb,0,ν⟩) n c)) 1 cH jC x.pieces):
 CI No b w (W.setCell ⟨rb,i * 3,ν⟩ jC) g s1 s2 pv bv (ζ (φ ⟨rb,0,ν⟩) n c) bs (ts.set i (x,jC)):=by
 have hn:n=ts.length:=by
  rcases h.t.2 with⟨h0,_⟩ | ⟨g',zd,cur,h1,_⟩
  ·cases h0
  ·injection h1
 have ae:=ei h.t rb rfl;have g1:=h.g1;have g2:=h.g2;have hi:=(ϱ.1 hx).1
 have hG:=uV W ⟨rb,i * 3,ν⟩ jC;have hN:∀k,φ rb=φ k->rj No g bv (ζ (φ ⟨rb,0,ν⟩) n c) k:=λk e=>Ajo (Ajn e)
 refine⟨h.box.cu (by simp;omega) _,(by obtain⟨u0,u1,u2,u3,hr⟩:=h.res;exact⟨u0,u1,u2,u3,hr.cu (by simp;omega) _⟩),lj h.p (λk e=>by have:=h.pl k e;simp;omega),lj h.bo (λk e=>by have:=h.bl k e;simp;omega),?_,h.oW,?_,λp hp=>(h.kn p hp).grown hG hN,?_,h.below.setCell (by simp;omega) _,h.gz,h.g1,h.g2,h.pl,h.bl⟩
 ·have:=h.t
  rw[<-hn] at this;rw[List.length_set,<-hn,<-Xk hx];exact IG this (by omega)
 ·rw[OU hx];exact h.pD
 ·intro p hp
  rcases mem_set hp with hp|rfl
  ·exact(h.tp p hp).grown hG hN
  ·exact hk.grown hG hN
def Bk.drew{w:Ψ}{g:Nat}{t:TypeId}{cs:Array υ}(h:Bk w g t cs):Bk w.drew g t cs:=h
def CI.start{W0 w3 w4 W:Ψ}{q1 q2 q3:υ}(h3:Γ W0.heap.size W0 w3)(h4:Γ w3.heap.size w3 w4)(h5:Γ w4.heap.size w4 W)(hz:w.heap.size+2<=W0.heap.size)
 (kb:Bk W w.heap.size 26 #[ξ κ b.ag,q1,q2,q3])(kr:Bk W (w.heap.size+1) 26 #[ξ κ 0,ζ ν 0 0,ζ ν 0 0,ζ ν 0 0])
 (o9:w3.ownsRow W0.heap.size 72 4 pv b.pieces.length (b.pieces.flatMap vV))(qN:w4.ownsRow w3.heap.size 59 3 bv bs.length (bs.flatMap eP))(Bb:W.ownsRow w4.heap.size 95 3 tv ts.length (ts.flatMap eG))
 (fe:bs.map Ajp=b.aF)(il:ts.map Ajp=b.aJ)(hb:∀p∈bs,cW w No 2 Span.R p.2 p.1.cM)(ht:∀p∈ts,cW w No 1 cH p.2 p.1.pieces)(xA:∀k,No k->k<w.heap.size)(bd:Γ w.heap.size w W0):
 CI No b w (((W.setCell ⟨w.heap.size,1,ν⟩ pv).setCell ⟨w.heap.size,2,ν⟩ bv).setCell ⟨w.heap.size,3,ν⟩ tv) w.heap.size w3.heap.size w4.heap.size pv bv tv bs ts:=by
 have e3:=h3.size;have e4:=h4.size;have e5:=h5.size;have bW:Γ w.heap.size w W:=((bd.trans (h3.mono (by omega))).trans (h4.mono (by omega))).trans (h5.mono (by omega))
 have bF:Γ w.heap.size w (((W.setCell ⟨w.heap.size,1,ν⟩ pv).setCell ⟨w.heap.size,2,ν⟩ bv).setCell ⟨w.heap.size,3,ν⟩ tv):=((bW.setCell (ϊ _) _).setCell (ϊ _) _).setCell (ϊ _) _;have l9:=vU o9;have V3:=vU qN;have g9:=ei o9;have g12:=ei qN;have g15:=ei Bb;have hN:∀k,rj No w.heap.size bv tv k->No k\/w.heap.size<=k:=λk hk=>by
  rcases hk with hk|hk|hk|hk
  ·have:=g12 k hk;omega
  ·have:=g15 k hk;omega
  ·omega
  ·exact Ajn hk
 have p9:W.ownsRow W0.heap.size 72 4 pv b.pieces.length (b.pieces.flatMap vV):=qO (qO o9 h4 (ϊ _)) h5 (ϊ _);have Ol:W.ownsRow w3.heap.size 59 3 bv bs.length (bs.flatMap eP):=qO qN h5 (ϊ _);refine⟨?_,⟨_,_,_,_,((kr.cu (by simp) _).cu (by simp) _).cu (by simp) _⟩,?_,?_,?_,fe,il,λp hp=>(hb p hp).below bF hN,λp hp=>(ht p hp).below bF hN,bF,rfl,by omega,by omega,l9,V3⟩
 ·exact((kb.set 1 pv).set 2 bv).set 3 tv
 ·exact(lj (lj (lj p9 (λk e=>by have:=g9 k e;simp;omega)) (λk e=>by have:=g9 k e;simp;omega)) (λk e=>by have:=g9 k e;simp;omega)).base hz
 ·exact lj (lj (lj Ol (λk e=>by have:=g12 k e;simp;omega)) (λk e=>by have:=g12 k e;simp;omega)) (λk e=>by have:=g12 k e;simp;omega)
 ·exact lj (lj (lj Bb (λk e=>by have:=g15 k e;simp;omega)) (λk e=>by have:=g15 k e;simp;omega)) (λk e=>by have:=g15 k e;simp;omega)
def CI.Gx{rb n c i j:Nat}{p:bR×υ}{u:υ}(h:CI No b w W g s1 s2 pv (ζ (φ ⟨rb,0,ν⟩) n c) tv bs ts)(hx:bs[i]?=φ p)(hu:(eP p)[j]?=φ u): W.cell? ⟨rb,i * 3+j,ν⟩=φ u:=by
 have hn:=Be h.bo;have h2:=h.bo;rw[<-hn] at h2;have:=vT h2 _ _ (GL (f:=eP) (sz:=3) (λ_=>rfl) bs i _ j u hx hu)
 rwa[nu] at this
def CI.Gy{rb n c i j:Nat}{p:Tape×υ}{u:υ}(h:CI No b w W g s1 s2 pv bv (ζ (φ ⟨rb,0,ν⟩) n c) bs ts)(hx:ts[i]?=φ p)(hu:(eG p)[j]?=φ u): W.cell? ⟨rb,i * 3+j,ν⟩=φ u:=by
 have hn:=Be h.t;have h2:=h.t;rw[<-hn] at h2;have:=vT h2 _ _ (GL (f:=eG) (sz:=3) (λ_=>rfl) ts i _ j u hx hu)
 rwa[nu] at this
def CI.ac1{rb n c:Nat}(h:CI No b w W g s1 s2 pv (ζ (φ ⟨rb,0,ν⟩) n c) tv bs ts)(i:Nat): W.frozen? ⟨rb,i,ν⟩=χ:=by
 rcases h.bo.2 with⟨h0,_⟩ | ⟨g',zd,cur,h1,_,h3,_⟩
 ·cases h0
 ·injection h1 with h1;injection h1 with h1;injection h1 with h1;subst h1
  rw[Go.Sim.xm (a:=⟨rb,i,ν⟩) h3];rfl
def CI.ac2{rb n c:Nat}(h:CI No b w W g s1 s2 pv bv (ζ (φ ⟨rb,0,ν⟩) n c) bs ts)(i:Nat): W.frozen? ⟨rb,i,ν⟩=χ:=by
 rcases h.t.2 with⟨h0,_⟩ | ⟨g',zd,cur,h1,_,h3,_⟩
 ·cases h0
 ·injection h1 with h1;injection h1 with h1;injection h1 with h1;subst h1
  rw[Go.Sim.xm (a:=⟨rb,i,ν⟩) h3];rfl
def CI.Ja{i:Nat}{u:υ}(h:CI No b w W g s1 s2 pv bv tv bs ts)(hi:i<4):CI No b w (W.setCell ⟨g+1,i,ν⟩ u) g s1 s2 pv bv tv bs ts:=by
 have g1:=h.g1;have g2:=h.g2;have hG:=uV W ⟨g+1,i,ν⟩ u;have hN:∀k,φ (g+1)=φ k->rj No g bv tv k:=λk e=>Ajo (Ajo (Ajn (by injection e with e;exact e.symm)))
 refine⟨h.box.cu (by simp) _,?_,lj h.p (λk e=>by have:=ei h.p k e;simp;omega),lj h.bo (λk e=>by have:=ei h.bo k e;simp;omega),lj h.t (λk e=>by have:=ei h.t k e;simp;omega),h.oW,h.pD,λp hp=>(h.kn p hp).grown hG hN,λp hp=>(h.tp p hp).grown hG hN,h.below.setCell (by simp) _,h.gz,h.g1,h.g2,h.pl,h.bl⟩
 obtain⟨u0,u1,u2,u3,hr⟩:=h.res;have:=hr.set i u;match i,hi with
 |0,_=>exact⟨u,u1,u2,u3,this⟩
 |1,_=>exact⟨u0,u,u2,u3,this⟩
 |2,_=>exact⟨u0,u1,u,u3,this⟩
 |3,_=>exact⟨u0,u1,u2,u,this⟩
def yY{α β:Type}{w:Ψ}{B sz:Nat}{R':α×β->List υ->Prop}{R:α->List υ->Prop}{v:υ}{ps:List (α×β)}(h:Row w B sz R' v ps)(hR:∀p∈ps,∀cs,R' p cs->R p.1 cs):Row w B sz R v (ps.map Ajp):=by
 obtain⟨A,c,hv,h1,h2,h3⟩:=h;refine⟨A,c,by rw[Ah8];exact hv,by rw[Ah8];exact h1,h2,λaw=>?_⟩
 obtain⟨ad,ha,hb,hc⟩:=h3 (by intro e;rw[e] at aw;exact aw rfl)
 refine⟨ad,ha,hb,λi x hi=>?_⟩
 rw[Ah9] at hi
 cases e:ps[i]? with
 |none=>rw[e] at hi;cases hi
 |some p=>
  rw[e] at hi;simp at hi;subst hi
  obtain⟨cs,r,hl,au⟩:=hc i p e;exact⟨cs,hR p (ϩ e) cs r,hl,au⟩
def CI.ZO(h:CI No b w W g s1 s2 pv bv tv bs ts)(hp:∀p∈b.pieces,p.name.size<=ϗ)(hx:∀x∈b.aF,x.name.size<=ϗ)(xA:∀k,No k->k<g):pI W No b pv bv tv bs ts:=by
 have g1:=h.g1;have g2:=h.g2;refine⟨cW.vO h.p (λ_=>rfl) (λp hm=>⟨rfl,hp p hm⟩) (λk hk=>by have:=xA k hk;omega),cW.vO h.bo (λ_=>rfl) (λp hm=>rfl) (λk hk=>by have:=xA k hk;omega),cW.vO h.t (λ_=>rfl) (λp hm=>rfl) (λk hk=>by have:=xA k hk;omega),h.oW,h.pD,λp hm=>⟨hx p.1 ?_,(h.kn p hm).weaken λk hk=>Ajo (Ajo (Ajo hk))⟩,λp hm=>(h.tp p hm).weaken λk hk=>Ajo (Ajo (Ajo hk))⟩
 rw[<-h.oW];exact Ahx.2 ⟨p,hm,rfl⟩
def pI.grown{W':Ψ}{row:Option Nat}(h:pI W No b pv bv tv bs ts)(hg:W.grownBy W' row)(hr:∀k,row=φ k->No k):pI W' No b pv bv tv bs ts:=
 ⟨h.p.grown hg hr,h.bo.grown hg hr,h.t.grown hg hr,h.oW,h.pD,λp hp=>⟨(h.kn p hp).1,(h.kn p hp).2.grown hg hr⟩,λp hp=>(h.tp p hp).grown hg hr⟩
def pI.book(h:pI W No b pv bv tv bs ts):bg W W.heap.size b pv bv tv:=by
 refine⟨h.p.row,?_,?_⟩
 ·rw[<-h.oW]
  exact yY h.bo.row (λp hm cs hc=>⟨p.2,hc,(h.kn p hm).1,(h.kn p hm).2.row⟩)
 ·rw[<-h.pD]
  exact yY h.t.row (λp hm cs hc=>⟨p.2,hc,(h.tp p hm).row⟩)
def bg.um{B:Nat}(h:bg W B b pv bv tv)(hB:B<=W.heap.size)(hN:∀k,No k->B<=k):∃bs ts,pI W No b pv bv tv bs ts:=by
 obtain⟨bs,fe,xH⟩:=I1 (R':=λ(p:bR×υ) cs=>cs=eP p/\p.1.name.size<=ϗ/\Row W B 2 Span.R p.2 p.1.cM) h.aF (λx cs ⟨kv,h1,h2,h3⟩=>⟨kv,h1,h2,h3⟩)
 obtain⟨ts,il,pg⟩:=I1 (R':=λ(p:Tape×υ) cs=>cs=eG p/\Row W B 1 cH p.2 p.1.pieces) h.aJ (λx cs ⟨kv,h1,h3⟩=>⟨kv,h1,h3⟩)
 have ox:∀p∈bs,p.1.name.size<=ϗ/\Row W B 2 Span.R p.2 p.1.cM:=λp hp=>by obtain⟨cs,h1,h2⟩:=xH.mem p hp;exact h2
 have rS:∀p∈ts,Row W B 1 cH p.2 p.1.pieces:=λp hp=>by obtain⟨cs,h1,h2⟩:=pg.mem p hp;exact h2
 exact⟨bs,ts,h.pieces.um hB hN,(xH.still (Δ.refl W) λ_ _ h=>h.1).um hB hN,(pg.still (Δ.refl W) λ_ _ h=>h.1).um hB hN,fe,il,λp hp=>⟨(ox p hp).1,(ox p hp).2.um hB hN⟩,λp hp=>(rS p hp).um hB hN⟩
end
end Go.Tw
namespace Go.Tw
variable [Go.Tw.aR]
open Go Go.Proofs Go.RowKit
def ajI(x:Piece):∀u∈vV x,u.oneCell'=θ:=by simp[vV,Value.oneCell']
def ago(x:Int):∀u∈ [ξ κ x],u.oneCell'=θ:=by simp[Value.oneCell']
def al5(x:Span):∀u∈Span.vs x,u.oneCell'=θ:=by simp[Span.vs,Value.oneCell']
def Rh(v:υ):Prop:=∃A n c,v=ζ A n c
def pw{w:Ψ}{base:Nat}{e:TypeId}{sz n:Nat}{v:υ}{xs:List υ}(h:w.ownsRow base e sz v n xs):Rh v:=j8 h
def copied{No:Nat->Prop}{w:Ψ}{b:ao}{pv bv tv:υ}{bs:List (bR×υ)}{ts:List (Tape×υ)}(hN:pI w No b pv bv tv bs ts)(xA:∀k,No k->k<w.heap.size)(hv:Valid b):
 ύ prog 136 #[η #[ξ κ b.ag,pv,bv,tv]] w λe w'=>∃ix ia fD oV qT,e=Ω (η #[ξ κ b.ag,ix,ia,fD])/\pI w' No b ix ia fD oV qT/\Γ w.heap.size w w':=by
 have ai:=hN.book;have HP:Hid (Row w w.heap.size 4 (λx cs=>cs=vV x) pv b.pieces):=ψ (ai.pieces.still (Δ.refl w) λ_ _ h=>h.1)
 have fe:=hN.oW;have il:=hN.pD;have ox:∀p∈bs,cW w No 2 Span.R p.2 p.1.cM:=λp hp=>(hN.kn p hp).2
 have rS:∀p∈ts,cW w No 1 cH p.2 p.1.pieces:=hN.tp
 have YR:Hid (∀p∈b.pieces,p.name.size<=ϗ):=ψ (λp hp=>by obtain⟨cs,h1,h2⟩:=ai.pieces.mem p hp;exact h2)
 have Y1:Hid (∀x∈b.aF,x.name.size<=ϗ):=ψ (λp hp=>by obtain⟨cs,kv,h1,h2,h3⟩:=ai.aF.mem p hp;exact h2)
 have F4:Hid (Row w w.heap.size 3 (λp cs=>cs=eP p) bv bs):=ψ hN.bo.row
 have YZ:Hid (Row w w.heap.size 3 (λp cs=>cs=eG p) tv ts):=ψ hN.t.row
 have sT:=ψ xA;have hB:w.heap.size<=w.heap.size:=ϊ _;have Dq:∀p∈bs,∀u∈eP p,u.oneCell'=θ:=λp hp u hu=>by
  obtain⟨A,c,e,_⟩:=(ox p hp);simp[eP] at hu;rcases hu with rfl|rfl|rfl
  ·rfl
  ·rfl
  ·rw[e];rfl
 have Vk:∀p∈ts,∀u∈eG p,u.oneCell'=θ:=λp hp u hu=>by
  obtain⟨A,c,e,_⟩:=rS p hp;simp[eG] at hu;rcases hu with rfl|rfl|rfl
  ·rw[e];rfl
  ·rfl
  ·rfl
 have fX:bs.length=b.aF.length:=by rw[<-fe,Ah8]
 have qG:ts.length=b.aJ.length:=by rw[<-il,Ah8]
 have C1:Hid (∀w',Δ w.heap.size w w'->w.heap.size<=w'.heap.size->ύ prog 155 #[pv] w' λe bq=>∃v',e=Ω v'/\bq.ownsRow w'.heap.size 72 4 v' b.pieces.length (b.pieces.flatMap vV)/\Γ w'.heap.size w' bq):=
  ψ λw' hs hz=>aaG (HP.e.still hs λ_ _ h=>h) hz (λ_=>rfl) (λp _=>ajI p) (by have:=hv.np;omega)
 have C2:Hid (∀w',Δ w.heap.size w w'->w.heap.size<=w'.heap.size->ύ prog 135 #[bv] w' λe bq=>∃v',e=Ω v'/\bq.ownsRow w'.heap.size 59 3 v' bs.length (bs.flatMap eP)/\Γ w'.heap.size w' bq):=
  ψ λw' hs hz=>Su (F4.e.still hs λ_ _ h=>h) hz (λ_=>rfl) Dq (by have:=hv.nb;omega)
 have C3:Hid (∀w',Δ w.heap.size w w'->w.heap.size<=w'.heap.size->ύ prog 158 #[tv] w' λe bq=>∃v',e=Ω v'/\bq.ownsRow w'.heap.size 95 3 v' ts.length (ts.flatMap eG)/\Γ w'.heap.size w' bq):=
  ψ λw' hs hz=>aaM (YZ.e.still hs λ_ _ h=>h) hz (λ_=>rfl) Vk (by have:=hv.nt;omega)
 have HM:=ψ (ϐ ox (ϐ rS (ϐ fe (ϐ il (ϐ fX qG)))));obtain⟨A1,n1,c1,rfl,-⟩:=ai.pieces.Φ;obtain⟨A2,n2,c2,rfl,-⟩:=ai.aF.Φ;obtain⟨A3,n3,c3,rfl,-⟩:=ai.aJ.Φ;have HV:=ψ hv;clear ai hv ox rS Dq Vk fe il fX qG hN xA;go_enter func136,Tryz.ntmps136;go_wp2;obtain⟨W0,z8⟩:∃W0,W0=((w.alloc (Ξ #[ξ κ b.ag,ζ A1 n1 c1,ζ A2 n2 c2,ζ A3 n3 c3] 26)).alloc (Ξ #[ξ κ 0,ζ ν 0 0,ζ ν 0 0,ζ ν 0 0] 26)):=⟨_,rfl⟩
 rw[<-z8];have kb:Bk W0 w.heap.size 26 #[ξ κ b.ag,ζ A1 n1 c1,ζ A2 n2 c2,ζ A3 n3 c3]:=by rw[z8];exact(Bk.new w _ _).alloc _
 have kr:Bk W0 (w.heap.size+1) 26 #[ξ κ 0,ζ ν 0 0,ζ ν 0 0,ζ ν 0 0]:=by rw[z8];exact Bk.cG (by simp) _ _
 have bw:Γ w.heap.size w W0:=by rw[z8];exact(((Ϗ _ _).alloc (ϊ _) _).alloc (by simp) _)
 have cT:W0.heap.size=w.heap.size+2:=by rw[z8];simp
 have KB:=ψ (ϐ kb kr);have BW:=ψ bw;have k1:=kb.cell 1;have k2:=kb.cell 2;have k3:=kb.cell 3;clear z8 kb kr bw;have KD:Hid (Bk W0.drew w.heap.size 26 #[ξ κ b.ag,ζ A1 n1 c1,ζ A2 n2 c2,ζ A3 n3 c3]):=ψ KB.e.1;have BD:Hid (Γ w.heap.size w W0.drew):=ψ (iY BW.e);have ZD:w.heap.size<W0.drew.heap.size:=KD.e.lt;have SB:Hid (∀w',Γ w.heap.size w w'->Δ w.heap.size w w'/\w.heap.size<=w'.heap.size):=ψ λw' h=>⟨Δ.aK h hB,by have:=h.size;omega⟩
 refine Code.wp_mono (Q:=dP λa W=>∃A9 n9 c9 mh iq c12 pG n15 c15,a={tmps:=#[Value.agg #[ϝ Ϛ b.ag,Value.slice A1 n1 c1,Value.slice A2 n2 c2,Value.slice A3 n3 c3],Value.pointer (φ {block:=w.heap.size,off:=0}),Value.pointer (φ {block:=w.heap.size+1,off:=0}),ω,ω,ω,ω,Value.pointer (φ {block:=w.heap.size,off:=1}),Value.slice A1 n1 c1,Value.slice A9 n9 c9,Value.pointer (φ {block:=w.heap.size,off:=2}),Value.slice A2 n2 c2,Value.slice mh iq c12,Value.pointer (φ {block:=w.heap.size,off:=3}),Value.slice A3 n3 c3,Value.slice pG n15 c15,Value.pointer (φ {block:=w.heap.size,off:=1}),Value.pointer (φ {block:=w.heap.size,off:=2}),Value.pointer (φ {block:=w.heap.size,off:=3}),ω,ω,ω,ω,ω,ω,ω,ω,ω,ω,ω,ω,ω,ω,ω,ω,ω,ω,ω,ω,ω,ω,ω,ω,ω,ω,ω,ω,ω,ω,ω,ω,ω,ω,ω],defers:=[]}/\Hid (∃s1 s2,CI No b w W w.heap.size s1 s2 (ζ A9 n9 c9) (ζ mh iq c12) (ζ pG n15 c15) bs ts)) ?post ?region
 case region=>
  go_region_with (first
   | (go_at_call 155
      refine(C1.e _ ?h1 ?h2).mono ?_
      case h1=>exact(SB.e _ BD.e).1
      case h2=>exact(SB.e _ BD.e).2
      rintro e w3 ⟨v9,rfl,o9,bD⟩;have k1: w3.cell? ⟨w.heap.size,1,ν⟩=φ (ζ A1 n1 c1):=(KD.e.below bD ZD).cell 1;have k2: w3.cell? ⟨w.heap.size,2,ν⟩=φ (ζ A2 n2 c2):=(KD.e.below bD ZD).cell 2;have k3: w3.cell? ⟨w.heap.size,3,ν⟩=φ (ζ A3 n3 c3):=(KD.e.below bD ZD).cell 3;have fw:=ψ bD;have O9:=ψ o9;obtain⟨A9,n9,c9,rfl⟩:=pw o9;clear bD o9)
   | (go_at_call 135
      refine(C2.e _ ?h1 ?h2).mono ?_
      case h1=>exact(SB.e _ (BD.e.trans (fw.e.mono (Agz ZD)))).1
      case h2=>exact(SB.e _ (BD.e.trans (fw.e.mono (Agz ZD)))).2
      rintro e w4 ⟨v12,rfl,qN,cO⟩;have k3: w4.cell? ⟨w.heap.size,3,ν⟩=φ (ζ A3 n3 c3):=((KD.e.below fw.e ZD).below cO (by have:=fw.e.size;omega)).cell 3
      have jK:=ψ cO;have zv:=ψ qN;obtain⟨mh,iq,c12,rfl⟩:=pw qN;clear cO qN)
   | (go_at_call 158
      refine(C3.e _ ?h1 ?h2).mono ?_
      case h1=>exact(SB.e _ ((BD.e.trans (fw.e.mono (Agz ZD))).trans (jK.e.mono (by have:=fw.e.size;omega)))).1
      case h2=>exact(SB.e _ ((BD.e.trans (fw.e.mono (Agz ZD))).trans (jK.e.mono (by have:=fw.e.size;omega)))).2
      rintro e w5 ⟨v15,rfl,Bb,eR⟩;have uD:Hid (Bk w5 w.heap.size 26 #[ξ κ b.ag,ζ A1 n1 c1,ζ A2 n2 c2,ζ A3 n3 c3]):=ψ (((KD.e.below fw.e ZD).below jK.e (by have:=fw.e.size;omega)).below eR (by have:=fw.e.size;have:=jK.e.size;omega))
      have z5:w.heap.size<w5.heap.size:=uD.e.lt;have f1: w5.frozen? ⟨w.heap.size,1,ν⟩=χ:=uD.e.frozen 1;have f2: w5.frozen? ⟨w.heap.size,2,ν⟩=χ:=uD.e.frozen 2;have f3: w5.frozen? ⟨w.heap.size,3,ν⟩=χ:=uD.e.frozen 3;have k1: w5.cell? ⟨w.heap.size,1,ν⟩=φ (ζ A1 n1 c1):=uD.e.cell 1;have k2: w5.cell? ⟨w.heap.size,2,ν⟩=φ (ζ A2 n2 c2):=uD.e.cell 2;have k3: w5.cell? ⟨w.heap.size,3,ν⟩=φ (ζ A3 n3 c3):=uD.e.cell 3;have mi:=ψ eR;have Zc:=ψ Bb;obtain⟨pG,n15,c15,rfl⟩:=pw Bb;clear eR Bb))
  all_goals
   show ∃_,_
   refine⟨_,_,_,_,_,_,_,_,_,rfl,ψ ⟨w3.heap.size,w4.heap.size,?_⟩⟩
   have e3:=fw.e.size;have e4:=jK.e.size;have Ca:w.heap.size+2<=W0.drew.heap.size:=Agw cT.symm;refine CI.start (W:=w5) fw.e jK.e mi.e Ca uD.e (((KB.e.2.drew.below fw.e (by omega)).below jK.e (by omega)).below mi.e (by omega)) O9.e zv.e Zc.e HM.e.2.2.1 HM.e.2.2.2.1 HM.e.1 HM.e.2.1 sT.e BD.e
 case post=>
  clear C1 C2 C3 KB KD BD BW HP k1 k2 k3 SB;refine dP.imp ?_
  rintro a W ⟨A9,n9,c9,mh,iq,c12,pG,n15,c15,rfl,s1,s2,HC⟩;have UB:iq=bs.length:=Be HC.bo;have UC:n15=ts.length:=Be HC.t;have aov:iq<=3:=by have:=HV.e.nb;have:=HM.e.2.2.2.2.1;omega
  have aox:n15<=4:=by have:=HV.e.nt;have:=HM.e.2.2.2.2.2;omega
  have k2: W.cell? ⟨w.heap.size,2,ν⟩=φ (ζ mh iq c12):=HC.box.cell 2;have an3:iq<=c12/\c12<=2 ^ 63 - 1:=Wt HC.bo;have an4:n15<=c15/\c15<=2 ^ 63 - 1:=Wt HC.t;have HL:=ψ (ϐ UB UC);clear UB UC;have HC:=ψ HC;rename_i Kt;clear Kt ZD cT;go_wp2;clear k2;go_loopw [22] (λu wr=>∃i:Nat,i<=iq/\u=ξ κ i/\Hid (∃oV,CI No b w wr w.heap.size s1 s2 (ζ A9 n9 c9) (ζ mh iq c12) (ζ pG n15 c15) oV ts)) (λu _=>iq - (ϙ u).toNat)
  case atStart=>exact⟨0,ϡ _,rfl,ψ ⟨bs,HC.e⟩⟩
  case round=>
   obtain⟨i,hi,rfl,oV,hC⟩:=hrel;by_cases al:i<iq
   ·obtain⟨rb,rfl⟩:=Ww hC.bo (by omega)
    have tE:iq=oV.length:=Be hC.bo;obtain⟨⟨x,kv⟩,hx⟩:∃p,oV[i]?=φ p:=⟨_,Af9 (by omega)⟩
    have da:=hC.kn _ (ϩ hx);simp only at da;have hxs:x.cM.length<=3:=by
     have:x∈b.aF:=by rw[<-hC.oW];exact Ahx.2 ⟨_,ϩ hx,rfl⟩
     exact(HV.e.bp x this).cM
    obtain⟨kn,rI⟩:∃k,k=x.cM:=⟨_,rfl⟩
    rw[<-rI] at da hxs;obtain⟨m5,rN⟩:∃m,m=kn.length:=⟨_,rfl⟩
    obtain⟨A5,c5,rfl,-⟩:=id da;rw[<-rN] at da hxs hx;have g0: wr.cell? ⟨rb,i * 3,ν⟩=φ (.string x.name):=hC.Gx (j:=0) hx rfl;have g1: wr.cell? ⟨rb,i * 3+1,ν⟩=φ (ξ κ x.aH):=hC.Gx (j:=1) hx rfl;have g2: wr.cell? ⟨rb,i * 3+2,ν⟩=φ (ζ A5 m5 c5):=hC.Gx (j:=2) hx rfl;have mF:rb<wr.heap.size:=vU hC.bo rb rfl;have Aq:w.heap.size<rb:=by have:=ei hC.bo rb rfl;have:=hC.g1;omega
    have HX:=ψ (ϐ hx (ϐ rI rN));have KE:=ψ da;have qZ:=ψ hC;clear hx da hC rI rN tE;go_wp2;have oo:=qZ.e.grown (W':=(wr.alloc (Ξ #[.string x.name,ξ κ x.aH,ζ A5 m5 c5] 59)).drew) (qd wr _ ν);have Kx:=ψ oo;have Ep:(wr.alloc (Ξ #[.string x.name,ξ κ x.aH,ζ A5 m5 c5] 59)).drew.cell? ⟨w.heap.size,2,ν⟩=φ (ζ (φ ⟨rb,0,ν⟩) iq c12):=oo.box.cell 2;have Di:(wr.alloc (Ξ #[.string x.name,ξ κ x.aH,ζ A5 m5 c5] 59)).drew.cell? ⟨wr.heap.size,2,ν⟩=φ (ζ A5 m5 c5):=(Bk.new wr _ _).cell 2;have aB:Hid (ύ prog 179 #[ζ A5 m5 c5] (wr.alloc (Ξ #[.string x.name,ξ κ x.aH,ζ A5 m5 c5] 59)).drew λe w'=>∃v',e=Ω v'/\
     cW w' (rj No w.heap.size (ζ (φ ⟨rb,0,ν⟩) iq c12) (ζ pG n15 c15)) 2 Span.R v' kn/\Γ (wr.alloc (Ξ #[.string x.name,ξ κ x.aH,ζ A5 m5 c5] 59)).drew.heap.size (wr.alloc (Ξ #[.string x.name,ξ κ x.aH,ζ A5 m5 c5] 59)).drew w'):=ψ (by
     have hk:=KE.e.grown (w':=(wr.alloc (Ξ #[.string x.name,ξ κ x.aH,ζ A5 m5 c5] 59)).drew) (qd wr _ ν) (by simp)
     obtain⟨r0,r1,r2,r3,lf⟩:=oo.res;refine(aaJ hk.row (ϊ _) (λ_=>rfl) (λp _=>al5 p) (by rw[<-HX.e.2.2];omega)).mono ?_
     rintro e w' ⟨v',rfl,ho,hb⟩;refine⟨v',rfl,cW.vO ho (λ_=>rfl) (λ_ _=>rfl) (λk hk=>?_),hb⟩
     rcases hk with hk|hk|hk|hk
     ·exact vU oo.bo k hk
     ·exact vU oo.t k hk
     ·rw[hk];exact lf.lt
     ·have:=sT.e k hk;have:=lf.lt;omega)
    clear oo;go_region_held3 (λw'=> w'.cell? ⟨w.heap.size,2,ν⟩=φ (ζ (φ ⟨rb,0,ν⟩) iq c12)/\ w'.cell? ⟨wr.heap.size,2,ν⟩=φ (ζ A5 m5 c5))
     (first|exact⟨Ep,Di⟩ |exact⟨mH,ak⟩ |exact⟨rY _,ef _⟩)
     (first
       | (go_at_call 179
          refine aB.e.mono ?_
          rintro e w5 ⟨v9,rfl,r9,oZ⟩;obtain⟨A7,c7,rfl,-⟩:=id r9;have mH: w5.cell? ⟨w.heap.size,2,ν⟩=φ (ζ (φ ⟨rb,0,ν⟩) iq c12):=(oZ.cell (by simp;omega)).trans Ep
          have ak: w5.cell? ⟨wr.heap.size,2,ν⟩=φ (ζ A5 m5 c5):=(oZ.cell (by simp)).trans Di
          have cX:=Kx.e.grown (je oZ (ϊ _) ν);have hg: w5.cell? ⟨rb,i * 3+2,ν⟩=φ (ζ A5 m5 c5):=cX.Gx (j:=2) HX.e.1 rfl;have hf: w5.frozen? ⟨rb,i * 3+2,ν⟩=χ:=cX.ac1 _;have rY:∀u,(w5.setCell ⟨rb,i * 3+2,ν⟩ u).cell? ⟨w.heap.size,2,ν⟩=φ (ζ (φ ⟨rb,0,ν⟩) iq c12):=λu=>(Aiv _ _ _ _ (by simp;omega)).trans mH
          have ef:∀u,(w5.setCell ⟨rb,i * 3+2,ν⟩ u).cell? ⟨wr.heap.size,2,ν⟩=φ (ζ A5 m5 c5):=λu=>(Aiv _ _ _ _ (by simp;omega)).trans ak
          have lF:=ψ (ϐ r9 cX);clear oZ r9 cX))
    go_wp2;go_roundw;case rel=>exact⟨i+1,by omega,by go_num,ψ ⟨_,lF.e.2.alm HX.e.1 (by rw[<-HX.e.2.1];exact lF.e.1)⟩⟩
    case measure=>simp[ϙ];omega
   ·obtain rfl:i=iq:=by omega
    have Ku:=ψ hC;obtain⟨wb,rfl⟩:∃wb:Ψ,wb=wr:=⟨_,rfl⟩
    have k3: wb.cell? ⟨w.heap.size,3,ν⟩=φ (ζ pG n15 c15):=hC.box.cell 3;clear hC;go_wp2;clear k3;go_loopw [39] (λu wr=>∃k:Nat,k<=n15/\u=ξ κ k/\Hid (∃qT,CI No b w wr w.heap.size s1 s2 (ζ A9 n9 c9) (ζ mh i c12) (ζ pG n15 c15) oV qT)) (λu _=>n15 - (ϙ u).toNat)
    case atStart=>exact⟨0,ϡ _,rfl,ψ ⟨ts,Ku.e⟩⟩
    case round=>
     obtain⟨k,hk,rfl,qT,hC⟩:=hrel;by_cases al:k<n15
     ·obtain⟨rb,rfl⟩:=Ww hC.t (by omega)
      have tE:n15=qT.length:=Be hC.t;obtain⟨⟨x,kv⟩,hx⟩:∃p,qT[k]?=φ p:=⟨_,Af9 (by omega)⟩
      have da:=hC.tp _ (ϩ hx);simp only at da;have hxs:x.pieces.length<=3:=by
       have:x∈b.aJ:=by rw[<-hC.pD];exact Ahx.2 ⟨_,ϩ hx,rfl⟩
       have:=(HV.e.tape x this).2;have:=HV.e.np;omega
      obtain⟨kn,rI⟩:∃k,k=x.pieces:=⟨_,rfl⟩
      rw[<-rI] at da hxs;obtain⟨m5,rN⟩:∃m,m=kn.length:=⟨_,rfl⟩
      obtain⟨A5,c5,rfl,-⟩:=id da;rw[<-rN] at da hxs hx;have g0: wr.cell? ⟨rb,k * 3,ν⟩=φ (ζ A5 m5 c5):=hC.Gy (j:=0) hx rfl;have g1: wr.cell? ⟨rb,k * 3+1,ν⟩=φ (ξ κ x.sum.lo):=hC.Gy (j:=1) hx rfl;have g2: wr.cell? ⟨rb,k * 3+2,ν⟩=φ (ξ κ x.sum.hi):=hC.Gy (j:=2) hx rfl;have mF:rb<wr.heap.size:=vU hC.t rb rfl;have Aq:w.heap.size<rb:=by have:=ei hC.t rb rfl;have:=hC.g1;have:=hC.g2;omega
      have HX:=ψ (ϐ hx (ϐ rI rN));have KE:=ψ da;have qZ:=ψ hC;clear hx da hC rI rN tE;go_wp2;have oo:=qZ.e.grown (W':=(wr.alloc (Ξ #[ζ A5 m5 c5,ξ κ x.sum.lo,ξ κ x.sum.hi] 95)).drew) (qd wr _ ν);have Kx:=ψ oo;have Ep:(wr.alloc (Ξ #[ζ A5 m5 c5,ξ κ x.sum.lo,ξ κ x.sum.hi] 95)).drew.cell? ⟨w.heap.size,3,ν⟩=φ (ζ (φ ⟨rb,0,ν⟩) n15 c15):=oo.box.cell 3;have Di:(wr.alloc (Ξ #[ζ A5 m5 c5,ξ κ x.sum.lo,ξ κ x.sum.hi] 95)).drew.cell? ⟨wr.heap.size,0,ν⟩=φ (ζ A5 m5 c5):=(Bk.new wr _ _).cell 0;have aB:Hid (ύ prog 180 #[ζ A5 m5 c5] (wr.alloc (Ξ #[ζ A5 m5 c5,ξ κ x.sum.lo,ξ κ x.sum.hi] 95)).drew λe w'=>∃v',e=Ω v'/\
               cW w' (rj No w.heap.size (ζ mh i c12) (ζ (φ ⟨rb,0,ν⟩) n15 c15)) 1 cH v' kn/\Γ (wr.alloc (Ξ #[ζ A5 m5 c5,ξ κ x.sum.lo,ξ κ x.sum.hi] 95)).drew.heap.size (wr.alloc (Ξ #[ζ A5 m5 c5,ξ κ x.sum.lo,ξ κ x.sum.hi] 95)).drew w'):=ψ (by
       have hk:=KE.e.grown (w':=(wr.alloc (Ξ #[ζ A5 m5 c5,ξ κ x.sum.lo,ξ κ x.sum.hi] 95)).drew) (qd wr _ ν) (by simp)
       obtain⟨r0,r1,r2,r3,lf⟩:=oo.res;refine(aaD (f:=λn=> [ξ κ n]) hk.row (ϊ _) (λ_=>rfl) (λp _=>ago p) (by rw[<-HX.e.2.2];omega)).mono ?_
       rintro e w' ⟨v',rfl,ho,hb⟩;refine⟨v',rfl,cW.vO ho (λ_=>rfl) (λ_ _=>rfl) (λk hk=>?_),hb⟩
       rcases hk with hk|hk|hk|hk
       ·exact vU oo.bo k hk
       ·exact vU oo.t k hk
       ·rw[hk];exact lf.lt
       ·have:=sT.e k hk;have:=lf.lt;omega)
      clear oo;go_region_held3 (λw'=> w'.cell? ⟨w.heap.size,3,ν⟩=φ (ζ (φ ⟨rb,0,ν⟩) n15 c15)/\ w'.cell? ⟨wr.heap.size,0,ν⟩=φ (ζ A5 m5 c5))
       (first|exact⟨Ep,Di⟩ |exact⟨mH,ak⟩ |exact⟨rY _,ef _⟩)
       (first
               | (go_at_call 180
                  refine aB.e.mono ?_
                  rintro e w5 ⟨v9,rfl,r9,oZ⟩;obtain⟨A7,c7,rfl,-⟩:=id r9;have mH: w5.cell? ⟨w.heap.size,3,ν⟩=φ (ζ (φ ⟨rb,0,ν⟩) n15 c15):=(oZ.cell (by simp;omega)).trans Ep
                  have ak: w5.cell? ⟨wr.heap.size,0,ν⟩=φ (ζ A5 m5 c5):=(oZ.cell (by simp)).trans Di
                  have cX:=Kx.e.grown (je oZ (ϊ _) ν);have hg: w5.cell? ⟨rb,k * 3,ν⟩=φ (ζ A5 m5 c5):=cX.Gy (j:=0) HX.e.1 rfl;have hf: w5.frozen? ⟨rb,k * 3,ν⟩=χ:=cX.ac2 _;have rY:∀u,(w5.setCell ⟨rb,k * 3,ν⟩ u).cell? ⟨w.heap.size,3,ν⟩=φ (ζ (φ ⟨rb,0,ν⟩) n15 c15):=λu=>(Aiv _ _ _ _ (by simp;omega)).trans mH
                  have ef:∀u,(w5.setCell ⟨rb,k * 3,ν⟩ u).cell? ⟨wr.heap.size,0,ν⟩=φ (ζ A5 m5 c5):=λu=>(Aiv _ _ _ _ (by simp;omega)).trans ak
                  have lF:=ψ (ϐ r9 cX);clear oZ r9 cX))
      go_wp2;go_roundw;case rel=>exact⟨k+1,by omega,by go_num,ψ ⟨_,lF.e.2.alo HX.e.1 (by rw[<-HX.e.2.1];exact lF.e.1)⟩⟩
      case measure=>simp[ϙ];omega
     ·obtain rfl:k=n15:=by omega
      have q0:=hC.box.cell 0;have q1:=hC.box.cell 1;have q2:=hC.box.cell 2;have q3:=hC.box.cell 3;obtain⟨r0,r1,r2,r3,lf⟩:=hC.res;have p0:=lf.cell 0;have p1:=lf.cell 1;have p2:=lf.cell 2;have p3:=lf.cell 3;have f0:=lf.frozen 0;have f1:=lf.frozen 1;have f2:=lf.frozen 2;have f3:=lf.frozen 3;have rV:w.heap.size+1<wr.heap.size:=lf.lt;have qZ:=ψ hC;clear hC;have qz:=((((lf.set 0 (ξ κ b.ag)).set 1 (ζ A9 n9 c9)).set 2 (ζ mh i c12)).set 3 (ζ pG k c15));have y0:=qz.cell 0;have y1:=qz.cell 1;have y2:=qz.cell 2;have y3:=qz.cell 3;have QY:=ψ ((((qZ.e.Ja (i:=0) (u:=ξ κ b.ag) (by omega)).Ja (i:=1) (u:=ζ A9 n9 c9) (by omega)).Ja (i:=2) (u:=ζ mh i c12) (by omega)).Ja (i:=3) (u:=ζ pG k c15) (by omega))
      clear lf qz;go_wp2;refine Ahb (v:=η #[ξ κ b.ag,ζ A9 n9 c9,ζ mh i c12,ζ pG k c15]) (by simp[results,Tryz.results136,go_sem,y0,y1,y2,y3]) rfl ⟨_,_,_,_,_,rfl,QY.e.ZO YR.e Y1.e sT.e,QY.e.below⟩
def ug{P:Program}{ops:Array Oper}{o:Oper}{a:Act}{w:Ψ}{K:Act->Ψ->Prop}{Q:Exit->Act->Ψ->Prop}{E:Prop}(hg:o.guard=ν)(s x:Operand)(t:TypeId)
 (ho:o.op=.call {callee:=.builtin .append,args:=#[s,x],argTypes:=#[t,t]})
 (base:Nat)(e:TypeId)(i:TypeInfo)(z:υ)(size bytes:Nat)(ht:P.underlying t=φ (.slice e))(hi: P.info? e=φ i)(hz:i.zero=φ z)
 (yk:i.size=size)(ES:i.bytes=bytes)(VU:z.cells.size=size)(aI:0<size)
 (v:υ)(n:Nat)(xs:List υ)(hs:a.eval s=v)(aG:w.ownsRow base e size v n xs)
 (ad:Addr)(m c:Nat)(news:List υ)(hx:a.eval x=ζ (φ ad) m c)(hl:news.length=m * size)(Hs:∀j u,news[j]?=φ u-> w.cell? (ad.add j)=φ u)(h1:∀u∈news,u.oneCell'=θ)
 (TI:n+m<=ϗ)(abl:(n+m) * bytes<=140737488355328)(MO:base<=w.heap.size)
 (h:∀v' w',w'.ownsRow base e size v' (n+m) (xs++news)->w.grownBy w' v.ownBlock->K (a.put o.dst v') w'):if Region.wanted o (yielded ops a.tmps)=θ then Oper.wp P o a w K Q else E:=by
 have hw:Region.wanted o (yielded ops a.tmps)=θ:=by simp[Region.wanted,hg]
 rw[if_pos hw];exact wp_append_own w s x t ho base e i z size bytes ht hi hz yk ES VU aI v n xs hs aG ad m c news hx hl Hs h1 TI abl MO λv' w' h2 h3 _=>h v' w' h2 h3
def fj(b:ao)(x:bR):ao:={b with aF:=b.aF++ [x]}
def Zg{w w1 w6:Ψ}{b:ao}{x:bR}{bs:List (bR×υ)}{pv bv tv kv yU:υ}{B:Nat}(hB:B<=w.heap.size)(ai:bg w B b pv bv tv)(Ib:x.name.size<=ϗ)(Ef:Row w B 2 Span.R kv x.cM)
 (ox:∀p∈bs,p.1.name.size<=ϗ/\Row w B 2 Span.R p.2 p.1.cM)(fe:bs.map Ajp=b.aF)(h1:Γ w.heap.size w w1)(h6:Γ w1.heap.size w1 w6)(hz:w.heap.size+3<=w1.heap.size)
 (o:w6.ownsRow w1.heap.size 59 3 yU (bs.length+1) (bs.flatMap eP++ [.string x.name,ξ κ x.aH,kv]))
 (kb:Bk w1 w.heap.size 26 #[ξ κ b.ag,pv,bv,tv])(kr:Bk w1 (w.heap.size+2) 26 #[ξ κ 0,ζ ν 0 0,ζ ν 0 0,ζ ν 0 0]):
 (∃oV qT,pI (w6.setCell ⟨w.heap.size,2,ν⟩ yU) (λk=>k=w.heap.size+2) (fj b x) pv yU tv oV qT)/\Bk (w6.setCell ⟨w.heap.size,2,ν⟩ yU) w.heap.size 26 #[ξ κ b.ag,pv,yU,tv]/\
 Bk (w6.setCell ⟨w.heap.size,2,ν⟩ yU) (w.heap.size+2) 26 #[ξ κ 0,ζ ν 0 0,ζ ν 0 0,ζ ν 0 0]/\Γ w.heap.size w (w6.setCell ⟨w.heap.size,2,ν⟩ yU)/\Rh yU:=by
 have e6:=h6.size;have bW:Γ w.heap.size w (w6.setCell ⟨w.heap.size,2,ν⟩ yU):=(h1.trans (h6.mono (by omega))).setCell (ϊ _) _
 have o':(w6.setCell ⟨w.heap.size,2,ν⟩ yU).ownsRow w1.heap.size 59 3 yU (bs++ [(x,kv)]).length ((bs++ [(x,kv)]).flatMap eP):=by
  have:=eo (u:=yU) (p:=⟨w.heap.size,2,ν⟩) o (by simp<;>omega)
  simpa [eP] using this
 have hN:∀k,k=w.heap.size+2->(λk=>w.heap.size<=k) k\/w.heap.size<=k:=λk hk=>Ajo (by omega)
 obtain⟨bs0,ts,hn⟩:=ai.um (No:=λk=>w.heap.size<=k) hB (λk hk=>by omega)
 refine⟨⟨bs++ [(x,kv)],ts,hn.p.below bW hN,cW.vO o' (λ_=>rfl) (λp hm=>rfl) (λk hk=>by omega),hn.t.below bW hN,by simp[fj,fe],hn.pD,λp hm=>?_,λp hm=>(hn.tp p hm).below bW hN⟩,(kb.below h6 (by omega)).set 2 yU,(kr.below h6 (by omega)).cu (by simp) _,bW,pw o⟩
 rcases Af8.1 hm with hm|hm
 ·exact⟨(ox p hm).1,((ox p hm).2.um (No:=λk=>w.heap.size<=k) hB (λk hk=>by omega)).below bW hN⟩
 ·simp at hm;subst hm
  exact⟨Ib,(Ef.um (No:=λk=>w.heap.size<=k) hB (λk hk=>by omega)).below bW hN⟩
def Zh{w:Ψ}{b:ao}{x:bR}{pv bv tv kv:υ}{B:Nat}(hB:B<=w.heap.size)(ai:bg w B b pv bv tv)(Ib:x.name.size<=ϗ)(Ef:Row w B 2 Span.R kv x.cM)(h0:dF b=0)(h1:dF (fj b x)=0):
 ύ prog 53 #[η #[ξ κ b.ag,pv,bv,tv],η #[.string x.name,ξ κ x.aH,kv]] w λe w'=>∃ix ia fD,e=Ω (μ #[η #[ξ κ b.ag,ix,ia,fD],ξ κ 0])/\bg w' w'.heap.size (fj b x) ix ia fD/\Γ w.heap.size w w':=by
 obtain⟨bs,fe,xH⟩:=I1 (R':=λ(p:bR×υ) cs=>cs=eP p/\p.1.name.size<=ϗ/\Row w B 2 Span.R p.2 p.1.cM) ai.aF (λx cs ⟨kv,h1,h2,h3⟩=>⟨kv,h1,h2,h3⟩)
 have ox:∀p∈bs,p.1.name.size<=ϗ/\Row w B 2 Span.R p.2 p.1.cM:=λp hp=>by obtain⟨cs,h1,h2⟩:=xH.mem p hp;exact h2
 have F4:Hid (Row w B 3 (λp cs=>cs=eP p) bv bs):=ψ (xH.still (Δ.refl w) λ_ _ h=>h.1)
 have Dq:∀p∈bs,∀u∈eP p,u.oneCell'=θ:=λp hp u hu=>by
  obtain⟨A,c,e,_⟩:=(ox p hp).2;simp[eP] at hu;rcases hu with rfl|rfl|rfl
  ·rfl
  ·rfl
  ·rw[e];rfl
 have fX:bs.length=b.aF.length:=by rw[<-fe,Ah8]
 have hv:=iy h0;have Au:bs.length<=3:=by rw[fX];exact hv.nb
 have C2:Hid (∀w',Δ B w w'->B<=w'.heap.size->ύ prog 135 #[bv] w' λe bq=>∃v',e=Ω v'/\bq.ownsRow w'.heap.size 59 3 v' bs.length (bs.flatMap eP)/\Γ w'.heap.size w' bq):=
  ψ λw' hs hz=>Su (F4.e.still hs λ_ _ h=>h) hz (λ_=>rfl) Dq (by omega)
 have HM:=ψ (ϐ ox (ϐ fe fX));have bT:=ψ ai;have HH:=ψ (ϐ h0 (ϐ h1 (ϐ Ib Ef)));obtain⟨A1,n1,c1,rfl,-⟩:=ai.pieces.Φ;obtain⟨A2,n2,c2,rfl,-⟩:=ai.aF.Φ;obtain⟨A3,n3,c3,rfl,-⟩:=ai.aJ.Φ;obtain⟨A4,n4,c4,rfl,-⟩:=Ef.Φ;obtain⟨i0,cR,cT,aN,ba⟩:=Ag9 VI;have dv:=ψ (ϐ cR (ϐ cT (ϐ aN ba)));clear ai xH ox Dq fe fX hv h0 h1 Ib Ef cR cT aN ba;go_enter func53,Tryz.ntmps53;go_wp2_with (first
  | (go_at_call 68;refine(ry (bT.e.still ((((Δ.refl w).alloc hB _).alloc (by simp<;>omega) _).alloc (by simp<;>omega) _)) (by simp<;>omega) HH.e.1).mono ?_;rintro e w1 ⟨rfl,ae⟩
     have kb:Bk w1 w.heap.size 26 #[ξ κ b.ag,ζ A1 n1 c1,ζ A2 n2 c2,ζ A3 n3 c3]:=(((Bk.new w _ _).alloc _).alloc _).below ae (by simp<;>omega)
     have kx:Bk w1 (w.heap.size+1) 59 #[.string x.name,ξ κ x.aH,ζ A4 n4 c4]:=((Bk.cG (by simp<;>omega) _ _).alloc _).below ae (by simp<;>omega)
     have kr:Bk w1 (w.heap.size+2) 26 #[ξ κ 0,ζ ν 0 0,ζ ν 0 0,ζ ν 0 0]:=(Bk.cG (by simp<;>omega) _ _).below ae (by simp)
     have aY:Hid (Γ w.heap.size w w1):=ψ (((((Ϗ _ _).alloc (ϊ _) _).alloc (by simp) _).alloc (by simp<;>omega) _).trans (ae.mono (by simp<;>omega)))
     have HK:=ψ (ϐ kb (ϐ kx kr));clear kb kx kr ae))
 have k2: w1.cell? ⟨w.heap.size,2,ν⟩=φ (ζ A2 n2 c2):=HK.e.1.cell 2;have x0: w1.cell? ⟨w.heap.size+1,0,ν⟩=φ (.string x.name):=HK.e.2.1.cell 0;have x1: w1.cell? ⟨w.heap.size+1,1,ν⟩=φ (ξ κ x.aH):=HK.e.2.1.cell 1;have x2: w1.cell? ⟨w.heap.size+1,2,ν⟩=φ (ζ A4 n4 c4):=HK.e.2.1.cell 2;have hz:w.heap.size+3<=w1.heap.size:=HK.e.2.2.lt;have jW:w.heap.size<w1.heap.size:=by omega
 have ae3:w.heap.size<=w1.heap.size:=by omega
 have ae4:w.heap.size+1<w1.heap.size:=by omega
 have ae5:w.heap.size+1<=w1.heap.size:=by omega
 have XD:Hid (Γ w1.heap.size w1 w1.drew):=ψ (iY (Ϗ _ _));have XA:Hid (∀o,Γ w1.heap.size w1 (w1.drew.alloc o)):=ψ λo=>(iY (Ϗ _ _)).alloc (ϊ _) o
 have SB:Hid (∀w',Γ w1.heap.size w1 w'->Δ B w w'/\B<=w'.heap.size):=ψ λw' h=>⟨Δ.aK (aY.e.trans (h.mono (by omega))) hB,by have:=h.size;omega⟩
 refine Code.wp_mono (Q:=dP λa W=>∃mh iq c12 XX wE n19 c19,a={tmps:=#[Value.agg #[ξ κ b.ag,ζ A1 n1 c1,ζ A2 n2 c2,ζ A3 n3 c3],Value.agg #[.string x.name,ξ κ x.aH,ζ A4 n4 c4],Value.pointer (φ {block:=w.heap.size,off:=0}),Value.pointer (φ {block:=w.heap.size+1,off:=0}),Value.pointer (φ {block:=w.heap.size+1+1,off:=0}),ξ κ 0,ξ κ 0,ω,Value.agg #[ξ κ b.ag,ζ A1 n1 c1,ζ A2 n2 c2,ζ A3 n3 c3],ξ κ 0,ξ κ 0,.bool χ,ω,ω,Value.pointer (φ {block:=w.heap.size,off:=2}),ζ A2 n2 c2,ζ mh iq c12,Value.agg #[.string x.name,ξ κ x.aH,ζ A4 n4 c4],XX,ζ wE n19 c19,Value.pointer (φ {block:=w.heap.size,off:=2}),ω,ω,ω,ω,ω,ω,ω,ω],defers:=[]}/\Hid ((∃oV qT,pI W (λk=>k=w.heap.size+2) (fj b x) (ζ A1 n1 c1) (ζ wE n19 c19) (ζ A3 n3 c3) oV qT)/\Bk W w.heap.size 26 #[ξ κ b.ag,ζ A1 n1 c1,ζ wE n19 c19,ζ A3 n3 c3]/\
  Bk W (w.heap.size+2) 26 #[ξ κ 0,ζ ν 0 0,ζ ν 0 0,ζ ν 0 0]/\Γ w.heap.size w W)) ?post ?region
 case region=>
  go_region_law (first
   | (go_simp
      go_at_call 135
      refine(C2.e _ ?h1 ?h2).mono ?_
      case h1=>first|exact(SB.e _ XD.e).1|exact(SB.e _ (XA.e _)).1
      case h2=>first|exact(SB.e _ XD.e).2|exact(SB.e _ (XA.e _)).2
      rintro e w3 ⟨v12,rfl,qN,bD⟩;have fw:Hid (Γ w1.heap.size w1 w3):=ψ (by first|exact XD.e.trans bD|exact(XA.e _).trans (bD.mono (by simp)))
      have zv:Hid (w3.ownsRow w1.heap.size 59 3 v12 bs.length (bs.flatMap eP)):=ψ (qN.base (by simp))
      have rE:=HK.e.2.1.below fw.e (by omega)
      have x0: w3.cell? ⟨w.heap.size+1,0,ν⟩=φ (.string x.name):=rE.cell 0;have x1: w3.cell? ⟨w.heap.size+1,1,ν⟩=φ (ξ κ x.aH):=rE.cell 1;have x2: w3.cell? ⟨w.heap.size+1,2,ν⟩=φ (ζ A4 n4 c4):=rE.cell 2;have jB:w1.heap.size<=w3.heap.size:=fw.e.size
      try(have HZ:Hid (∀(j:Nat) (u:υ),[Value.string x.name,ξ κ x.aH,ζ A4 n4 c4][j]?=φ u-> w3.cell? ((⟨w1.heap.size,0,ν⟩:Addr).add j)=φ u):=ψ (λj u hu=>by
       rw[nu];have:=((Bk.new w1.drew 59 #[.string x.name,ξ κ x.aH,ζ A4 n4 c4]).below bD (by simp)).cell j
       simpa using this.trans (by simpa using hu)))
      obtain⟨mh,iq,c12,rfl⟩:=pw qN;clear bD qN rE)
   | (refine ug rfl (.tmp 16) (.tmp 18) 23 rfl w1.heap.size 59 i0 (η #[.string {data:=#[]},ξ κ 0,ζ ν 0 0]) 3 48 (U Tryz.underlying23) dv.e.1 dv.e.2.1 dv.e.2.2.1 dv.e.2.2.2 rfl (by decide) _ bs.length (bs.flatMap eP) rfl zv.e ⟨w1.heap.size,0,ν⟩ 1 1 [.string x.name,ξ κ x.aH,ζ A4 n4 c4] rfl rfl HZ.e ?c2 ?c3 ?c4 jB ?_
      case c2=>simp[Value.oneCell']
      case c3=>(simp only[ϗ];omega)
      case c4=>omega
      intro v' w6 aG dS;have HO:=ψ aG;have xO:Γ w1.heap.size w1 w6:=fw.e.grown dS jB (λk hk=>ei zv.e k hk)
      have gU:=ψ xO;have ig:=HK.e.1.below xO (by omega)
      have q2: w6.cell? ⟨w.heap.size,2,ν⟩=φ (ζ A2 n2 c2):=ig.cell 2;have f2: w6.frozen? ⟨w.heap.size,2,ν⟩=χ:=ig.frozen 2;obtain⟨wE,n19,c19,rfl⟩:=pw aG;clear aG dS xO ig)
   | (refine ug rfl (.tmp 16) (.tmp 18) 23 rfl w1.heap.size 59 i0 (η #[.string {data:=#[]},ξ κ 0,ζ ν 0 0]) 3 48 (U Tryz.underlying23) dv.e.1 dv.e.2.1 dv.e.2.2.1 dv.e.2.2.2 rfl (by decide) _ bs.length (bs.flatMap eP) rfl (zv.e.alloc _) ⟨w3.heap.size,0,ν⟩ 1 1 [.string x.name,ξ κ x.aH,ζ A4 n4 c4] rfl rfl ?c1 ?c2 ?c3 ?c4 ?c5 ?_
      case c1=>(intro j u hu;rw[nu];have:=(Bk.new w3 59 #[.string x.name,ξ κ x.aH,ζ A4 n4 c4]).cell j;simpa using this.trans (by simpa using hu))
      case c2=>simp[Value.oneCell']
      case c3=>(simp only[ϗ];omega)
      case c4=>omega
      case c5=>(simp<;>omega)
      intro v' w6 aG dS;have HO:=ψ aG;have xO:Γ w1.heap.size w1 w6:=(fw.e.alloc jB _).grown dS (by simp<;>omega) (λk hk=>ei zv.e k hk)
      have gU:=ψ xO;have ig:=HK.e.1.below xO (by omega)
      have q2: w6.cell? ⟨w.heap.size,2,ν⟩=φ (ζ A2 n2 c2):=ig.cell 2;have f2: w6.frozen? ⟨w.heap.size,2,ν⟩=χ:=ig.frozen 2;obtain⟨wE,n19,c19,rfl⟩:=pw aG;clear aG dS xO ig))
  all_goals
   have Hq:=Zg hB bT.e HH.e.2.2.1 HH.e.2.2.2 HM.e.1 HM.e.2.1 aY.e gU.e hz HO.e HK.e.1 HK.e.2.2;show ∃_,_
   exact⟨_,_,_,_,_,_,_,rfl,ψ ⟨Hq.1,Hq.2.1,Hq.2.2.1,Hq.2.2.2.1⟩⟩
 case post=>
  clear C2 dv k2 x0 x1 x2 XD XA SB jW ae3 ae4 ae5 hz HK F4 Au;refine dP.imp ?_
  rintro a W ⟨mh,iq,c12,XX,wE,n19,c19,rfl,⟨oV,qT,hp⟩,ig,xS,fX⟩;have k0:=ig.cell 0;have k1:=ig.cell 1;have k2:=ig.cell 2;have k3:=ig.cell 3;have HP:=ψ hp;have HK:=ψ (ϐ ig (ϐ xS fX));have iM:w.heap.size<W.heap.size:=ig.lt;have TJ:=ψ (ry hp.book (ϊ _) HH.e.2.1);have vy:(fj b x).ag=b.ag:=rfl;rw[vy] at TJ;clear hp ig xS fX vy;go_wp2_with (first
   | (go_at_call 68
      refine TJ.e.mono ?_
      rintro e w7 ⟨rfl,jx⟩;have DG:=HK.e.1.below jx iM;have k0: w7.cell? ⟨w.heap.size,0,ν⟩=φ (ξ κ b.ag):=DG.cell 0;have k1: w7.cell? ⟨w.heap.size,1,ν⟩=φ (ζ A1 n1 c1):=DG.cell 1;have k2: w7.cell? ⟨w.heap.size,2,ν⟩=φ (ζ wE n19 c19):=DG.cell 2;have k3: w7.cell? ⟨w.heap.size,3,ν⟩=φ (ζ A3 n3 c3):=DG.cell 3;have Xc:=ψ (HK.e.2.1.below jx HK.e.2.1.lt);have Zk:=(copied (w:=w7) (HP.e.grown (je jx (ϊ _) ν) nofun) (λk hk=>by have:=Xc.e.lt;omega) (iy HH.e.2.1))
      have vy:(fj b x).ag=b.ag:=rfl;rw[vy] at Zk;have Ym:=ψ Zk;clear Zk vy;have QW:=ψ jx;clear jx DG)
   | (go_at_call 136
      refine Ym.e.mono ?_
      rintro e w8 ⟨p8,b8,t8,bs8,ts8,rfl,MW,Ah⟩;have Ha:=MW.book;have qK:=Xc.e.below Ah Xc.e.lt;have r0:=qK.cell 0;have r1:=qK.cell 1;have r2:=qK.cell 2;have r3:=qK.cell 3;have f0:=qK.frozen 0;have f1:=qK.frozen 1;have f2:=qK.frozen 2;have f3:=qK.frozen 3;have hz8:w.heap.size+2<w8.heap.size:=qK.lt;obtain⟨JZ,OY,LG,rfl,-⟩:=Ha.pieces.Φ;obtain⟨J0,OZ,LH,rfl,-⟩:=Ha.aF.Φ;obtain⟨J1,ER,LI,rfl,-⟩:=Ha.aJ.Φ;have Yy:=ψ Ah;have Q0:=ψ (ϐ MW qK);clear Ah Ha MW qK))
  have aeL:Bk w8 (w.heap.size+1+1) 26 #[ξ κ 0,ζ ν 0 0,ζ ν 0 0,ζ ν 0 0]:=Q0.e.2;have yh:=((((aeL.set 0 (ξ κ b.ag)).set 1 (ζ JZ OY LG)).set 2 (ζ J0 OZ LH)).set 3 (ζ J1 ER LI));have y0:=yh.cell 0;have y1:=yh.cell 1;have y2:=yh.cell 2;have y3:=yh.cell 3;have hG:=λ(V:Ψ) (i:Nat) (u:υ)=>uV V ⟨w.heap.size+2,i,ν⟩ u
  have bj:∀k,φ (w.heap.size+2)=φ k->(λk=>k=w.heap.size+2) k:=λk e=>by injection e with e;exact e.symm
  have Nj:=((((Q0.e.1.grown (hG _ 0 (ξ κ b.ag)) bj).grown (hG _ 1 (ζ JZ OY LG)) bj).grown (hG _ 2 (ζ J0 OZ LH)) bj).grown (hG _ 3 (ζ J1 ER LI)) bj);have jS:Γ w.heap.size w w8:=(HK.e.2.2.trans (QW.e.mono (Agz iM))).trans (Yy.e.mono (by have:=QW.e.size;omega))
  refine Ahb (v:=μ #[η #[ξ κ b.ag,ζ JZ OY LG,ζ J0 OZ LH,ζ J1 ER LI],ξ κ 0]) (by simp[results,Tryz.results53,go_sem,y0,y1,y2,y3]) rfl ⟨_,_,_,rfl,Nj.book,?_⟩
  exact(((jS.setCell (by simp<;>omega) _).setCell (by simp<;>omega) _).setCell (by simp<;>omega) _).setCell (by simp<;>omega) _
def pY:List Int->List Int->Int
 | [],[]=>0
 | [],_::_=> -1
 |_::_,[]=>1
 |x::xs,y::ys=>if Aip x y=0 then pY xs ys else Aip x y
def zN{w:Ψ}{xs ys:List Int}{v u:υ}{B:Nat}(hv:Row w B 1 cH v xs)(hu:Row w B 1 cH u ys)(hB:B<=w.heap.size):
 ύ prog 139 #[v,u] w λe w'=>e=Ω (ξ κ (pY xs ys))/\w=w':=by
 obtain⟨A1,n1,c1,rfl,e1,h1,eA,r1⟩:=hv.Φ;obtain⟨A2,n2,c2,rfl,e2,h2,dW,r2⟩:=hu.Φ;unfold ϗ at eA dW;have R1:=ψ r1;have R2:=ψ r2;have E:=ψ (ϐ e1 e2);clear r1 r2 e1 e2 hv hu;have aB:Hid (∀(x y:Int) (w:Ψ),ύ Tw.prog 181 #[ξ κ x,ξ κ y] w λe w'=>e=Ω (ξ κ (Aip x y))/\w'=w):=ψ (λx y w=>Sh.cmp_Compare_int x y w)
 go_enter func139,Tryz.ntmps139;go_wp2;go_loopw [11] (λk wr=>wr=w/\∃i:Nat,i<=n1/\i<=n2/\k=ξ κ i/\Hid (pY xs ys=pY (xs.drop i) (ys.drop i))) (λk _=>n1 - (ϙ k).toNat)
 case atStart=>exact⟨rfl,0,ϡ _,ϡ _,rfl,ψ rfl⟩
 case round=>
  obtain⟨rfl,i,hi,vm,rfl,hc⟩:=hrel;by_cases al:i<n1
  ·obtain⟨ad,x,cs,kX,aC,hx,rfl,-,au⟩:=R1.e i al
   subst kX;have g0: wr.cell? (ad.add (i * 1))=φ (ξ κ x):=cC au (Δ.refl wr) aC rfl;rw[Agx] at g0;have Dt:xs.drop i=x::xs.drop (i+1):=(Ai2 (ϱ.1 hx).1).trans (by rw[(ϱ.1 hx).2])
   have zm:=ψ Dt;clear Dt hx au;by_cases ae6:i<n2
   ·obtain⟨cI,y,jQ,CO,fV,hy,rfl,-,ie⟩:=R2.e i ae6
    subst CO;have g1: wr.cell? (cI.add (i * 1))=φ (ξ κ y):=cC ie (Δ.refl wr) fV rfl;rw[Agx] at g1;have vf:ys.drop i=y::ys.drop (i+1):=(Ai2 (ϱ.1 hy).1).trans (by rw[(ϱ.1 hy).2])
    have uz:=ψ vf;clear vf hy ie;have aoD:((n2:Int)<=(i:Int))=False:=by simp;omega
    obtain⟨c,cX⟩:∃c,c=Aip x y:=⟨_,rfl⟩
    have CL:=ψ (aB.e x y wr);rw[<-cX] at CL;have qZ:=ψ cX;clear cX;by_cases ic:c=0
    ·have hb:(c !=0)=χ:=by simp[ic]
     go_wp2_with (first
      | (go_at_call 181;refine CL.e.mono ?_;rintro e w1 ⟨rfl,rfl⟩))
     go_roundw;case rel=>exact⟨trivial,i+1,by omega,by omega,by go_num,ψ (by rw[hc.e,zm.e,uz.e,pY,<-qZ.e,if_pos ic])⟩
     case measure=>simp[ϙ];omega
    ·have hb:(c !=0)=θ:=by simp[ic]
     go_wp2_with (first
      | (go_at_call 181;refine CL.e.mono ?_;rintro e w1 ⟨rfl,rfl⟩))
     go_ret;exact⟨aX (by rw[hc.e,zm.e,uz.e,pY,<-qZ.e,if_neg ic]),rfl⟩
   ·obtain rfl:i=n2:=by omega
    have vf:ys.drop i=[]:=Ai3 (Agw E.e.2);have uz:=ψ vf;clear vf;go_wp2;go_ret;exact⟨aX (by rw[hc.e,zm.e,uz.e,pY]),rfl⟩
  ·obtain rfl:i=n1:=by omega
   have Dt:xs.drop i=[]:=Ai3 (Agw E.e.1);have zm:=ψ Dt;clear Dt;by_cases hl:i<n2
   ·obtain⟨y,Yh,hy⟩:∃y Yh,ys.drop i=y::Yh:=⟨_,_,Ai2 (by rw[E.e.2];exact hl)⟩
    have uz:=ψ hy;clear hy;go_wp2;go_ret;exact⟨aX (by rw[hc.e,zm.e,uz.e,pY]),rfl⟩
   ·have vf:ys.drop i=[]:=Ai3 (by rw[E.e.2];omega)
    have uz:=ψ vf;clear vf;go_wp2;go_ret;exact⟨aX (by rw[hc.e,zm.e,uz.e,pY]),rfl⟩
end Go.Tw
namespace Go.Tw
variable [Go.Tw.aR]
open Go Go.Proofs Go.RowKit
def Wu{w:Ψ}{b1 b2 e1 e2 s1 s2 n1 n2:Nat}{v1 v2:υ}{x1 x2:List υ}(h1:w.ownsRow b1 e1 s1 v1 n1 x1)(h2:w.ownsRow b2 e2 s2 v2 n2 x2)(aw:e1≠e2):∀k,v1.ownBlock=φ k->v2.ownBlock≠φ k:=by
 intro k hk cP;rcases h1.2 with⟨h0,_⟩ | ⟨g,cap,cur,a1,a2,a3,_⟩
 ·rw[h0] at hk;cases hk
 ·rcases h2.2 with⟨h0,_⟩ | ⟨g',zd,anN,c1,c2,c3,_⟩
  ·rw[h0] at cP;cases cP
  ·rw[a1] at hk;rw[c1] at cP
   injection hk with hk;injection cP with cP
   simp only at hk cP;subst hk;subst cP
   rw[a3] at c3;injection c3 with c3;injection c3 with _ c3
   exact aw c3
def dJ(m:Nat)(n:Nat):List Nat:=(ϸ n).filter (λi=>m.testBit i)
def Ie{m n:Nat}(h:m.testBit n=θ):dJ m (n+1)=dJ m n++ [n]:=by simp[dJ,Ah2,h]
def Ic{m n:Nat}(h:m.testBit n=χ):dJ m (n+1)=dJ m n:=by simp[dJ,Ah2,h]
def fL{α:Type}(l:List α)(m n:Nat):List α:=(dJ m n).filterMap (λi=>l[i]?)
def Wz{α:Type}{l:List α}{m n:Nat}{x:α}(h:m.testBit n=θ)(hx:l[n]?=φ x):fL l m (n+1)=fL l m n++ [x]:=by
 unfold fL;rw[Ie h,List.filterMap_append];simp[hx]
def Wy{α:Type}{l:List α}{m n:Nat}(h:m.testBit n=χ):fL l m (n+1)=fL l m n:=by unfold fL;rw[Ic h]
def mM(b:ao)(m:Nat):ao:={b with aJ:=fL b.aJ m b.aJ.length}
def ajE{α β:Type}(f:α->β)(l:List α)(m n:Nat):fL (l.map f) m n=(fL l m n).map f:=by
 unfold fL;rw[List.map_filterMap];congr 1;funext i;simp
def Pc{α:Type}(l:List α)(m:Nat):∀n,n<=l.length->(fL l m n).length=(dJ m n).length
 |0,_=>by simp[fL,dJ]
 |n+1,h=>by
  have ih:=Pc l m n (by omega)
  cases hb:m.testBit n with
  |true=>rw[Wz hb (Af9 (by omega)),Ie hb];simp[ih]
  |false=>rw[Wy hb,Ic hb];exact ih
def ny(m n:Nat):List υ:=(dJ m n).map λk:Nat=>ξ κ (k:Int)
def Ek(m:Nat)(n:Nat):(dJ m n).length<=n:=by
 unfold dJ;refine Ϥ (Agd _ _) (by simp)
structure OI(w W:Ψ)(g z:Nat)(ag pv bv c7 v6 v7:υ)(el:Array υ)(n6 n7:Nat)(x6 x7:List υ):Prop where
 o6:W.ownsRow (g+3) 3 1 v6 n6 x6
 o7:W.ownsRow (g+3) 95 3 v7 n7 x7
 kr:Bk W (g+1) 117 #[ξ κ 0,ζ ν 0 0,ζ ν 0 0,ζ ν 0 0]
 kk:Bk W (g+2) 117 #[ag,pv,bv,c7]
 ke:Bk W z 95 el
 hb:Γ g w W
section
variable {w W W':Ψ}{g z n6 n7 m:Nat}{ag pv bv c7 v6 v7 v':υ}{el:Array υ}{x6 x7 ys:List υ}
def OI.alloc(h:OI w W g z ag pv bv c7 v6 v7 el n6 n7 x6 x7)(o:Obj):OI w (W.alloc o) g z ag pv bv c7 v6 v7 el n6 n7 x6 x7:=
 ⟨World.ownsRow.alloc h.o6 o,World.ownsRow.alloc h.o7 o,h.kr.alloc o,h.kk.alloc o,h.ke.alloc o,h.hb.alloc (by have:=h.kr.lt;omega) o⟩
def OI.Rv(h:OI w W g z ag pv bv c7 v6 v7 el n6 n7 x6 x7)(ho:W'.ownsRow (g+3) 3 1 v' m ys)(hg:W.grownBy W' v6.ownBlock):OI w W' g z ag pv bv c7 v' v7 el m n7 ys x7:=by
 have jU:=ei h.o6;refine⟨ho,EJ h.o7 hg (λk hk e=>Wu h.o6 h.o7 (by decide) k e hk),h.kr.grown hg (λe=>by have:=jU _ e.symm;omega),h.kk.grown hg (λe=>by have:=jU _ e.symm;omega),h.ke.grown hg (λe=>?_),h.hb.grown hg (by have:=h.kr.lt;omega) (λk hk=>by have:=jU k hk;omega)⟩
 rcases h.o6.2 with⟨h0,_⟩ | ⟨k,cap,cur,a1,a2,a3,_⟩
 ·rw[h0] at e;cases e
 ·rw[a1] at e;injection e with e
  have tD:=h.ke;unfold Bk at tD;rw[e] at tD;simp only at tD;rw[a3] at tD;injection tD with tD;injection tD with _ tD
  exact absurd tD (by decide)
def OI.Rw(h:OI w W g z ag pv bv c7 v6 v7 el n6 n7 x6 x7)(ho:W'.ownsRow (g+3) 95 3 v' m ys)(hg:W.grownBy W' v7.ownBlock):
 W'.ownsRow (g+3) 3 1 v6 n6 x6/\W'.ownsRow (g+3) 95 3 v' m ys/\Bk W' (g+1) 117 #[ξ κ 0,ζ ν 0 0,ζ ν 0 0,ζ ν 0 0]/\Bk W' (g+2) 117 #[ag,pv,bv,c7]/\Γ g w W':=by
 have jU:=ei h.o7;exact⟨EJ h.o6 hg (λk hk e=>Wu h.o6 h.o7 (by decide) k hk e),ho,h.kr.grown hg (λe=>by have:=jU _ e.symm;omega),h.kk.grown hg (λe=>by have:=jU _ e.symm;omega),h.hb.grown hg (by have:=h.kr.lt;omega) (λk hk=>by have:=jU k hk;omega)⟩
def LO{w:Ψ}{g t:Nat}{a b c:υ}(h:Bk w g t #[a,b,c]):∀(j:Nat) (u:υ),[a,b,c][j]?=φ u-> w.cell? ((⟨g,0,ν⟩:Addr).add j)=φ u:=by
 intro j u hu;rw[nu];exact(h.cell j).trans (by simpa using hu)
def LN{w:Ψ}{g t:Nat}{a:υ}(h:Bk w g t #[a]):∀(j:Nat) (u:υ),[a][j]?=φ u-> w.cell? ((⟨g,0,ν⟩:Addr).add j)=φ u:=by
 intro j u hu;rw[nu];exact(h.cell j).trans (by simpa using hu)
def kT{w:Ψ}{b e s n g t:Nat}{v:υ}{xs:List υ}{cs:Array υ}(h:Bk w g t cs)(ho:w.ownsRow b e s v n xs)(aw:t≠e)(hk:φ g=v.ownBlock):False:=by
 rcases ho.2 with⟨h0,_⟩ | ⟨k,cap,cur,a1,a2,a3,_⟩
 ·rw[h0] at hk;cases hk
 ·rw[a1] at hk;injection hk with hk
  unfold Bk at h;rw[hk] at h;simp only at h;rw[a3] at h;injection h with h;injection h with _ h
  exact aw h.symm
def afX{w V w6:Ψ}{g z n6 n7:Nat}{ag pv bv c7 v6 v7 a b c:υ}{el:Array υ}{x6 x7:List υ}{o:Obj}(nZ:OI w V.drew g z ag pv bv c7 v6 v7 el n6 n7 x6 x7)
 (dS:((V.drew.alloc o).alloc (Ξ #[a,b,c] 95)).grownBy w6 v6.ownBlock):Bk w6 (V.heap.size+1) 95 #[a,b,c]:=
 (Bk.cG (g:=V.heap.size+1) (w:=V.drew.alloc o) (by simp) 95 #[a,b,c]).grown dS (λe=>kT (Bk.cG (g:=V.heap.size+1) (w:=V.drew.alloc o) (by simp) 95 #[a,b,c]) ((nZ.alloc o).alloc _).o6 (by decide) e)
def afT{w V w6:Ψ}{g z n6 n7:Nat}{ag pv bv c7 v6 v7 a b c:υ}{el:Array υ}{x6 x7:List υ}{o:Obj}(nZ:OI w V.drew g z ag pv bv c7 v6 v7 el n6 n7 x6 x7)
 (dS:((V.drew.alloc (Ξ #[a,b,c] 95)).alloc o).grownBy w6 v6.ownBlock):Bk w6 V.heap.size 95 #[a,b,c]:=
 ((Bk.new V.drew 95 #[a,b,c]).alloc o).grown dS (λe=>kT ((Bk.new V.drew 95 #[a,b,c]).alloc o) ((nZ.alloc _).alloc o).o6 (by decide) e)
def aja{W:Ψ}(h:W.ownsRow (g+3) 3 1 v6 n6 x6/\W.ownsRow (g+3) 95 3 v' m ys/\Bk W (g+1) 117 #[ξ κ 0,ζ ν 0 0,ζ ν 0 0,ζ ν 0 0]/\Bk W (g+2) 117 #[ag,pv,bv,c7]/\Γ g w W):
 let V:=W.setCell ⟨g+2,3,ν⟩ v'
 V.ownsRow (g+3) 3 1 v6 n6 x6/\V.ownsRow (g+3) 95 3 v' m ys/\Bk V (g+1) 117 #[ξ κ 0,ζ ν 0 0,ζ ν 0 0,ζ ν 0 0]/\Bk V (g+2) 117 #[ag,pv,bv,v']/\Γ g w V:=by
 intro V;exact⟨eo h.1 (by simp),eo h.2.1 (by simp),h.2.2.1.cu (by simp) _,h.2.2.2.1.set 3 v',h.2.2.2.2.setCell (by simp) _⟩
end
def ajc{w W:Ψ}{b:ao}{pv bv tv v6 v7:υ}{B m n:Nat}{ts:List (Tape×υ)}(hB:B<=w.heap.size)(ai:bg w B b pv bv tv)(rS:∀p∈ts,Row w B 1 cH p.2 p.1.pieces)(il:ts.map Ajp=b.aJ)(hn:n=ts.length)
 (h6:W.ownsRow (w.heap.size+3) 3 1 v6 (dJ m n).length (ny m n))(h7:W.ownsRow (w.heap.size+3) 95 3 v7 (dJ m n).length ((fL ts m n).flatMap eG))(hb:Γ w.heap.size w W){x0 x1 x2 x3:υ}:
 let V:=(((W.setCell ⟨w.heap.size+1,0,ν⟩ x0).setCell ⟨w.heap.size+1,1,ν⟩ x1).setCell ⟨w.heap.size+1,2,ν⟩ x2).setCell ⟨w.heap.size+1,3,ν⟩ x3
 bg V V.heap.size (mM b m) pv bv v7/\cW V (λk=>k<w.heap.size) 1 cH v6 ((dJ m b.aJ.length).map Aiw)/\Γ w.heap.size w V:=by
 intro V;have hl:b.aJ.length=n:=by rw[<-il,Ah8,hn]
 have xF:Γ w.heap.size w V:=(((hb.setCell (by simp) _).setCell (by simp) _).setCell (by simp) _).setCell (by simp) _
 have st:Δ B w V:=Δ.aK xF hB;have aI:B<=V.heap.size:=by have:=xF.size;omega
 have o6:V.ownsRow (w.heap.size+3) 3 1 v6 (dJ m n).length (ny m n):=eo (eo (eo (eo h6 (by simp)) (by simp)) (by simp)) (by simp)
 have o7:V.ownsRow (w.heap.size+3) 95 3 v7 (dJ m n).length ((fL ts m n).flatMap eG):=eo (eo (eo (eo h7 (by simp)) (by simp)) (by simp)) (by simp)
 refine⟨⟨(ai.pieces.still st λ_ _ h=>h).more aI,(ai.aF.still st λ_ _ h=>?_).more aI,?_⟩,?_,xF⟩
 ·obtain⟨k,e1,e2,e3⟩:=h.still st
  exact⟨k,e1,e2,e3.more aI⟩
 ·rw[<-Pc ts m n (by omega)] at o7
  have:=lu (R:=λp cs=>cs=eG p) o7 (λ_=>rfl) (λp hm=>rfl)
  have e:(mM b m).aJ=(fL ts m n).map Ajp:=by
   show fL b.aJ m b.aJ.length=_;rw[hl,<-il,ajE]
  rw[e];refine yY this (λp hm cs hc=>⟨p.2,hc,((rS p ?_).still st λ_ _ h=>h).more aI⟩)
  unfold fL at hm;obtain⟨k,_,hk⟩:=List.mem_filterMap.1 hm;exact ϩ hk
 ·rw[hl]
  have e:(ny m n)=((dJ m n).map Aiw).flatMap (λk=> [ξ κ k]):=by
   unfold ny;rw[Td,Ai4];rfl
  rw[e] at o6;have hlen:(dJ m n).length=((dJ m n).map Aiw).length:=by simp
  rw[hlen] at o6;exact cW.vO o6 (λ_=>rfl) (λ_ _=>rfl) (λk hk=>by omega)
def ZH:∀(m:Fin 16) (i:Fin 4),(bits BinOp.and Ϛ ((m.val:Int) / 2 ^ i.val) 1==1)=m.val.testBit i.val:=by decide+kernel
def only{w:Ψ}{b:ao}{pv bv tv:υ}{B m:Nat}(hB:B<=w.heap.size)(ai:bg w B b pv bv tv)(hv:b.aJ.length<=4)(hm:m<16):
 ύ prog 138 #[η #[ξ κ b.ag,pv,bv,tv],ξ κ m] w λe w'=>∃fD iv,e=Ω (μ #[η #[ξ κ b.ag,pv,bv,fD],iv])/\bg w' w'.heap.size (mM b m) pv bv fD/\
  cW w' (λk=>k<w.heap.size) 1 cH iv ((dJ m b.aJ.length).map Aiw)/\Γ w.heap.size w w':=by
 obtain⟨ts,il,pg⟩:=I1 (R':=λ(p:Tape×υ) cs=>cs=eG p/\Row w B 1 cH p.2 p.1.pieces) ai.aJ (λx cs ⟨kv,h1,h3⟩=>⟨kv,h1,h3⟩)
 have rS:∀p∈ts,Row w B 1 cH p.2 p.1.pieces:=λp hp=>by obtain⟨cs,h1,h2⟩:=pg.mem p hp;exact h2
 have qG:ts.length=b.aJ.length:=by rw[<-il,Ah8]
 have HM:=ψ (ϐ rS (ϐ il qG));have bT:=ψ ai;obtain⟨A1,n1,c1,rfl,-⟩:=ai.pieces.Φ;obtain⟨A2,n2,c2,rfl,-⟩:=ai.aF.Φ;obtain⟨A3,n3,c3,rfl,e3,h3,rD,r3⟩:=pg.Φ;have R3:=ψ r3;have lQ:n3<=4:=by omega
 have E3:=ψ e3;unfold ϗ at rD;clear ai pg rS il qG r3 e3 hv;go_enter func138,Tryz.ntmps138;go_wp2;have L0:Hid (Bk (((w.alloc (Ξ #[ξ κ b.ag,ζ A1 n1 c1,ζ A2 n2 c2,ζ A3 n3 c3] 117)).alloc (Ξ #[ξ κ 0,ζ ν 0 0,ζ ν 0 0,ζ ν 0 0] 117)).alloc (Ξ #[ξ κ b.ag,ζ A1 n1 c1,ζ A2 n2 c2,ζ ν 0 0] 117)) (w.heap.size+2) 117 #[ξ κ b.ag,ζ A1 n1 c1,ζ A2 n2 c2,ζ ν 0 0]):=ψ (Bk.cG (by simp) _ _)
 go_loopw [6,17] (λv6 u wr=>∃(i:Nat) (v7:υ),i<=n3/\u=ξ κ i/\Hid (wr.ownsRow (w.heap.size+3) 3 1 v6 (dJ m i).length (ny m i))/\Hid (wr.ownsRow (w.heap.size+3) 95 3 v7 (dJ m i).length ((fL ts m i).flatMap eG))/\
  Hid (Bk wr (w.heap.size+1) 117 #[ξ κ 0,ζ ν 0 0,ζ ν 0 0,ζ ν 0 0])/\Hid (Bk wr (w.heap.size+2) 117 #[ξ κ b.ag,ζ A1 n1 c1,ζ A2 n2 c2,v7])/\Hid (Γ w.heap.size w wr)) (λ_ u _=>n3 - (ϙ u).toNat)
 case atStart=>exact⟨0,_,ϡ _,rfl,ψ ⟨rfl,.inl ⟨rfl,rfl⟩⟩,ψ ⟨rfl,.inl ⟨rfl,rfl⟩⟩,ψ ((Bk.cG (by simp) _ _).alloc _),L0,ψ ((((Ϗ _ _).alloc (ϊ _) _).alloc (by simp) _).alloc (by simp<;>omega) _)⟩
 case round=>
  obtain⟨i,v7,hi,rfl,h6,h7,hr,hk,hb⟩:=hrel;obtain⟨A6,n6,c6,rfl⟩:=pw h6.e;obtain⟨A7,n7,c7,rfl⟩:=pw h7.e;by_cases al:i<n3
  ·obtain⟨ad,x,cs,kX,aC,hx,⟨rfl,Oj⟩,-,au⟩:=R3.e i al
   subst kX;have st:Δ B w wr:=Δ.aK hb.e hB;obtain⟨x,kv⟩:=x;simp only at Oj;obtain⟨m5,rN⟩:∃k,k=x.pieces.length:=⟨_,rfl⟩
   obtain⟨A5,c5,rfl,-⟩:=id Oj;rw[<-rN] at hx au;clear Oj rN;have g0:=cC au st aC rfl;have g1:=bK au st aC 0 rfl;have g2:=bK au st aC 1 rfl;have aI:=hb.e.size;have xD:(ad.add (i * 3)).block<wr.heap.size:=by rw[cq];omega
   have G9:=ZH ⟨m,hm⟩ ⟨i,by omega⟩
   simp only at G9;have HX:=ψ hx;have sR:=ψ (ϐ h6.e (ϐ h7.e (ϐ hr.e (ϐ hk.e hb.e))));clear hx au st;cases vb:m.testBit i with
   |false=>
    rw[vb] at G9;go_wp2;go_roundw;case rel=>exact⟨i+1,_,by omega,by go_num,ψ (by unfold ny;rw[Ic vb];exact h6.e.alloc _),ψ (by rw[Ic vb,Wy vb];exact h7.e.alloc _),ψ (hr.e.alloc _),ψ (hk.e.alloc _),ψ (hb.e.alloc aI _)⟩
    case measure=>simp[ϙ];omega
   |true=>
    rw[vb] at G9;go_wp2;obtain⟨i3,fZ,jB,gQ,bD⟩:=Ag9 VG;obtain⟨i9,DC,Vu,N7,oZ⟩:=Ag9 Oq;have nW:=ψ (ϐ fZ (ϐ jB (ϐ gQ bD)));have nX:=ψ (ϐ DC (ϐ Vu (ϐ N7 oZ)));clear fZ jB gQ bD DC Vu N7 oZ h6 h7 hr hk hb g0 g1 g2 xD G9;have yS:OI w (wr.alloc (Ξ #[ζ A5 m5 c5,ξ κ x.sum.lo,ξ κ x.sum.hi] 95)) w.heap.size wr.heap.size (ξ κ b.ag) (ζ A1 n1 c1) (ζ A2 n2 c2) (ζ A7 n7 c7) (ζ A6 n6 c6) (ζ A7 n7 c7) #[ζ A5 m5 c5,ξ κ x.sum.lo,ξ κ x.sum.hi] (dJ m i).length (dJ m i).length (ny m i) ((fL ts m i).flatMap eG):=
     ⟨sR.e.1.alloc _,sR.e.2.1.alloc _,sR.e.2.2.1.alloc _,sR.e.2.2.2.1.alloc _,Bk.new wr _ _,sR.e.2.2.2.2.alloc aI _⟩
    have Vv:(wr.alloc (Ξ #[ζ A5 m5 c5,ξ κ x.sum.lo,ξ κ x.sum.hi] 95)).heap.size=wr.heap.size+1:=by simp
    generalize (wr.alloc (Ξ #[ζ A5 m5 c5,ξ κ x.sum.lo,ξ κ x.sum.hi] 95))=V at yS Vv |-
    have nZ:Hid (OI w V.drew w.heap.size wr.heap.size (ξ κ b.ag) (ζ A1 n1 c1) (ζ A2 n2 c2) (ζ A7 n7 c7) (ζ A6 n6 c6) (ζ A7 n7 c7) #[ζ A5 m5 c5,ξ κ x.sum.lo,ξ κ x.sum.hi] (dJ m i).length (dJ m i).length (ny m i) ((fL ts m i).flatMap eG)):=ψ ⟨yS.o6,yS.o7,yS.kr,yS.kk,yS.ke,iY yS.hb⟩;have q7: V.cell? ⟨w.heap.size+2,3,ν⟩=φ (ζ A7 n7 c7):=yS.kk.cell 3;have e0: V.cell? ⟨wr.heap.size,0,ν⟩=φ (ζ A5 m5 c5):=yS.ke.cell 0;have e1: V.cell? ⟨wr.heap.size,1,ν⟩=φ (ξ κ x.sum.lo):=yS.ke.cell 1;have e2: V.cell? ⟨wr.heap.size,2,ν⟩=φ (ξ κ x.sum.hi):=yS.ke.cell 2;have xR:=yS.kk.lt;have aeO:w.heap.size+2<=V.heap.size:=by omega
    have aeP:w.heap.size+2<V.heap.size+1:=by omega
    have aeQ:w.heap.size+2<=V.heap.size+1:=by omega
    have Ng:wr.heap.size<V.heap.size:=by omega
    have aep:wr.heap.size<=V.heap.size:=by omega
    have aer:wr.heap.size<V.heap.size+1:=by omega
    have aes:wr.heap.size<=V.heap.size+1:=by omega
    have afZ:w.heap.size+3<=V.heap.size:=xR;have rJ:(dJ m i).length<=4:=by have:=Ek m i;omega
    obtain⟨nl,Az⟩:∃k,k=(dJ m i).length:=⟨_,rfl⟩
    rw[<-Az] at nZ rJ;have ZA:=ψ Az;clear yS sR Vv aI Az;refine Code.wp_mono (Q:=dP λa W=>∃BT n61 Nh BU Ez CJ XY XZ,a={tmps:=#[Value.agg #[ϝ Ϛ b.ag,Value.slice A1 n1 c1,Value.slice A2 n2 c2,Value.slice (φ ad) n3 c3],ϝ Ϛ (m:Int),Value.pointer (φ {block:=w.heap.size,off:=0}),ω,Value.pointer (φ {block:=w.heap.size+1,off:=0}),Value.slice ν 0 0,Value.slice BT n61 Nh,Value.pointer (φ {block:=w.heap.size+1+1,off:=0}),ϝ Ϛ (i:Int),Value.pointer (φ {block:=wr.heap.size,off:=0}),Value.agg #[ϝ Ϛ b.ag,Value.slice A1 n1 c1,Value.slice A2 n2 c2,Value.slice (φ ad) n3 c3],Value.pointer (φ {block:=w.heap.size+1+1,off:=0}),Value.pointer (φ {block:=w.heap.size+1+1,off:=3}),Value.pointer (φ {block:=w.heap.size,off:=0}),Value.pointer (φ {block:=w.heap.size,off:=3}),Value.slice (φ ad) n3 c3,ϝ Ϛ (n3:Int),ϝ Ϛ (i:Int),Value.bool θ,ϝ Ϛ (i:Int),Value.pointer (φ (ad.add (i * 3))),Value.agg #[Value.slice A5 m5 c5,ϝ Ϛ x.sum.lo,ϝ Ϛ x.sum.hi],ϝ Ϛ (m:Int),ϝ Ϛ (i:Int),ϝ Ϛ ((m:Int) / 2 ^ i),ϝ Ϛ (bits BinOp.and Ϛ ((m:Int) / 2 ^ i) 1),Value.bool θ,Value.slice A6 n6 c6,ϝ Ϛ (i:Int),XY,Value.slice BT n61 Nh,Value.pointer (φ {block:=w.heap.size+1+1,off:=0}),Value.pointer (φ {block:=w.heap.size+1+1,off:=3}),Value.slice A7 n7 c7,Value.agg #[Value.slice A5 m5 c5,ϝ Ϛ x.sum.lo,ϝ Ϛ x.sum.hi],XZ,Value.slice BU Ez CJ,Value.pointer (φ {block:=w.heap.size+1+1,off:=0}),Value.pointer (φ {block:=w.heap.size+1+1,off:=3}),u39,ω,ω],defers:=[]}/\
     Hid (W.ownsRow (w.heap.size+3) 3 1 (ζ BT n61 Nh) (nl+1) (ny m i++ [ξ κ i])/\W.ownsRow (w.heap.size+3) 95 3 (ζ BU Ez CJ) (nl+1) ((fL ts m i).flatMap eG++ [ζ A5 m5 c5,ξ κ x.sum.lo,ξ κ x.sum.hi])/\
      Bk W (w.heap.size+1) 117 #[ξ κ 0,ζ ν 0 0,ζ ν 0 0,ζ ν 0 0]/\Bk W (w.heap.size+2) 117 #[ξ κ b.ag,ζ A1 n1 c1,ζ A2 n2 c2,ζ BU Ez CJ]/\Γ w.heap.size w W)) ?post ?region
    case region=>
     go_region_law (first
      | (first
              |refine ug rfl (.tmp 27) (.tmp 29) 33 rfl (w.heap.size+3) 3 i3 (ξ κ 0) 1 8 (U Tryz.underlying33) nW.e.1 nW.e.2.1 nW.e.2.2.1 nW.e.2.2.2 rfl (by decide) _ nl (ny m i) rfl (nZ.e.alloc _).o6 ⟨V.heap.size,0,ν⟩ 1 1 [ξ κ i] rfl rfl ?c1 ?c2 ?c3 ?c4 ?c5 ?_
              |refine ug rfl (.tmp 27) (.tmp 29) 33 rfl (w.heap.size+3) 3 i3 (ξ κ 0) 1 8 (U Tryz.underlying33) nW.e.1 nW.e.2.1 nW.e.2.2.1 nW.e.2.2.2 rfl (by decide) _ nl (ny m i) rfl ((nZ.e.alloc _).alloc _).o6 ⟨V.heap.size,0,ν⟩ 1 1 [ξ κ i] rfl rfl ?c1 ?c2 ?c3 ?c4 ?c5 ?_
              |refine ug rfl (.tmp 27) (.tmp 29) 33 rfl (w.heap.size+3) 3 i3 (ξ κ 0) 1 8 (U Tryz.underlying33) nW.e.1 nW.e.2.1 nW.e.2.2.1 nW.e.2.2.2 rfl (by decide) _ nl (ny m i) rfl ((nZ.e.alloc _).alloc _).o6 ⟨V.heap.size+1,0,ν⟩ 1 1 [ξ κ i] rfl rfl ?c1 ?c2 ?c3 ?c4 ?c5 ?_
         case c1=>first|exact LN (Bk.new V.drew 3 _) |exact LN ((Bk.new V.drew 3 _).alloc _) |exact LN (Bk.cG (w:=V.drew.alloc _) (by simp) 3 _)
         case c2=>simp[Value.oneCell']
         case c3=>(simp only[ϗ];omega)
         case c4=>omega
         case c5=>first| (simp;done) | (simp;omega)
         intro v6 w6 aG dS;have jM:Hid (OI w w6 w.heap.size wr.heap.size (ξ κ b.ag) (ζ A1 n1 c1) (ζ A2 n2 c2) (ζ A7 n7 c7) v6 (ζ A7 n7 c7) #[ζ A5 m5 c5,ξ κ x.sum.lo,ξ κ x.sum.hi] (nl+1) nl (ny m i++ [ξ κ i]) ((fL ts m i).flatMap eG)):=ψ (by first|exact(nZ.e.alloc _).Rv aG dS|exact((nZ.e.alloc _).alloc _).Rv aG dS)
         have q7: w6.cell? ⟨w.heap.size+2,3,ν⟩=φ (ζ A7 n7 c7):=jM.e.kk.cell 3;have e0: w6.cell? ⟨wr.heap.size,0,ν⟩=φ (ζ A5 m5 c5):=jM.e.ke.cell 0;have e1: w6.cell? ⟨wr.heap.size,1,ν⟩=φ (ξ κ x.sum.lo):=jM.e.ke.cell 1;have e2: w6.cell? ⟨wr.heap.size,2,ν⟩=φ (ξ κ x.sum.hi):=jM.e.ke.cell 2;have jV:w.heap.size+2<w6.heap.size:=jM.e.kk.lt;have he6:wr.heap.size<w6.heap.size:=jM.e.ke.lt;have aoo:w.heap.size+2<=w6.heap.size:=by omega
         have aoc:wr.heap.size<=w6.heap.size:=by omega
         try(have HZ:Hid (Bk w6 (V.heap.size+1) 95 #[ζ A5 m5 c5,ξ κ x.sum.lo,ξ κ x.sum.hi]):=ψ (afX nZ.e dS))
         try(have HY:Hid (Bk w6 V.heap.size 95 #[ζ A5 m5 c5,ξ κ x.sum.lo,ξ κ x.sum.hi]):=ψ (afT nZ.e dS))
         obtain⟨BT,n61,Nh,rfl⟩:=pw aG;clear aG dS)
      | (first
              |refine ug rfl (.tmp 33) (.tmp 35) 24 rfl (w.heap.size+3) 95 i9 (η #[ζ ν 0 0,ξ κ 0,ξ κ 0]) 3 40 (U Tryz.underlying24) nX.e.1 nX.e.2.1 nX.e.2.2.1 nX.e.2.2.2 rfl (by decide) _ nl ((fL ts m i).flatMap eG) rfl (jM.e.alloc _).o7 ⟨w6.heap.size,0,ν⟩ 1 1 [ζ A5 m5 c5,ξ κ x.sum.lo,ξ κ x.sum.hi] rfl rfl ?c1 ?c2 ?c3 ?c4 ?c5 ?_
              |refine ug rfl (.tmp 33) (.tmp 35) 24 rfl (w.heap.size+3) 95 i9 (η #[ζ ν 0 0,ξ κ 0,ξ κ 0]) 3 40 (U Tryz.underlying24) nX.e.1 nX.e.2.1 nX.e.2.2.1 nX.e.2.2.2 rfl (by decide) _ nl ((fL ts m i).flatMap eG) rfl jM.e.o7 ⟨V.heap.size+1,0,ν⟩ 1 1 [ζ A5 m5 c5,ξ κ x.sum.lo,ξ κ x.sum.hi] rfl rfl ?c1 ?c2 ?c3 ?c4 ?c5 ?_
              |refine ug rfl (.tmp 33) (.tmp 35) 24 rfl (w.heap.size+3) 95 i9 (η #[ζ ν 0 0,ξ κ 0,ξ κ 0]) 3 40 (U Tryz.underlying24) nX.e.1 nX.e.2.1 nX.e.2.2.1 nX.e.2.2.2 rfl (by decide) _ nl ((fL ts m i).flatMap eG) rfl jM.e.o7 ⟨V.heap.size,0,ν⟩ 1 1 [ζ A5 m5 c5,ξ κ x.sum.lo,ξ κ x.sum.hi] rfl rfl ?c1 ?c2 ?c3 ?c4 ?c5 ?_
         case c1=>first|exact LO (Bk.new w6 95 _) |exact LO HZ.e|exact LO HY.e
         case c2=>simp[Value.oneCell']
         case c3=>(simp only[ϗ];omega)
         case c4=>omega
         case c5=>first|omega| (simp;omega)
         intro v7 w7 aG dS;have KV:Hid (w7.ownsRow (w.heap.size+3) 3 1 _ (nl+1) (ny m i++ [ξ κ i])/\w7.ownsRow (w.heap.size+3) 95 3 v7 (nl+1) ((fL ts m i).flatMap eG++ [ζ A5 m5 c5,ξ κ x.sum.lo,ξ κ x.sum.hi])/\Bk w7 (w.heap.size+1) 117 #[ξ κ 0,ζ ν 0 0,ζ ν 0 0,ζ ν 0 0]/\Bk w7 (w.heap.size+2) 117 #[ξ κ b.ag,ζ A1 n1 c1,ζ A2 n2 c2,ζ A7 n7 c7]/\Γ w.heap.size w w7):=ψ (by first|exact(jM.e.alloc _).Rw aG dS|exact jM.e.Rw aG dS)
         have q3: w7.cell? ⟨w.heap.size+2,3,ν⟩=φ (ζ A7 n7 c7):=KV.e.2.2.2.1.cell 3;have f3: w7.frozen? ⟨w.heap.size+2,3,ν⟩=χ:=KV.e.2.2.2.1.frozen 3;obtain⟨BU,Ez,CJ,rfl⟩:=pw aG;clear aG dS))
     all_goals
      show ∃_,_
      exact⟨_,_,_,_,_,_,_,_,rfl,ψ (aja KV.e)⟩
    case post=>
     clear nZ q7 e0 e1 e2 xR aeO aeP aeQ Ng aep aer aes afZ nW nX;refine dP.imp ?_
     rintro a W ⟨BT,n61,Nh,BU,Ez,CJ,XY,XZ,rfl,hW⟩;have HW:=ψ hW;clear hW;go_wp2;go_roundw;case rel=>exact⟨i+1,_,by omega,by go_num,ψ (by unfold ny;rw[Ie vb];have:=HW.e.1;rw[ZA.e] at this;simpa [ny] using this),ψ (by rw[Ie vb,Wz vb HX.e];have:=HW.e.2.1;rw[ZA.e] at this;simpa [eG] using this),ψ HW.e.2.2.1,ψ HW.e.2.2.2.1,ψ HW.e.2.2.2.2⟩
     case measure=>simp[ϙ];omega
  ·obtain rfl:i=n3:=by omega
   have q0:=hk.e.cell 0;have q1:=hk.e.cell 1;have q2:=hk.e.cell 2;have q3:=hk.e.cell 3;have p0:=hr.e.cell 0;have p1:=hr.e.cell 1;have p2:=hr.e.cell 2;have p3:=hr.e.cell 3;have f0:=hr.e.frozen 0;have f1:=hr.e.frozen 1;have f2:=hr.e.frozen 2;have f3:=hr.e.frozen 3;have rV:w.heap.size+1<wr.heap.size:=hr.e.lt;have qz:=((((hr.e.set 0 (ξ κ b.ag)).set 1 (ζ A1 n1 c1)).set 2 (ζ A2 n2 c2)).set 3 (ζ A7 n7 c7));have y0:=qz.cell 0;have y1:=qz.cell 1;have y2:=qz.cell 2;have y3:=qz.cell 3;clear qz;go_wp2;refine Ahb (v:=μ #[η #[ξ κ b.ag,ζ A1 n1 c1,ζ A2 n2 c2,ζ A7 n7 c7],ζ A6 n6 c6]) (by simp[results,Tryz.results138,go_sem,y0,y1,y2,y3]) rfl ⟨_,_,rfl,?_⟩
   exact ajc hB bT.e HM.e.1 HM.e.2.1 (by rw[E3.e]) h6.e h7.e hb.e
end Go.Tw
namespace Go.Tw
variable [Go.Tw.aR]
open Go Go.Proofs Go.RowKit
def wW(b:ao)(m:Nat)(cur:List Int):Bool:=
 let l:=(dJ m b.aJ.length).map Aiw
 (decide (l.length<cur.length) || (decide (l.length=cur.length) && decide (pY l cur<0))) && decide ((aD (mM b m)).length=0)
def ju(b:ao):Nat->List Int
 |0=>(dJ (2 ^ b.aJ.length - 1) b.aJ.length).map Aiw
 |m+1=>if wW b m (ju b m) then(dJ m b.aJ.length).map Aiw else ju b m
def zM(b:ao):List Int:=if(aD b).length=0 then ju b (2 ^ b.aJ.length) else []
def yK{b:ao}{m:Nat}(h:Valid b):Valid (mM b m):=by
 have mB:∀t∈(mM b m).aJ,t∈b.aJ:=λt ht=>by
  have:t∈fL b.aJ m b.aJ.length:=ht;unfold fL at this;obtain⟨k,_,hk⟩:=List.mem_filterMap.1 this;exact ϩ hk
 refine⟨h.ag,h.np,h.piece,h.nb,h.bp,?_,λt ht=>h.tape t (mB t ht)⟩
 have:(mM b m).aJ.length=(dJ m b.aJ.length).length:=Pc b.aJ m _ (ϊ _);rw[this];exact Ϥ (Ek _ _) h.nt
def agu{K:Act->Ψ->Prop}{a:Act}{w:Ψ}(F:Ψ->Prop)(h:∀W,F W->K a W)(hw:F w):K a w:=h w hw
def Ss{b:ao}{m:Nat}(h:wW b m (ju b m)=θ):ju b (m+1)=(dJ m b.aJ.length).map Aiw:=by
 show(if wW b m (ju b m) then(dJ m b.aJ.length).map Aiw else ju b m)=_
 rw[if_pos h]
def LL{b:ao}{m:Nat}(h:wW b m (ju b m)=χ):ju b (m+1)=ju b m:=by
 show(if wW b m (ju b m) then(dJ m b.aJ.length).map Aiw else ju b m)=_
 rw[h];rfl
def Sr(b:ao):∀m,(ju b m).length<=b.aJ.length
 |0=>by simp[ju];exact Ek _ _
 |m+1=>by
  unfold ju;split
  ·simp;exact Ek _ _
  ·exact Sr b m
def aaq{w:Ψ}{b:ao}{pv bv tv:υ}{B:Nat}(hB:B<=w.heap.size)(ai:bg w B b pv bv tv)(h0:dF b=0):
 ύ prog 56 #[η #[ξ κ b.ag,pv,bv,tv]] w λe w'=>∃v,e=Ω (μ #[v,ξ κ 0])/\Row w' w'.heap.size 1 cH v (zM b)/\Γ w.heap.size w w':=by
 have st:Δ B w (w.alloc (Ξ #[ξ κ b.ag,pv,bv,tv] 26)):=(Δ.refl w).alloc hB _;have aB:=ψ (ry (ai.still st) (by simp<;>omega) h0)
 have bT:=ψ ai;have hv:=iy h0;have HV:=ψ hv;have adV:=Ct hv;have xZ:=hv.nt;obtain⟨A1,n1,c1,rfl,-⟩:=ai.pieces.Φ;obtain⟨A2,n2,c2,rfl,-⟩:=ai.aF.Φ;obtain⟨A3,n3,c3,rfl,e3,h3,rD,-⟩:=ai.aJ.Φ;rw[e3] at xZ;have E3:=ψ e3;unfold ϗ at rD;obtain⟨na,vr⟩:∃n,n=(aD b).length:=⟨_,rfl⟩
 rw[<-vr] at adV;by_cases rP:0<na
 ·have Ot:=ψ vr
  have fY:zM b=[]:=by unfold zM;rw[if_neg (by have:=Ot.e;omega)]
  have uy:=ψ fY;clear vr fY;go_enter func56,Tryz.ntmps56;go_wp2_with (first
   | (go_at_call 68;refine aB.e.mono ?_;rintro e w1 ⟨rfl,ae⟩
      have kb:Bk w1 w.heap.size 26 #[ξ κ b.ag,ζ A1 n1 c1,ζ A2 n2 c2,ζ A3 n3 c3]:=(Bk.new w _ _).below ae (by simp)
      have k0:=kb.cell 0;have k1:=kb.cell 1;have k2:=kb.cell 2;have k3:=kb.cell 3;have aY:Hid (Γ w.heap.size w w1):=ψ ((((Ϗ _ _).alloc (ϊ _) _)).trans (ae.mono (by simp)))
      have KB:=ψ kb;have aN:w.heap.size<w1.heap.size:=kb.lt;have Kg:Hid (∀w',Γ w1.heap.size w1 w'->ύ prog 96 #[η #[ξ κ b.ag,ζ A1 n1 c1,ζ A2 n2 c2,ζ A3 n3 c3]] w' λe bq=>∃v,e=Ω v/\qQ bq w'.heap.size v (aD b)/\Γ w'.heap.size w' bq):=ψ λw' hw=>by
       have st:Δ B w w':=Δ.aK (aY.e.trans (hw.mono (by omega))) hB
       exact all (by have:=hw.size;omega) (bT.e.still st) HV.e
      clear kb ae)
   | (go_at_call 96
      refine(Kg.e _ ((Ϗ _ _).alloc (ϊ _) _)).mono ?_
      rintro e w2 ⟨sv,rfl,aG,ak⟩;obtain⟨A9,n9,c9,rfl,cY,nG,py,iN⟩:=aG.row.Φ;have e9:n9=na:=by rw[<-cY];exact Ot.e.symm
      subst e9;have dV:=ψ ak;clear ak aG cY iN))
  go_ret2
  exact⟨_,rfl,by rw[uy.e];exact Row.nil,aY.e.trans ((((Ϗ _ _).alloc (ϊ _) _).trans (dV.e.mono (by simp))).mono (by omega))⟩
 obtain rfl:na=0:=by omega
 have Ot:=ψ vr;clear ai st hv h0 vr e3;obtain⟨mp,rO⟩:∃mp,2 ^ n3=mp+1:=⟨2 ^ n3 - 1,by have:0<2 ^ n3:=Nat.two_pow_pos n3;omega⟩
 have hp:((2:Int) ^ n3)=(mp:Int)+1:=by
  have h1:((2:Int) ^ n3)=((2 ^ n3:Nat):Int):=by simp
  rw[h1,rO];simp
 have ae9:mp<16:=by
  have:2 ^ n3<=2 ^ 4:=Nat.pow_le_pow_right (by omega) xZ
  omega
 have yo:Ϛ.wrap ((mp:Int)+1)=(mp:Int)+1:=by rw[IntWalk.i64_left];exact IntWalk.wrap64_in _ (by omega)
 have eC:Ϛ.wrap (mp:Int)=(mp:Int):=by rw[IntWalk.i64_left];exact IntWalk.wrap64_in _ (by omega)
 have Sn:Ϛ.wrap ((mp:Int)+1 - 1)=(mp:Int):=by rw[Int.add_sub_cancel];exact eC
 have Q7:=ψ rO;clear rO;go_enter func56,Tryz.ntmps56;go_wp2_with (first
  | (go_at_call 68;refine aB.e.mono ?_;rintro e w1 ⟨rfl,ae⟩
     have kb:Bk w1 w.heap.size 26 #[ξ κ b.ag,ζ A1 n1 c1,ζ A2 n2 c2,ζ A3 n3 c3]:=(Bk.new w _ _).below ae (by simp)
     have k0:=kb.cell 0;have k1:=kb.cell 1;have k2:=kb.cell 2;have k3:=kb.cell 3;have aY:Hid (Γ w.heap.size w w1):=ψ ((((Ϗ _ _).alloc (ϊ _) _)).trans (ae.mono (by simp)))
     have KB:=ψ kb;have aN:w.heap.size<w1.heap.size:=kb.lt;have Kg:Hid (∀w',Γ w1.heap.size w1 w'->ύ prog 96 #[η #[ξ κ b.ag,ζ A1 n1 c1,ζ A2 n2 c2,ζ A3 n3 c3]] w' λe bq=>∃v,e=Ω v/\qQ bq w'.heap.size v (aD b)/\Γ w'.heap.size w' bq):=ψ λw' hw=>by
      have st:Δ B w w':=Δ.aK (aY.e.trans (hw.mono (by omega))) hB
      exact all (by have:=hw.size;omega) (bT.e.still st) HV.e
     clear kb ae)
  | (go_at_call 96
     refine(Kg.e _ ((Ϗ _ _).alloc (ϊ _) _)).mono ?_
     rintro e w2 ⟨sv,rfl,aG,ak⟩;obtain⟨A9,n9,c9,rfl,cY,nG,py,iN⟩:=aG.row.Φ;have e9:n9=0:=by rw[<-cY,<-Ot.e]
     subst e9;have dV:=ψ ak;have mH:Bk w2 w.heap.size 26 #[ξ κ b.ag,ζ A1 n1 c1,ζ A2 n2 c2,ζ A3 n3 c3]:=(KB.e.alloc _).below ak (by simp<;>omega)
     have rY:Bk w2 w1.heap.size 117 #[ξ κ b.ag,ζ A1 n1 c1,ζ A2 n2 c2,ζ A3 n3 c3]:=(Bk.new _ _ _).below ak (by simp)
     have q3: w2.cell? ⟨w.heap.size,3,ν⟩=φ (ζ A3 n3 c3):=mH.cell 3;have k0:=rY.cell 0;have k1:=rY.cell 1;have k2:=rY.cell 2;have k3:=rY.cell 3;have wS:=ψ (ϐ mH rY);clear ak aG cY iN mH rY))
 have KS:∀w',Hid (Γ w2.heap.size w2 w')-> w'.cell? ⟨w.heap.size,3,ν⟩=φ (ζ A3 n3 c3)/\ w'.cell? ⟨w1.heap.size,0,ν⟩=φ (ξ κ b.ag)/\ w'.cell? ⟨w1.heap.size,1,ν⟩=φ (ζ A1 n1 c1)/\ w'.cell? ⟨w1.heap.size,2,ν⟩=φ (ζ A2 n2 c2)/\ w'.cell? ⟨w1.heap.size,3,ν⟩=φ (ζ A3 n3 c3)/\Hid (Γ w2.heap.size w2 w'):=λw' h=>
  ⟨(h.e.cell wS.e.1.lt).trans q3,(h.e.cell wS.e.2.lt).trans k0,(h.e.cell wS.e.2.lt).trans k1,(h.e.cell wS.e.2.lt).trans k2,(h.e.cell wS.e.2.lt).trans k3,h⟩
 have HD:Hid (Γ w2.heap.size w2 w2.drew):=ψ (iY (Ϗ _ _));have QG:Hid (∀(m:Nat) (w':Ψ),m<16->Γ w2.heap.size w2 w'->ύ prog 138 #[η #[ξ κ b.ag,ζ A1 n1 c1,ζ A2 n2 c2,ζ A3 n3 c3],ξ κ m] w' λe bq=>∃fD iv,e=Ω (μ #[η #[ξ κ b.ag,ζ A1 n1 c1,ζ A2 n2 c2,fD],iv])/\bg bq bq.heap.size (mM b m) (ζ A1 n1 c1) (ζ A2 n2 c2) fD/\
  cW bq (λk=>k<w'.heap.size) 1 cH iv ((dJ m b.aJ.length).map Aiw)/\Γ w'.heap.size w' bq):=ψ λm w' hm hw=>by
  have st:Δ B w w':=Δ.aK ((aY.e.trans ((((Ϗ _ _).alloc (ϊ _) _).trans (dV.e.mono (by simp))).mono (by omega))).trans (hw.mono (by have:=wS.e.1.lt;omega))) hB
  exact only (by have:=hw.size;have:=dV.e.size;have:=aY.e.size;simp at *;omega) (bT.e.still st) HV.e.nt hm
 clear q3 k0 k1 k2 k3;go_region_held3 (λw'=> w'.cell? ⟨w.heap.size,3,ν⟩=φ (ζ A3 n3 c3)/\ w'.cell? ⟨w1.heap.size,0,ν⟩=φ (ξ κ b.ag)/\ w'.cell? ⟨w1.heap.size,1,ν⟩=φ (ζ A1 n1 c1)/\ w'.cell? ⟨w1.heap.size,2,ν⟩=φ (ζ A2 n2 c2)/\ w'.cell? ⟨w1.heap.size,3,ν⟩=φ (ζ A3 n3 c3)/\Hid (Γ w2.heap.size w2 w'))
  (first
    |exact KS _ HD|exact KS _ (ψ (HD.e.alloc (ϊ _) _)) |exact KS _ nY|exact KS _ (ψ (nY.e.alloc (nY.e.size) _))
    |exact KS _ (ψ ((((nY.e.setCell (ϊ _) _).setCell (ϊ _) _).setCell (ϊ _) _).setCell (ϊ _) _))
    |exact KS _ (ψ (((((nY.e.alloc (nY.e.size) _).setCell nY.e.size _).setCell nY.e.size _).setCell nY.e.size _).setCell nY.e.size _)))
  (first
    | (go_at_call 138
       refine(QG.e mp _ ae9 ?hx).mono ?_
       case hx=>first|exact HD.e|exact HD.e.alloc (ϊ _) _
       rintro e w3 ⟨t6v,i7v,rfl,bD,AG,Hd⟩;have nY:Hid (Γ w2.heap.size w2 w3):=ψ (by first|exact HD.e.trans Hd|exact(HD.e.alloc (ϊ _) _).trans (Hd.mono (by simp)))
       obtain⟨iW,n31,iZ,rfl,-⟩:=bD.aJ.Φ;obtain⟨QD,n32,Sg,rfl,-⟩:=id AG.row.Φ
       try(
        have rU:Bk w3 w2.heap.size 117 #[ξ κ 0,ζ ν 0 0,ζ ν 0 0,ζ ν 0 0]:=(Bk.new w2.drew _ _).below Hd (by simp)
        have z0: w3.cell? ⟨w2.heap.size,0,ν⟩=φ (ξ κ 0):=rU.cell 0;have z1: w3.cell? ⟨w2.heap.size,1,ν⟩=φ (ζ ν 0 0):=rU.cell 1;have z2: w3.cell? ⟨w2.heap.size,2,ν⟩=φ (ζ ν 0 0):=rU.cell 2;have z3: w3.cell? ⟨w2.heap.size,3,ν⟩=φ (ζ ν 0 0):=rU.cell 3;have y0:=rU.frozen 0;have y1:=rU.frozen 1;have y2:=rU.frozen 2;have y3:=rU.frozen 3;have YV:Hid (cW w3 (λk=>k=w2.heap.size) 1 cH (ζ QD n32 Sg) ((dJ mp b.aJ.length).map Aiw)):=ψ (AG.weaken (λk hk=>by subst hk;simp))
        have y9:w2.heap.size<w3.heap.size:=rU.lt;clear rU)
       have YT:=ψ AG.row;clear bD AG Hd))
 all_goals
  have ic:ju b 0=(dJ mp b.aJ.length).map Aiw:=by
   show(dJ (2 ^ b.aJ.length - 1) b.aJ.length).map Aiw=_;rw[E3.e,Q7.e,Nat.add_sub_cancel]
  have Kt:=ψ ic;clear ic;simp only[Exit.then];refine agu (λW=>Hid (Γ w2.heap.size w2 W)/\Hid (Row W W.heap.size 1 cH (ζ QD n32 Sg) (ju b 0))) ?_ ?_
  rotate_left 1
  ·rw[Kt.e]
   first
    |exact⟨ψ (nY.e.alloc nY.e.size _),ψ ((YT.e.still (Δ.aK ((Ϗ w3.heap.size w3).alloc (ϊ _) _) (ϊ _)) λ_ _ h=>h).more (by simp))⟩
    |exact⟨ψ ((((nY.e.setCell (ϊ _) _).setCell (ϊ _) _).setCell (ϊ _) _).setCell (ϊ _) _),
       ψ ((((YV.e.grown (uV _ _ _) (λk e=>by injection e with e;exact e.symm)).grown (uV _ _ _) (λk e=>by injection e with e;exact e.symm)).grown (uV _ _ _) (λk e=>by injection e with e;exact e.symm)).grown (uV _ _ _) (λk e=>by injection e with e;exact e.symm)).row⟩
  rintro W ⟨HW,HR⟩;have⟨s3,s0,s1,s2,s4,_⟩:=KS W HW;go_wp2;go_loopw [7,36] (λv7 u wr=>∃m:Nat,m<=mp+1/\u=ξ κ m/\Hid (Γ w2.heap.size w2 wr)/\Hid (Row wr wr.heap.size 1 cH v7 (ju b m))) (λ_ u _=>mp+1 - (ϙ u).toNat)
  case atStart=>exact⟨0,ϡ _,rfl,HW,HR⟩
  case round=>
   clear s3 s0 s1 s2 s4;obtain⟨m,hm,rfl,iX,oa⟩:=hrel;obtain⟨wq,rfl⟩:∃wq:Ψ,wq=wr:=⟨_,rfl⟩
   have⟨s3,s0,s1,s2,s4,_⟩:=KS wq iX;obtain⟨A7,n7,c7,rfl,e7,h7,Fl,-⟩:=oa.e.Φ;unfold ϗ at Fl;by_cases al:m<mp+1
   ·have wG:=ψ (QG.e m wq (by omega) iX.e)
    obtain⟨L,hL⟩:∃L,L=(dJ m b.aJ.length).map Aiw:=⟨_,rfl⟩
    rw[<-hL] at wG;obtain⟨cur,tB⟩:∃l,l=ju b m:=⟨_,rfl⟩
    rw[<-tB] at oa e7;obtain⟨l,hl⟩:∃l,l=L.length:=⟨_,rfl⟩
    have hl4:l<=4:=by rw[hl,hL,Ah8];have:=Ek m b.aJ.length;have:=E3.e;omega
    have hc4:n7<=4:=by rw[<-e7,tB];have:=Sr b m;have:=E3.e;omega
    obtain⟨cm,kZ⟩:∃c,c=pY L cur:=⟨_,rfl⟩
    obtain⟨nb,gy⟩:∃n,n=(aD (mM b m)).length:=⟨_,rfl⟩
    have aoA:nb<=27:=by rw[gy];exact Ct (yK HV.e)
    have TY:wW b m cur=((decide (l<n7) || (decide (l=n7) && decide (cm<0))) && decide (nb=0)):=by
     unfold wW;rw[<-hL];simp only[<-hl,<-kZ,<-gy,e7]
    have HE:=ψ (ϐ hL (ϐ tB (ϐ hl (ϐ kZ (ϐ gy (ϐ e7 TY))))));clear hL tB hl kZ gy e7 TY;have hwm:m+1<=mp+1:=al;by_cases h1:l<n7
    ·by_cases hE:nb=0
     ·have uY:((nb:Int)==0)=θ:=by simp;omega
      go_wp2_with (first
       | (go_at_call 138
          refine wG.e.mono ?_
          rintro e w4 ⟨qU,qJ,rfl,cO,cV,eB⟩;have pK:Hid (∀w',Γ w4.heap.size w4 w'->ύ prog 96 #[η #[ξ κ b.ag,ζ A1 n1 c1,ζ A2 n2 c2,qU]] w' λe bq=>∃v,e=Ω v/\qQ bq w'.heap.size v (aD (mM b m))/\Γ w'.heap.size w' bq):=ψ λw' hw=>all hw.size (cO.still (Δ.aK hw (ϊ _))) (yK HV.e)
          have pJ:Hid (∀w',Γ w4.heap.size w4 w'->ύ prog 139 #[qJ,ζ A7 n7 c7] w' λe bq=>e=Ω (ξ κ cm)/\w'=bq):=ψ λw' hw=>by
             have st:Δ wq.heap.size wq w':=Δ.aK (eB.trans (hw.mono eB.size)) (ϊ _);rw[HE.e.2.2.2.1];exact zN ((cV.row.still (Δ.aK hw (ϊ _)) λ_ _ h=>h)) ((oa.e.still st λ_ _ h=>h).more eB.size) hw.size
          obtain⟨uu,n41,uM,rfl,-⟩:=cO.aJ.Φ;obtain⟨J2,n42,CG,rfl,kW,-⟩:=cV.row.Φ;have pZ:n42=l:=by rw[<-kW,<-HE.e.2.2.1]
          subst pZ;have wT:=ψ cV.row;have fx:Hid (Γ wq.heap.size wq w4):=ψ eB;clear cO cV eB kW)
       | (go_at_call 139
          refine(pJ.e _ ((Ϗ _ _).alloc (ϊ _) _)).mono ?_
          rintro e w5 ⟨rfl,rfl⟩)
       | (go_at_call 96
          refine(pK.e _ ((Ϗ _ _).alloc (ϊ _) _)).mono ?_
          rintro e w6 ⟨sv,rfl,aG,fI⟩;obtain⟨A9,n9,c9,rfl,cY,nG,py,-⟩:=aG.row.Φ;have e9:n9=nb:=by rw[<-cY];exact HE.e.2.2.2.2.1.symm
          subst e9;have gU:=ψ fI;clear fI aG cY))
      go_roundw;case rel=>exact⟨m+1,by omega,by go_num,ψ ((iX.e.trans (fx.e.mono iX.e.size)).trans ((((Ϗ w4.heap.size w4).alloc (ϊ _) _).trans (gU.e.mono (by simp))).mono (by have:=fx.e.size;have:=iX.e.size;omega))),ψ (by
       rw[Ss (by rw[<-HE.e.2.1,HE.e.2.2.2.2.2.2];simp;omega),<-HE.e.1]
       exact((wT.e.still (Δ.aK (((Ϗ w4.heap.size w4).alloc (ϊ _) _).trans (gU.e.mono (by simp))) (ϊ _)) λ_ _ h=>h).more (by have:=gU.e.size;simp at this;omega)))⟩
      case measure=>simp[ϙ];omega
     ·have uY:((nb:Int)==0)=χ:=by simp;omega
      go_wp2_with (first
       | (go_at_call 138
          refine wG.e.mono ?_
          rintro e w4 ⟨qU,qJ,rfl,cO,cV,eB⟩;have pK:Hid (∀w',Γ w4.heap.size w4 w'->ύ prog 96 #[η #[ξ κ b.ag,ζ A1 n1 c1,ζ A2 n2 c2,qU]] w' λe bq=>∃v,e=Ω v/\qQ bq w'.heap.size v (aD (mM b m))/\Γ w'.heap.size w' bq):=ψ λw' hw=>all hw.size (cO.still (Δ.aK hw (ϊ _))) (yK HV.e)
          have pJ:Hid (∀w',Γ w4.heap.size w4 w'->ύ prog 139 #[qJ,ζ A7 n7 c7] w' λe bq=>e=Ω (ξ κ cm)/\w'=bq):=ψ λw' hw=>by
             have st:Δ wq.heap.size wq w':=Δ.aK (eB.trans (hw.mono eB.size)) (ϊ _);rw[HE.e.2.2.2.1];exact zN ((cV.row.still (Δ.aK hw (ϊ _)) λ_ _ h=>h)) ((oa.e.still st λ_ _ h=>h).more eB.size) hw.size
          obtain⟨uu,n41,uM,rfl,-⟩:=cO.aJ.Φ;obtain⟨J2,n42,CG,rfl,kW,-⟩:=cV.row.Φ;have pZ:n42=l:=by rw[<-kW,<-HE.e.2.2.1]
          subst pZ;have wT:=ψ cV.row;have fx:Hid (Γ wq.heap.size wq w4):=ψ eB;clear cO cV eB kW)
       | (go_at_call 139
          refine(pJ.e _ ((Ϗ _ _).alloc (ϊ _) _)).mono ?_
          rintro e w5 ⟨rfl,rfl⟩)
       | (go_at_call 96
          refine(pK.e _ ((Ϗ _ _).alloc (ϊ _) _)).mono ?_
          rintro e w6 ⟨sv,rfl,aG,fI⟩;obtain⟨A9,n9,c9,rfl,cY,nG,py,-⟩:=aG.row.Φ;have e9:n9=nb:=by rw[<-cY];exact HE.e.2.2.2.2.1.symm
          subst e9;have gU:=ψ fI;clear fI aG cY))
      go_roundw;case rel=>exact⟨m+1,by omega,by go_num,ψ ((iX.e.trans (fx.e.mono iX.e.size)).trans ((((Ϗ w4.heap.size w4).alloc (ϊ _) _).trans (gU.e.mono (by simp))).mono (by have:=fx.e.size;have:=iX.e.size;omega))),ψ (by
       rw[LL (by rw[<-HE.e.2.1,HE.e.2.2.2.2.2.2];simp;omega),<-HE.e.2.1]
       exact((oa.e.still (Δ.aK (fx.e.trans ((((Ϗ w4.heap.size w4).alloc (ϊ _) _).trans (gU.e.mono (by simp))).mono fx.e.size)) (ϊ _)) λ_ _ h=>h).more (by have:=gU.e.size;have:=fx.e.size;simp at *;omega)))⟩
      case measure=>simp[ϙ];omega
    ·by_cases h2:l=n7
     ·have dW:((l:Int)==(n7:Int))=θ:=by simp;omega
      by_cases h3:cm<0
      ·by_cases hE:nb=0
       ·have uY:((nb:Int)==0)=θ:=by simp;omega
        go_wp2_with (first
            | (go_at_call 138
               refine wG.e.mono ?_
               rintro e w4 ⟨qU,qJ,rfl,cO,cV,eB⟩;have pK:Hid (∀w',Γ w4.heap.size w4 w'->ύ prog 96 #[η #[ξ κ b.ag,ζ A1 n1 c1,ζ A2 n2 c2,qU]] w' λe bq=>∃v,e=Ω v/\qQ bq w'.heap.size v (aD (mM b m))/\Γ w'.heap.size w' bq):=ψ λw' hw=>all hw.size (cO.still (Δ.aK hw (ϊ _))) (yK HV.e)
               have pJ:Hid (∀w',Γ w4.heap.size w4 w'->ύ prog 139 #[qJ,ζ A7 n7 c7] w' λe bq=>e=Ω (ξ κ cm)/\w'=bq):=ψ λw' hw=>by
                have st:Δ wq.heap.size wq w':=Δ.aK (eB.trans (hw.mono eB.size)) (ϊ _);rw[HE.e.2.2.2.1];exact zN ((cV.row.still (Δ.aK hw (ϊ _)) λ_ _ h=>h)) ((oa.e.still st λ_ _ h=>h).more eB.size) hw.size
               obtain⟨uu,n41,uM,rfl,-⟩:=cO.aJ.Φ;obtain⟨J2,n42,CG,rfl,kW,-⟩:=cV.row.Φ;have pZ:n42=l:=by rw[<-kW,<-HE.e.2.2.1]
               subst pZ;have wT:=ψ cV.row;have fx:Hid (Γ wq.heap.size wq w4):=ψ eB;clear cO cV eB kW)
            | (go_at_call 139
               have py:=pJ.e (w4.alloc (Obj.cells #[ϝ Ϛ b.ag,Value.slice A1 n1 c1,Value.slice A2 n2 c2,Value.slice uu n41 uM] 117)) ((Ϗ _ _).alloc (ϊ _) _);rw[h2] at py;refine py.mono ?_
               clear py;rintro e w5 ⟨rfl,rfl⟩)
            | (go_at_call 96
               refine(pK.e _ ((Ϗ _ _).alloc (ϊ _) _)).mono ?_
               rintro e w6 ⟨sv,rfl,aG,fI⟩;obtain⟨A9,n9,c9,rfl,cY,nG,py,-⟩:=aG.row.Φ;have e9:n9=nb:=by rw[<-cY];exact HE.e.2.2.2.2.1.symm
               subst e9;have gU:=ψ fI;clear fI aG cY))
        go_roundw;case rel=>exact⟨m+1,by omega,by go_num,ψ ((iX.e.trans (fx.e.mono iX.e.size)).trans ((((Ϗ w4.heap.size w4).alloc (ϊ _) _).trans (gU.e.mono (by simp))).mono (by have:=fx.e.size;have:=iX.e.size;omega))),ψ (by
            rw[Ss (by rw[<-HE.e.2.1,HE.e.2.2.2.2.2.2];simp;omega),<-HE.e.1]
            have Ro:=wT.e;rw[h2] at Ro;exact((Ro.still (Δ.aK (((Ϗ w4.heap.size w4).alloc (ϊ _) _).trans (gU.e.mono (by simp))) (ϊ _)) λ_ _ h=>h).more (by have:=gU.e.size;simp at this;omega)))⟩
        case measure=>simp[ϙ];omega
       ·have uY:((nb:Int)==0)=χ:=by simp;omega
        go_wp2_with (first
            | (go_at_call 138
               refine wG.e.mono ?_
               rintro e w4 ⟨qU,qJ,rfl,cO,cV,eB⟩;have pK:Hid (∀w',Γ w4.heap.size w4 w'->ύ prog 96 #[η #[ξ κ b.ag,ζ A1 n1 c1,ζ A2 n2 c2,qU]] w' λe bq=>∃v,e=Ω v/\qQ bq w'.heap.size v (aD (mM b m))/\Γ w'.heap.size w' bq):=ψ λw' hw=>all hw.size (cO.still (Δ.aK hw (ϊ _))) (yK HV.e)
               have pJ:Hid (∀w',Γ w4.heap.size w4 w'->ύ prog 139 #[qJ,ζ A7 n7 c7] w' λe bq=>e=Ω (ξ κ cm)/\w'=bq):=ψ λw' hw=>by
                have st:Δ wq.heap.size wq w':=Δ.aK (eB.trans (hw.mono eB.size)) (ϊ _);rw[HE.e.2.2.2.1];exact zN ((cV.row.still (Δ.aK hw (ϊ _)) λ_ _ h=>h)) ((oa.e.still st λ_ _ h=>h).more eB.size) hw.size
               obtain⟨uu,n41,uM,rfl,-⟩:=cO.aJ.Φ;obtain⟨J2,n42,CG,rfl,kW,-⟩:=cV.row.Φ;have pZ:n42=l:=by rw[<-kW,<-HE.e.2.2.1]
               subst pZ;have wT:=ψ cV.row;have fx:Hid (Γ wq.heap.size wq w4):=ψ eB;clear cO cV eB kW)
            | (go_at_call 139
               have py:=pJ.e (w4.alloc (Obj.cells #[ϝ Ϛ b.ag,Value.slice A1 n1 c1,Value.slice A2 n2 c2,Value.slice uu n41 uM] 117)) ((Ϗ _ _).alloc (ϊ _) _);rw[h2] at py;refine py.mono ?_
               clear py;rintro e w5 ⟨rfl,rfl⟩)
            | (go_at_call 96
               refine(pK.e _ ((Ϗ _ _).alloc (ϊ _) _)).mono ?_
               rintro e w6 ⟨sv,rfl,aG,fI⟩;obtain⟨A9,n9,c9,rfl,cY,nG,py,-⟩:=aG.row.Φ;have e9:n9=nb:=by rw[<-cY];exact HE.e.2.2.2.2.1.symm
               subst e9;have gU:=ψ fI;clear fI aG cY))
        go_roundw;case rel=>exact⟨m+1,by omega,by go_num,ψ ((iX.e.trans (fx.e.mono iX.e.size)).trans ((((Ϗ w4.heap.size w4).alloc (ϊ _) _).trans (gU.e.mono (by simp))).mono (by have:=fx.e.size;have:=iX.e.size;omega))),ψ (by
            rw[LL (by rw[<-HE.e.2.1,HE.e.2.2.2.2.2.2];simp;omega),<-HE.e.2.1]
            exact((oa.e.still (Δ.aK (fx.e.trans ((((Ϗ w4.heap.size w4).alloc (ϊ _) _).trans (gU.e.mono (by simp))).mono fx.e.size)) (ϊ _)) λ_ _ h=>h).more (by have:=gU.e.size;have:=fx.e.size;simp at *;omega)))⟩
        case measure=>simp[ϙ];omega
      ·go_wp2_with (first
        | (go_at_call 138
           refine wG.e.mono ?_
           rintro e w4 ⟨qU,qJ,rfl,cO,cV,eB⟩;have pK:Hid (∀w',Γ w4.heap.size w4 w'->ύ prog 96 #[η #[ξ κ b.ag,ζ A1 n1 c1,ζ A2 n2 c2,qU]] w' λe bq=>∃v,e=Ω v/\qQ bq w'.heap.size v (aD (mM b m))/\Γ w'.heap.size w' bq):=ψ λw' hw=>all hw.size (cO.still (Δ.aK hw (ϊ _))) (yK HV.e)
           have pJ:Hid (∀w',Γ w4.heap.size w4 w'->ύ prog 139 #[qJ,ζ A7 n7 c7] w' λe bq=>e=Ω (ξ κ cm)/\w'=bq):=ψ λw' hw=>by
             have st:Δ wq.heap.size wq w':=Δ.aK (eB.trans (hw.mono eB.size)) (ϊ _);rw[HE.e.2.2.2.1];exact zN ((cV.row.still (Δ.aK hw (ϊ _)) λ_ _ h=>h)) ((oa.e.still st λ_ _ h=>h).more eB.size) hw.size
           obtain⟨uu,n41,uM,rfl,-⟩:=cO.aJ.Φ;obtain⟨J2,n42,CG,rfl,kW,-⟩:=cV.row.Φ;have pZ:n42=l:=by rw[<-kW,<-HE.e.2.2.1]
           subst pZ;have wT:=ψ cV.row;have fx:Hid (Γ wq.heap.size wq w4):=ψ eB;clear cO cV eB kW)
        | (go_at_call 139
           have py:=pJ.e (w4.alloc (Obj.cells #[ϝ Ϛ b.ag,Value.slice A1 n1 c1,Value.slice A2 n2 c2,Value.slice uu n41 uM] 117)) ((Ϗ _ _).alloc (ϊ _) _);rw[h2] at py;refine py.mono ?_
           clear py;rintro e w5 ⟨rfl,rfl⟩)
        | (go_at_call 96
           refine(pK.e _ ((Ϗ _ _).alloc (ϊ _) _)).mono ?_
           rintro e w6 ⟨sv,rfl,aG,fI⟩;obtain⟨A9,n9,c9,rfl,cY,nG,py,-⟩:=aG.row.Φ;have e9:n9=nb:=by rw[<-cY];exact HE.e.2.2.2.2.1.symm
           subst e9;have gU:=ψ fI;clear fI aG cY))
       go_roundw;case rel=>exact⟨m+1,by omega,by go_num,ψ ((iX.e.trans (fx.e.mono iX.e.size)).trans (((Ϗ w4.heap.size w4).alloc (ϊ _) _).mono (by have:=fx.e.size;have:=iX.e.size;omega))),ψ (by
        rw[LL (by rw[<-HE.e.2.1,HE.e.2.2.2.2.2.2];simp;omega),<-HE.e.2.1]
        exact((oa.e.still (Δ.aK (fx.e.trans (((Ϗ w4.heap.size w4).alloc (ϊ _) _).mono fx.e.size)) (ϊ _)) λ_ _ h=>h).more (by have:=fx.e.size;simp;omega)))⟩
       case measure=>simp[ϙ];omega
     ·have dW:((l:Int)==(n7:Int))=χ:=by simp;omega
      go_wp2_with (first
       | (go_at_call 138
          refine wG.e.mono ?_
          rintro e w4 ⟨qU,qJ,rfl,cO,cV,eB⟩;have pK:Hid (∀w',Γ w4.heap.size w4 w'->ύ prog 96 #[η #[ξ κ b.ag,ζ A1 n1 c1,ζ A2 n2 c2,qU]] w' λe bq=>∃v,e=Ω v/\qQ bq w'.heap.size v (aD (mM b m))/\Γ w'.heap.size w' bq):=ψ λw' hw=>all hw.size (cO.still (Δ.aK hw (ϊ _))) (yK HV.e)
          have pJ:Hid (∀w',Γ w4.heap.size w4 w'->ύ prog 139 #[qJ,ζ A7 n7 c7] w' λe bq=>e=Ω (ξ κ cm)/\w'=bq):=ψ λw' hw=>by
             have st:Δ wq.heap.size wq w':=Δ.aK (eB.trans (hw.mono eB.size)) (ϊ _);rw[HE.e.2.2.2.1];exact zN ((cV.row.still (Δ.aK hw (ϊ _)) λ_ _ h=>h)) ((oa.e.still st λ_ _ h=>h).more eB.size) hw.size
          obtain⟨uu,n41,uM,rfl,-⟩:=cO.aJ.Φ;obtain⟨J2,n42,CG,rfl,kW,-⟩:=cV.row.Φ;have pZ:n42=l:=by rw[<-kW,<-HE.e.2.2.1]
          subst pZ;have wT:=ψ cV.row;have fx:Hid (Γ wq.heap.size wq w4):=ψ eB;clear cO cV eB kW)
       | (go_at_call 139
          refine(pJ.e _ ((Ϗ _ _).alloc (ϊ _) _)).mono ?_
          rintro e w5 ⟨rfl,rfl⟩)
       | (go_at_call 96
          refine(pK.e _ ((Ϗ _ _).alloc (ϊ _) _)).mono ?_
          rintro e w6 ⟨sv,rfl,aG,fI⟩;obtain⟨A9,n9,c9,rfl,cY,nG,py,-⟩:=aG.row.Φ;have e9:n9=nb:=by rw[<-cY];exact HE.e.2.2.2.2.1.symm
          subst e9;have gU:=ψ fI;clear fI aG cY))
      go_roundw;case rel=>exact⟨m+1,by omega,by go_num,ψ ((iX.e.trans (fx.e.mono iX.e.size)).trans (((Ϗ w4.heap.size w4).alloc (ϊ _) _).mono (by have:=fx.e.size;have:=iX.e.size;omega))),ψ (by
       rw[LL (by rw[<-HE.e.2.1,HE.e.2.2.2.2.2.2];simp;omega),<-HE.e.2.1]
       exact((oa.e.still (Δ.aK (fx.e.trans (((Ϗ w4.heap.size w4).alloc (ϊ _) _).mono fx.e.size)) (ϊ _)) λ_ _ h=>h).more (by have:=fx.e.size;simp;omega)))⟩
      case measure=>simp[ϙ];omega
   ·obtain rfl:m=mp+1:=by omega
    have fY:zM b=ju b (mp+1):=by unfold zM;rw[if_pos Ot.e.symm,E3.e,Q7.e]
    have uy:=ψ fY;clear fY;have jS:Γ w.heap.size w wq:=(aY.e.trans ((((Ϗ _ _).alloc (ϊ _) _).trans (dV.e.mono (by simp))).mono (by omega))).trans (iX.e.mono (by have:=wS.e.1.lt;omega))
    have wO:=ψ jS;clear jS;go_wp2
    go_ret2
    exact⟨_,rfl,by rw[uy.e];exact oa.e,wO.e⟩
def uS:List Cut:=[⟨1,0⟩,⟨0,0⟩,⟨0,6⟩]
def te:bR:=⟨EA,8,[⟨3,3⟩]⟩
def xh:dF aW=0:=by decide+kernel
def PH:cj aW 0=0:=by decide+kernel
def abZ:GB te=[⟨0,2⟩,⟨4,7⟩]:=by decide+kernel
def ab7:Im te 0=4:=by decide+kernel
def ab8:Im te 1=8:=by decide+kernel
def acd:scan (λ_ s=>s) [] [qL aW [4,3,3],ez aW dQ]=0:=by decide+kernel
def ace:scan (λ_ s=>s) [] [qL aW [4,3,3],ez aW uS]=0:=by decide+kernel
def ab4:fp aW (fK [4,3,3]) dQ=θ:=by decide+kernel
def ab5:fp aW (fK [4,3,3]) uS=χ:=by decide+kernel
def abX:Gt aW=2:=by decide+kernel
def ack:oK (aD aW)=⟨10,10⟩:=by decide+kernel
def aca:cj aW (Bh aW 0)=0:=by decide+kernel
def ab0:(aD aW).map (·.at 0)=[4,5]:=by decide+kernel
def aeR:cj aW (ez aW dQ)=0:=by decide+kernel
def ahS:cj aW (ez aW uS)=0:=by decide+kernel
def ab1:za (iI (λL=>fp aW L dQ) (aD aW)) (aD aW).length=1:=by decide+kernel
def ab2:za (iI (λL=>fp aW L uS) (aD aW)) (aD aW).length=0:=by decide+kernel
def ach:FJ aW (aD aW) dQ=θ:=by decide+kernel
def aci:FJ aW (aD aW) uS=χ:=by decide+kernel
def acg:BO aW dQ=[1,1]:=by decide+kernel
def Fy{xs ys:List Int}(hp:xs.Perm ys)(hs:ys.Pairwise (λx y=>decide (x<=y)=θ)):ga xs=ys:=by
 have h1:(ga xs).Perm ys:=(Ai5 _ _).trans hp;refine h1.eq_of_pairwise (le:=λx y=>decide (x<=y)=θ) (λa c _ _ h k=>by simp only[decide_eq_true_eq] at h k;omega) ?_ hs
 exact Ai6 (λa b c h k=>by simp only[decide_eq_true_eq] at *;omega) (λa b=>by simp;omega) _
def adY(mI:List Cut->Int):fA aW mI=φ (dQ,mI dQ):=by
 have s0:search aW (cz (aD aW)) (jf 0) aW.pieces.length []=ν:=by decide+kernel
 have s1:search aW (cz (aD aW)) (jf 1) aW.pieces.length []=ν:=by decide+kernel
 have s2:search aW (cz (aD aW)) (jf 2) aW.pieces.length []=ν:=by decide+kernel
 have s3:search aW (cz (aD aW)) (jf 3) aW.pieces.length []=φ dQ:=by decide+kernel
 unfold fA;rw[if_pos PH];show iG aW (cz (aD aW)) mI 4=_;rw[kS,kS,kS,kS];simp only[iG,List.range_zero,List.foldl_nil,sY,s0,s1,s2,s3,nw]
def adD:ga (dQ.map (·.bp))=[0,0,1]:=Fy (by decide) (by decide)
def ab3:fA aW j6=φ (dQ,2):=by
 rw[adY];unfold j6 jG;rw[adD];rfl
def acf:fA aW (qM aW)=φ (dQ,14):=by
 rw[adY];unfold qM jG;rw[adD]
 have:lY aW (Lib.compact [0,0,1])=14:=by decide+kernel
 rw[this]
def abW:Cu aW=(0,1):=by decide+kernel
def agE:ByteArray:={data:=#[97,115,104]}
def gh:bR:=⟨agE,13,[]⟩
def abU:dF (fj aW gh)=0:=by decide+kernel
def mr:List Cut:=[⟨2,0⟩,⟨2,6⟩,⟨2,10⟩]
def abV:fA (fj aW gh) j6=φ (mr,1):=by
 have s0:search (fj aW gh) (cz (aD (fj aW gh))) (jf 0) 3 []=ν:=by decide+kernel
 have s1:search (fj aW gh) (cz (aD (fj aW gh))) (jf 1) 3 []=ν:=by decide+kernel
 have s2:search (fj aW gh) (cz (aD (fj aW gh))) (jf 2) 3 []=ν:=by decide+kernel
 have s3:search (fj aW gh) (cz (aD (fj aW gh))) (jf 3) 3 []=φ dQ:=by decide+kernel
 have s4:search (fj aW gh) (cz (aD (fj aW gh))) (jf 4) 3 []=φ mr:=by decide+kernel
 have s5:search (fj aW gh) (cz (aD (fj aW gh))) (jf 5) 3 []=φ [⟨2,0⟩,⟨0,0⟩,⟨0,4⟩]:=by decide+kernel
 have s6:search (fj aW gh) (cz (aD (fj aW gh))) (jf 6) 3 []=φ [⟨1,0⟩,⟨2,0⟩,⟨2,4⟩]:=by decide+kernel
 have s7:search (fj aW gh) (cz (aD (fj aW gh))) (jf 7) 3 []=φ dQ:=by decide+kernel
 have m3:j6 dQ=2:=by unfold j6 jG;rw[adD];rfl
 have m4:j6 mr=1:=by unfold j6 jG;rw[Fy (ys:=[2,2,2]) (by decide) (by decide)];rfl
 have m5:j6 [⟨2,0⟩,⟨0,0⟩,⟨0,4⟩]=2:=by unfold j6 jG;rw[Fy (ys:=[0,0,2]) (by decide) (by decide)];rfl
 have m6:j6 [⟨1,0⟩,⟨2,0⟩,⟨2,4⟩]=2:=by unfold j6 jG;rw[Fy (ys:=[1,2,2]) (by decide) (by decide)];rfl
 have ho:cj (fj aW gh) 0=0:=by decide+kernel
 unfold fA;rw[if_pos ho];show iG (fj aW gh) (cz (aD (fj aW gh))) j6 8=_;have hl:(fj aW gh).pieces.length=3:=rfl;rw[kS,kS,kS,kS,kS,kS,kS,kS];simp only[iG,List.range_zero,List.foldl_nil,sY,hl,s0,s1,s2,s3,s4,s5,s6,s7,nw,m3,m4,m5,m6]
 decide
def ab6:Il aW 0=[4,5]:=by
 unfold Il;rw[ab0,Fy (ys:=[4,5]) (by decide) (by decide)];rfl
def zS:ao:={aW with aJ:=aW.aJ++ [⟨[0],⟨4,4⟩⟩,⟨[2],⟨2,2⟩⟩]}
def acj:dF zS=0:=by decide+kernel
def B6{b:ao}{n:an}{out:Nat->Bool}:∀(f:Nat) (cs full:List Cut),search b n out f cs=φ full->full.length=cs.length+f/\∀j,j<=f->search b n out (f - j) (full.take (cs.length+j))=φ full
 |0,cs,full,h=>by
  have h':=h;unfold search at h;cases h
  refine⟨rfl,λj hj=>?_⟩
  obtain rfl:j=0:=by omega
  simpa using h'
 |f+1,cs,full,h=>by
  have h':=h;unfold search at h;obtain⟨k,hk,h⟩:=Ah1 h
  unfold pC at h;split at h
  ·cases h
  ·obtain⟨fr,b7,h⟩:=Ah1 h
   unfold kj at h;split at h
   ·obtain⟨h1,h2⟩:=B6 f (cs++ [⟨k,fr⟩]) full h
    have hl:full.length=cs.length+(f+1):=by rw[h1];simp;omega
    have h0:=h2 0 (ϡ _);refine⟨hl,λj hj=>?_⟩
    cases j with
    |zero=>
     have e:full.take (cs.length+0)=cs:=by
      obtain⟨g1,g2⟩:=TZ f (cs++ [⟨k,fr⟩]) full h;rw[<-g2];simp
     rw[e];exact h'
    |succ j=>
     have:=h2 j (by omega)
     simp only[List.length_append,List.length_singleton] at this;rw[show f+1 - (j+1)=f - j by omega,show cs.length+(j+1)=cs.length+1+j by omega]
     exact this
   ·cases h
where
 TZ {b:ao} {n:an} {out:Nat->Bool}:∀(f:Nat) (cs full:List Cut),search b n out f cs=φ full->∃r,cs++r=full
  |0,cs,full,h=>by unfold search at h;cases h;exact⟨[],by simp⟩
  |f+1,cs,full,h=>by
   unfold search at h;obtain⟨k,hk,h⟩:=Ah1 h
   unfold pC at h;split at h
   ·cases h
   ·obtain⟨fr,b7,h⟩:=Ah1 h
    unfold kj at h;split at h
    ·obtain⟨r,hr⟩:=TZ f _ full h
     exact⟨⟨k,fr⟩::r,by rw[<-hr];simp⟩
    ·cases h
def apG{b:ao}{n:an}{out:Nat->Bool}{f:Nat}{cs full:List Cut}(h:search b n out (f+1) cs=φ full):
 ∃k fr:Nat,k<b.aF.length/\out k=χ/\fr<mJ b k/\tT b n cs ⟨k,fr⟩=θ/\full[cs.length]?=φ ⟨k,fr⟩/\search b n out f (cs++ [⟨k,fr⟩])=φ full/\
  ∀g,g<fr->kj b n (search b n out f) cs k g=ν:=by
 unfold search at h;obtain⟨l1,k,l2,e1,hk,-⟩:=Ai7.1 h
 have hkm:k∈ϸ b.aF.length:=by rw[e1];simp
 have xR:k<b.aF.length:=by simpa using hkm
 unfold pC at hk;split at hk
 ·cases hk
 ·rename_i ho
  obtain⟨m1,fr,m2,e2,hf,bj⟩:=Ai7.1 hk
  have hfm:fr∈ϸ (mJ b k):=by rw[e2];simp
  have ql:fr<mJ b k:=by simpa using hfm
  have MR:∀g,g<fr->kj b n (search b n out f) cs k g=ν:=by
   intro g hg;refine bj g ?_
   have e3:m1=ϸ fr:=by
    have h1:=congrArg (List.take m1.length) e2;rw[List.take_range,List.take_left] at h1;have h2:m1.length<=mJ b k:=by have:=congrArg List.length e2;simp at this;omega
    rw[Nat.min_eq_left h2] at h1;have h3:=congrArg (λl=>l[m1.length]?) e2
    simp only[List.getElem?_append_right (ϊ _),Nat.sub_self,List.getElem?_cons_zero] at h3
    have h4:m1.length<mJ b k:=by have:=congrArg List.length e2;simp at this;omega
    rw[Ai8 h4] at h3
    cases h3;exact h1.symm
   rw[e3];simpa using hg
  unfold kj at hf;split at hf
  ·rename_i dh
   obtain⟨r,hr⟩:=B6.TZ f _ full hf;refine⟨k,fr,xR,by simpa using ho,ql,dh,?_,hf,MR⟩
   rw[<-hr];simp
  ·cases hf
def QI{b:ao}{n:an}{mI:List Cut->Int}:∀(M:Nat) (c:List Cut) (m:Int),iG b n mI M=φ (c,m)->∃k,search b n (jf k) b.pieces.length []=φ c
 |0,c,m,h=>by simp[iG] at h
 |M+1,c,m,h=>by
  rw[kS] at h;unfold sY at h;split at h
  ·exact QI M c m h
  ·rename_i l hl
   unfold nw at h;split at h
   ·simp at h;rw[<-h.1];exact⟨M,hl⟩
   ·split at h
    ·simp at h;rw[<-h.1];exact⟨M,hl⟩
    ·rename_i c' m' heq _
     simp at h;rw[<-h.1];exact QI M c' m' heq
def QN{b:ao}{n:an}{mI:List Cut->Int}:∀(M:Nat),(iG b n mI M).isSome=(ϸ M).any (λk=>(search b n (jf k) b.pieces.length []).isSome)
 |0=>rfl
 |M+1=>by
  rw[kS,Ah2,List.any_append,<-QN (mI:=mI) M];unfold sY;cases h:search b n (jf M) b.pieces.length [] with
  |none=>simp[h]
  |some l=>
   simp only[List.any_cons,h,Option.isSome_some,List.any_nil,Bool.or_true,Bool.or_false];unfold nw;split
   ·rfl
   ·split<;>rfl
def abT(b:ao)(m1 m2:List Cut->Int):(fA b m1).isSome=(fA b m2).isSome:=by
 unfold fA;split
 ·rw[QN,QN]
 ·rfl
def EM{b:ao}:∀(l dw:List Cut),(∀q∈l,oO b q)->scan (λ_ c=>fO b.aF.length c) dw l=0
 | [],dw,_=>rfl
 |a::l,dw,hq=>by
  obtain⟨⟨k,dg,cP⟩,fh⟩:=hq a (by simp)
  have ha:fO b.aF.length a=0:=by
   unfold fO;rw[if_pos (by unfold bX;simp;omega),if_pos (by unfold bX;simp;omega)]
  unfold scan;rw[if_neg (by simp[ha])]
  exact EM l _ λq mD=>hq q (by simp[mD])
def acM{b:ao}{mI:List Cut->Int}{x:List Cut}{m:Int}(h:fA b mI=φ (x,m)):wH b x/\ez b x=0/\Valid b:=by
 unfold fA at h;split at h
 ·rename_i ab
  have ic:dF b=0:=by
   unfold cj at ab;split at ab
   ·exact ab
   ·rename_i hh;simpa using hh
  have hv:=iy ic;have afW:=Cx hv _ x m h;refine⟨afW,?_,hv⟩
  unfold ez;rw[if_neg (by simpa using afW.1)]
  exact EM _ _ afW.2
 ·cases h
def SP(c:Cut):po c c=0:=by unfold po;simp
def ado(l:List Cut):oj l l=0:=by
 induction l with
 |nil=>rfl
 |cons a l ih=>unfold oj;rw[if_neg (by simp[SP])];exact ih
def anx{a c d:Cut}(h1:po a c<0)(h2:po c d<0):po a d<0:=by
 unfold po at *;split at h1<;>split at h2<;>split<;>omega
def SS{a c:Cut}(h:po a c=0):a=c:=by
 obtain⟨x,y⟩:=a;obtain⟨z,t⟩:=c;unfold po at h;simp only at h;split at h
 ·omega
 ·rename_i hn
  have hn:x=z:=by simpa using hn
  subst hn;have:y=t:=by omega
  subst this;rfl
def ads:∀ {l m k:List Cut},l.length=m.length->m.length=k.length->oj l m<0->oj m k<0->oj l k<0
 | [],[],_,_,_,h,_=>by simp[oj] at h
 |a::l,b::m,[],_,h,_,_=>by simp at h
 |a::l,b::m,c::k,h1,h2,ha,hb=>by
  unfold oj at ha hb |-
  by_cases e1:po a b=0
  ·have:=SS e1
   subst this;rw[if_neg (by simp[SP])] at ha
   by_cases e2:po a c=0
   ·have:=SS e2
    subst this;rw[if_neg (by simp[SP])] at hb |-
    exact ads (by simpa using h1) (by simpa using h2) ha hb
   ·rw[if_pos e2] at hb |-;exact hb
  ·rw[if_pos e1] at ha
   by_cases e2:po b c=0
   ·have:=SS e2
    subst this;rw[if_pos e1];exact ha
   ·rw[if_pos e2] at hb
    have:=anx ha hb;rw[if_pos (by omega)];exact this
def acD{b:ao}{n:an}{mI:List Cut->Int}:∀(M k:Nat) (l:List Cut),k<M->search b n (jf k) b.pieces.length []=φ l->∃c m,iG b n mI M=φ (c,m)/\c.length=b.pieces.length/\m=mI c/\(m<mI l\/m=mI l/\¬oj l c<0)
 |0,k,l,hk,_=>by omega
 |M+1,k,l,hk,hl=>by
  rw[kS];have hlen:∀ {q:Nat} {l:List Cut},search b n (jf q) b.pieces.length []=φ l->l.length=b.pieces.length:=λh=>by have:=(B6 _ _ _ h).1;simpa using this
  have C8:∀ {c:List Cut} {m:Int},iG b n mI M=φ (c,m)->c.length=b.pieces.length/\m=mI c:=λh=>D2 M _ _ h
  unfold sY;by_cases e:k=M
  ·subst e
   rw[hl];simp only;unfold nw;cases hb:iG b n mI k with
   |none=>exact⟨l,mI l,rfl,hlen hl,rfl,.inr ⟨rfl,by rw[ado];omega⟩⟩
   |some p=>
    obtain⟨c,m⟩:=p;obtain⟨h1,h2⟩:=C8 hb;simp only;split
    ·exact⟨l,mI l,rfl,hlen hl,rfl,.inr ⟨rfl,by rw[ado];omega⟩⟩
    ·rename_i bj
     refine⟨c,m,rfl,h1,h2,?_⟩
     rcases Int.lt_or_le m (mI l) with h'|h'
     ·exact .inl h'
     ·exact .inr ⟨by omega,λhc=>bj (by omega)⟩
  ·obtain⟨c,m,hb,h1,h2,h3⟩:=acD M k l (by omega) hl
   rw[hb];cases hs:search b n (jf M) b.pieces.length [] with
   |none=>exact⟨c,m,rfl,h1,h2,h3⟩
   |some l2=>
    have g1:=hlen hs;have g0:=hlen hl;simp only;unfold nw;simp only;split
    ·rename_i Vr
     refine⟨l2,mI l2,rfl,g1,rfl,?_⟩
     rcases Vr with hy| ⟨hy,qH⟩
     ·left;rcases h3 with h3| ⟨h3,-⟩<;>omega
     ·rcases h3 with h3| ⟨h3,h4⟩
      ·left;omega
      ·exact .inr ⟨by omega,λhc=>h4 (ads (by omega) (by omega) hc qH)⟩
    ·exact⟨c,m,rfl,h1,h2,h3⟩
where
 D2 {b:ao} {n:an} {mI:List Cut->Int}:∀(M:Nat) (c:List Cut) (m:Int),iG b n mI M=φ (c,m)->c.length=b.pieces.length/\m=mI c
  |0,c,m,h=>by simp[iG] at h
  |M+1,c,m,h=>by
   rw[kS] at h;unfold sY at h;split at h
   ·exact D2 M c m h
   ·rename_i l hl
    have hg:=(B6 _ _ _ hl).1;simp at hg;unfold nw at h;split at h
    ·simp at h;rw[<-h.1,<-h.2];exact⟨hg,rfl⟩
    ·rename_i c0 m0 hb
     split at h
     ·simp at h;rw[<-h.1,<-h.2];exact⟨hg,rfl⟩
     ·simp at h;rw[<-h.1,<-h.2];exact D2 M _ _ hb
def aoK(M x:an)(k:Nat):M.at k<=(mU M x 3).at k/\x.at k<=(mU M x 3).at k:=by
 have hu:(mU M x 3).at k=if M.at k<x.at k then x.at k else M.at k:=by
  unfold mU an.at;simp only[show 0<3 by omega,show 1<3 by omega,show 2<3 by omega,if_true]
  split
  ·rfl
  ·split<;>rfl
 rw[hu];split<;>omega
def RY(k:Nat)(l:List an):∀L∈l,L.at k<=(cz l).at k:=by
 have key:∀(l:List an) (M:an),M.at k<=(l.foldl (λM x=>mU M x 3) M).at k/\∀L∈l,L.at k<=(l.foldl (λM x=>mU M x 3) M).at k:=by
  intro l;induction l with
  |nil=>intro M;exact⟨Aix _,by simp⟩
  |cons a l ih=>
   intro M;obtain⟨h1,h2⟩:=ih (mU M a 3);have:=aoK M a k;refine⟨Aiy this.1 h1,λL hL=>?_⟩
   rcases ϫ.1 hL with rfl|hL
   ·exact Aiy this.2 h1
   ·exact h2 L hL
 exact(key l _).2
def filter_le{α:Type}{p q:α->Bool}:∀(l:List α),(∀x∈l,p x=θ->q x=θ)->(l.filter p).length<=(l.filter q).length
 | [],_=>ϊ _
 |a::l,h=>by
  have ih:=filter_le l λx hx=>h x (by simp[hx])
  have ha:=h a (by simp)
  cases hp:p a with
  |true=>rw[Ai9 hp,Ai9 (ha hp)];simpa using ih
  |false=>
   rw[Aja (by simp[hp])]
   cases hq:q a with
   |true=>rw[Ai9 hq];simp;omega
   |false=>rw[Aja (by simp[hq])];exact ih
def ahP{b:ao}{G L:an}{l:List Cut}(h:fp b G l=θ)(hL:∀k,k<l.length->L.at k<=G.at k):fp b L l=θ:=by
 refine v8.2 λi hi=>?_
 have h0:=v8.1 h i hi;unfold td at h0 |-
 rw[Af9 hi] at h0 |-
 simp only[Aa3] at h0 |-
 have e1:=hL i hi;refine⟨?_,v8.2 λk hk=>?_⟩
 ·have h1:=h0.1
  unfold AW at h1 |-
  split
  ·rename_i p x e2 e3
   rw[e2,e3] at h1;simp only at h1;unfold tR at h1 |-
   simp only[Aa3,decide_eq_true_eq] at h1 |-
   refine⟨by omega,Aiy ?_ h1.2⟩
   unfold lh;have:=filter_le (p:=Ex l[i].from_ (l[i].from_+L.at i - 1)) (q:=Ex l[i].from_ (l[i].from_+G.at i - 1)) x.cM λy _ hy=>by
    unfold Ex at hy |-
    simp at hy |-
    omega
   omega
  ·rename_i bj
   split at h1
   ·rename_i p x e2 e3;exact absurd e3 (bj p x e2)
   ·cases h1
 ·have h1:=v8.1 h0.2 k hk
  have e2:=hL k (by omega)
  unfold rm at h1 |-
  rw[Af9 (show k<l.length by omega)] at h1 |-
  simp only at h1 |-
  unfold nv at h1 |-
  cases hb:(l[i].bp==l[k].bp) with
  |false=>simp
  |true=>
   simp only[hb,Bool.not_true,Bool.false_or,Aig,decide_eq_true_eq] at *;omega
def apE{b:ao}{n:an}{out:Nat->Bool}{full:List Cut}{f:Nat}(hs:search b n out f []=φ full):fp b n full=θ:=by
 obtain⟨hl,hj⟩:=B6 f [] full hs;refine v8.2 λi hi=>?_
 have h1:=hj i (by simp at hl;omega)
 have hf:f - i=(f - i - 1)+1:=by simp at hl;omega
 rw[hf] at h1;obtain⟨k,fr,-,-,-,dh,ou,-,-⟩:=apG h1;simp only[List.length_nil,Aib] at dh ou;have hlen:(full.take i).length=i:=by rw[List.length_take];omega
 rw[hlen] at ou;unfold td;rw[ou];unfold tT at dh;rw[hlen,Aa3] at dh;simp only[Aa3];refine⟨dh.1,v8.2 λq hq=>?_⟩
 have:=v8.1 dh.2 q hq;unfold rm at this |-
 rwa[List.getElem?_take_of_lt hq] at this
def O7(l m:List Int):Prop:=l.Pairwise (· < ·)/\∀x,x∈l↔x∈m
def af3{zs:List Int}(hs:zs.Pairwise (· <= ·)):O7 (Lib.compact zs) zs:=by
 have key:∀m,m<=zs.length->(Aiq zs.toArray m).Pairwise (· < ·)/\(∀x,x∈Aiq zs.toArray m↔x∈zs.take m):=by
  intro m;induction m with
  |zero=>intro _;simp[Aiq]
  |succ m ih=>
   intro hm;obtain⟨h1,h2⟩:=ih (by omega)
   have al:m<zs.length:=by omega
   have eg:zs.toArray[m]! =zs[m]:=by simp[al]
   have et:zs.take (m+1)=zs.take m++ [zs[m]]:=by rw[List.take_add_one,Af9 al];rfl
   rw[Lib.compactUpTo_succ,et];have le:∀x∈zs.take m,x<=zs[m]:=by
    intro x hx;obtain⟨j,hj,rfl⟩:=Ajb hx;have U2:j<m:=by simp at hj;omega
    rw[List.getElem_take];exact Ajc.1 hs j m (by omega) al U2
   by_cases hk:Lib.keeps zs.toArray m=θ
   ·rw[if_pos hk,eg]
    have ne:∀x∈zs.take m,x≠zs[m]:=by
     intro x hx hxe;have DN:m≠0:=by rintro rfl;simp at hx
     simp only[Lib.keeps,decide_eq_true_eq] at hk;rcases hk with hk|hk
     ·exact DN hk
     ·rw[eg] at hk
      have e1:zs.toArray[m - 1]! =zs[m - 1]:=by simp[show m - 1<zs.length by omega]
      rw[e1] at hk;obtain⟨j,hj,rfl⟩:=Ajb hx;have U2:j<m:=by simp at hj;omega
      rw[List.getElem_take] at hxe;have a1:zs[m - 1]<=zs[m]:=Ajc.1 hs (m - 1) m (by omega) al (by omega)
      have a2:zs[j]<=zs[m - 1]:=by
        rcases Nat.lt_or_ge j (m - 1) with h'|h'
        ·exact Ajc.1 hs j (m - 1) (by omega) (by omega) h'
        ·have:j=m - 1:=by omega
         subst this;exact Aix _
      omega
    refine⟨List.pairwise_append.2 ⟨h1,List.pairwise_singleton _ _,λx hx y hy=>?_⟩,λx=>by rw[Af8,Af8,h2]⟩
    rw[Af2] at hy;subst hy;have jz:=(h2 x).1 hx;have:=le x jz;have:=ne x jz;omega
   ·rw[if_neg hk,List.append_nil]
    refine⟨h1,λx=>?_⟩
    rw[h2,Af8,Af2];refine⟨.inl,?_⟩
    rintro(h|rfl)
    ·exact h
    ·simp only[Lib.keeps,decide_eq_true_eq,not_or,Classical.not_not] at hk
     obtain⟨DN,hk⟩:=hk;rw[eg] at hk;have e1:zs.toArray[m - 1]! =zs[m - 1]:=by simp[show m - 1<zs.length by omega]
     rw[e1] at hk;rw[hk];exact List.mem_take_iff_getElem.2 ⟨m - 1,by omega,rfl⟩
 have:=key zs.length (ϊ _);rwa[List.take_length] at this
def ahq{b:ao}{mI:List Cut->Int}{M:Nat}{x:List Cut}{m:Int}(hb:iG b (cz (aD b)) mI M=φ (x,m)):(∀L∈aD b,fp b L x=θ)/\m=mI x:=by
 obtain⟨k,hk⟩:=QI M x m hb;refine⟨λL hL=>ahP (apE hk) λq _=>RY q _ L hL,(acD.D2 M x m hb).2⟩
def V4(b:ao)(k:Nat):O7 (Il b k) ((aD b).map (·.at k)):=by
 have hs:(ga ((aD b).map (·.at k))).Pairwise (· <= ·):=by
  have:=Ai6 (le:=λx y:Int=>decide (x<=y)) (λa b c h1 h2=>by simp at *;omega) (λa b=>by simp;omega) ((aD b).map (·.at k))
  exact this.imp λh=>by simpa using h
 obtain⟨h1,h2⟩:=af3 hs;exact⟨h1,λx=>(h2 x).trans (by unfold ga;exact(Ai5 _ _).mem_iff)⟩
end Go.Tw
namespace Go.Tw
variable [Go.Tw.aR]
open Go Go.Proofs Go.RowKit
end Go.Tw
namespace Go.Tw
variable [Go.Tw.aR]
open Go Go.Proofs Go.RowKit
def yc(k:Nat)(cs:List υ):Prop:=cs=[.int .u16 k]/\k<65536
def pn(ps:List Nat)(k:Nat):Nat:=(ps[k]?).getD 0
def adi{ps:List Nat}{pv:υ}{w:Ψ}{B:Nat}(hp:Row w B 1 yc pv ps){k:Int}(h0:0<=k)(hk:k<=3000):
 ύ prog 42 #[pv,ξ κ k] w λe w'=>e=Ω (ξ κ (pn ps k.toNat:Nat))/\w=w':=by
 obtain⟨kn,rfl⟩:=Aiz h0;obtain⟨A,n,c,rfl,e1,h1,eA,r1⟩:=hp.Φ;unfold ϗ at eA;have HE:=ψ e1;clear hp e1;by_cases al:kn<n
 ·obtain⟨ad,x,cs,rfl,aC,hx,⟨rfl,Ia⟩,-,au⟩:=r1 kn al
  have g0: w.cell? (ad.add kn)=φ (.int .u16 x):=by have:=au 0 _ rfl;simpa using this
  have NA:(kn:Int)<n:=by omega
  have HX:=ψ hx;clear au r1 hx;go_enter func42,Tryz.ntmps42;go_wp2;go_ret;exact⟨aX (by unfold pn;simp[HX.e]),rfl⟩
 ·have jU:¬ (kn:Int)<n:=by omega
  have HN:Hid (ps[kn]?=ν):=ψ (Ah3 (by have:=HE.e;omega))
  clear r1;go_enter func42,Tryz.ntmps42;go_wp2;go_ret;exact⟨aX (by unfold pn;simp[HN.e]),rfl⟩
def cutAt(nb:Nat)(ps:List Nat)(i:Nat):Cut:=⟨(pn ps (3+2 * i) % nb:Nat),(pn ps (4+2 * i) % 41:Nat)⟩
def sd(b:ao)(ps:List Nat):List Cut:=(ϸ b.pieces.length).map (cutAt b.aF.length ps)
def ahN{b:ao}{ps:List Nat}{pv bv tv kv:υ}{w:Ψ}{B:Nat}(ai:bg w B b pv bv tv)(hp:Row w B 1 yc kv ps)(hB:B<=w.heap.size)(kH:b.pieces.length<=1000)(gy:0<b.aF.length)(akM:b.aF.length<=1000):
 ύ prog 41 #[η #[ξ κ b.ag,pv,bv,tv],kv] w λe w'=>∃u,e=Ω u/\w'.ownsRow w.heap.size 56 2 u b.pieces.length ((sd b ps).flatMap Cut.vs)/\Γ w.heap.size w w':=by
 obtain⟨i0,cR,cT,aN,ba⟩:=Ag9 VH;obtain⟨A1,n1,c1,rfl,e1,h1,eA,-⟩:=ai.pieces.Φ;obtain⟨A2,n2,c2,rfl,e2,h2,dW,r2⟩:=ai.aF.Φ;obtain⟨A3,n3,c3,rfl,-⟩:=ai.aJ.Φ;obtain⟨A4,n4,c4,rfl,-⟩:=hp.Φ;unfold ϗ at eA dW;have qx:n1<=1000:=by omega
 have dM:0<n2:=by omega
 have arB:n2<=1000:=by omega
 have hz:n2≠0:=by omega
 have E:=ψ (ϐ e1 e2);have HP:=ψ hp;have HI:=ψ (ϐ cR (ϐ cT (ϐ aN ba)));clear ai hp e1 e2 r2 cR cT aN ba kH gy akM;go_enter func41,Tryz.ntmps41;go_wp2;have kk:=ψ (Bk.new w 26 #[ξ κ b.ag,ζ A1 n1 c1,ζ A2 n2 c2,ζ A3 n3 c3]);go_loopw [5,6] (λo u wr=>∃i:Nat,i<=n1/\u=ξ κ i/\wr.ownsRow (w.heap.size+1) 56 2 o i (((ϸ i).map (cutAt n2 ps)).flatMap Cut.vs)/\Γ (w.heap.size+1) (w.alloc (Ξ #[ξ κ b.ag,ζ A1 n1 c1,ζ A2 n2 c2,ζ A3 n3 c3] 26)) wr) (λ_ u _=>n1 - (ϙ u).toNat)
 case atStart=>exact⟨0,ϡ _,rfl,⟨by simp,.inl ⟨rfl,rfl⟩⟩,Ϗ _ _⟩
 case round=>
  obtain⟨i,hi,rfl,aG,hb⟩:=hrel;have HO:=ψ aG;have HB:=ψ hb;have dY:=hb.size;have aI:w.heap.size+1<=wr.heap.size:=by simpa using dY
  have kb:=kk.e.below hb (by simp)
  have p1: wr.cell? ⟨w.heap.size,1,ν⟩=φ (ζ A1 n1 c1):=kb.cell 1;have p2: wr.cell? ⟨w.heap.size,2,ν⟩=φ (ζ A2 n2 c2):=kb.cell 2;by_cases al:i<n1
  ·have st:Δ B w wr:=((Δ.refl w).alloc hB _).trans (Δ.aK hb (by omega))
   have HPD:Hid (Row wr.drew B 1 yc (ζ A4 n4 c4) ps):=ψ (HP.e.still (st.trans (Δ.aK (iY (Ϗ _ _)) (ϊ _))) λ_ _ h=>h)
   have CH:Hid (∀k:Int,0<=k->k<=3000->ύ prog 42 #[ζ A4 n4 c4,ξ κ k] wr.drew λe w'=>e=Ω (ξ κ (pn ps k.toNat:Nat))/\wr.drew=w'):=ψ λk h0 hk=>adi HPD.e h0 hk
   have v1:Ϛ.wrap (2 * (i:Int))=2 * i:=Aio _ (by omega)
   have v2:Ϛ.wrap (3+2 * (i:Int))=3+2 * i:=Aio _ (by omega)
   have v3:Ϛ.wrap (4+2 * (i:Int))=4+2 * i:=Aio _ (by omega)
   obtain⟨x,hx⟩:∃x,x=cutAt n2 ps i:=⟨_,rfl⟩
   have t1:((pn ps (3+2 * (i:Int)).toNat:Nat):Int).tmod n2=x.bp:=by
    rw[hx,show(3+2 * (i:Int)).toNat=3+2 * i by omega,Ai0 (by omega)];unfold cutAt;simp
   have t2:((pn ps (4+2 * (i:Int)).toNat:Nat):Int).tmod 41=x.from_:=by
    rw[hx,show(4+2 * (i:Int)).toNat=4+2 * i by omega,Ai0 (by omega)];unfold cutAt;simp
   have HX:=ψ hx;clear hb kb aG st dY hx;go_wp2;go_region_law (first
    | (go_simp;go_at_call 42;refine(CH.e _ (by omega) (by omega)).mono ?_;rintro e w' ⟨rfl,rfl⟩)
    | (go_simp;go_at_call 66;refine(di _ _ _).mono ?_;rintro e w' ⟨rfl,rfl⟩)
    | (refine ug rfl (.tmp 14) (.tmp 31) 27 rfl (w.heap.size+1) 56 i0 (η #[ξ κ 0,ξ κ 0]) 2 16 (U Tryz.underlying27) HI.e.1 HI.e.2.1 HI.e.2.2.1 HI.e.2.2.2 rfl (by decide) _ i _ rfl (show World.ownsRow _ _ _ _ _ _ _ from(HO.e.alloc _).alloc _) ⟨wr.heap.size+1,0,ν⟩ 1 1 [ξ κ x.bp,ξ κ x.from_] rfl rfl ?c1 ?c2 ?c3 ?c4 ?c5 ?_
       case c1=>(intro j u hu;match j,hu with|0,hu=>(simp at hu;subst hu;simp[go_sem,Addr.add]) |1,hu=>(simp at hu;subst hu;simp[go_sem,Addr.add]))
       case c2=>simp[Value.oneCell']
       case c3=>(simp only[ϗ];omega)
       case c4=>omega
       case c5=>(simp;omega)
       intro v' w1 cK dT;have gW:=ψ cK;have gV:=ψ dT;clear cK dT))
   all_goals
    go_wp2;go_roundw;case rel=>exact⟨i+1,by omega,by go_num,by
     have e:List.flatMap Cut.vs (List.map (cutAt n2 ps) [i])=[ξ κ x.bp,ξ κ x.from_]:=by rw[HX.e];rfl
     rw[Ah2,Ahz,Agt,e];exact gW.e,(HB.e.trans (show Γ (w.heap.size+1) wr _ from iY (((Ϗ _ _).alloc aI _).alloc (by simp;omega) _))).grown gV.e (by simp;omega) (λk hk=>ei HO.e k hk)⟩
    case measure=>simp[ϙ];omega
  ·obtain rfl:i=n1:=by omega
   clear hb kb dY;go_wp2;go_ret;refine⟨_,rfl,?_,iH HB.e⟩
   unfold sd;rw[E.e.1,E.e.2];exact HO.e.base (by omega)
end Go.Tw
namespace Go.Tw
variable [Go.Tw.aR]
open Go Go.Proofs Go.RowKit
end Go.Tw
namespace Go.Tw
variable [Go.Tw.aR]
open Go Go.Proofs Go.RowKit
end Go.Tw
namespace Go.Tw
variable [Go.Tw.aR]
open Go Go.Proofs Go.RowKit
def tb(c:Int):Bool:=decide (48<=c) && decide (c<=57)
def digit(c:Int)(w:Ψ):ύ prog 207 #[.int .u8 c] w λe w'=>e=Ω (.bool (tb c))/\w=w':=by
 go_enter func207,Tryz.ntmps207;go_wp2;all_goals go_ret
 all_goals (refine⟨b9 ?_,rfl⟩;unfold tb;first| (simp;done) | (simp[*];done) | (simp;omega))
def IY{s:ByteArray}(hs:s.size<=ϗ)(w:Ψ):
 ύ prog 186 #[.string s] w λe w'=>e=Ω (.bool (mK s.data.toList))/\w=w':=by
 unfold ϗ at hs;by_cases h1:s.size<1
 ·go_enter func186,Tryz.ntmps186
  go_wp2;go_ret;refine⟨b9 ?_,rfl⟩
  have e:bX s.data.toList.length 1 10=χ:=by unfold bX;simp;omega
  unfold mK;rw[e,Bool.and_false]
 by_cases h2:10<s.size
 ·go_enter func186,Tryz.ntmps186
  go_wp2;go_ret;refine⟨b9 ?_,rfl⟩
  have e:bX s.data.toList.length 1 10=χ:=by unfold bX;simp;omega
  unfold mK;rw[e,Bool.and_false]
 have hlen:bX s.data.toList.length 1 10=θ:=by unfold bX;simp;omega
 have UF:bX (s.size:Int) 1 10=θ:=by simpa using hlen
 have HL:=ψ UF;clear UF;have h0:0<s.size:=by omega
 cases hd:tb s[0].toNat with
 |true=>
  go_enter func186,Tryz.ntmps186;go_wp2_with (first
   | (go_at_call 207;refine(digit _ _).mono ?_;rintro e w' ⟨rfl,rfl⟩;try rw[hd]))
  go_ret;refine⟨b9 (Eq.symm (O2 (CF h0) ?_)),rfl⟩
  simp only[tb,Aa3,decide_eq_true_eq] at hd;simp only[jr,Aih,Aii,decide_eq_false_iff_not];omega
 |false=>
  go_enter func186,Tryz.ntmps186;go_wp2_with (first
   | (go_at_call 207;refine(digit _ _).mono ?_;rintro e w' ⟨rfl,rfl⟩;try rw[hd]))
  go_loop [3] (λk=>∃n:Nat,n<=s.size/\k=ξ κ n/\∀j c,j<n->s.data.toList[j]?=φ c->jr j c.toNat=θ) (λk=>s.size - (ϙ k).toNat)
  case atStart=>exact⟨0,ϡ _,rfl,λj _ hj=>by omega⟩
  case round=>
   obtain⟨n,hn,rfl,bt⟩:=hrel;have HA:=ψ bt;clear bt;by_cases al:n<s.size
   ·have bad:jr n s[n].toNat=χ->Ending.returned (.bool χ)=Ω (.bool (mK s.data.toList)):=λh=>b9 (Eq.symm (O2 (CF al) h))
    have fG:=ψ bad;have hz:n=0->tb s[n].toNat=χ:=λe=>by subst e;exact hd
    have HZ:=ψ hz;clear bad hz;have C8:jr n s[n].toNat=θ->∀j c,j<n+1->s.data.toList[j]?=φ c->jr j c.toNat=θ:=λh j c hj o8=>by
     rcases Agv.1 hj with h'|rfl
     ·exact HA.e j c h' o8
     ·have e:c=s[j]:=by simpa using((CF al).symm.trans o8).symm
      subst e;exact h
    have QV:=ψ C8;clear C8;cases ve:tb s[n].toNat with
    |true=>
     have hc:jr n s[n].toNat=θ:=by
      have jX:n≠0:=λe=>by have:=HZ.e e;rw[ve] at this;cases this
      simp only[tb,Aa3,decide_eq_true_eq] at ve;simp only[jr,Aig,Aa3,decide_eq_true_eq];omega
     have HC:=ψ hc;clear hc;go_wp2_with (first
      | (go_at_call 207;refine(digit _ _).mono ?_;rintro e w' ⟨rfl,rfl⟩;try rw[ve]))
     go_round
     case rel=>exact⟨n+1,by omega,by go_num,QV.e HC.e⟩
     case measure=>simp[ϙ];omega
    |false=>
     have nH:¬ (48<=s[n].toNat/\s[n].toNat<=57):=by
      intro h;have:tb s[n].toNat=θ:=by simp only[tb,Aa3,decide_eq_true_eq];omega
      rw[this] at ve;cases ve
     by_cases ha:s[n].toNat<97
     ·have hc:jr n s[n].toNat=χ:=by
       simp only[jr,Aih,Aii,decide_eq_false_iff_not];omega
      have R:=ψ (fG.e hc);clear hc;go_wp2_with (first
       | (go_at_call 207;refine(digit _ _).mono ?_;rintro e w' ⟨rfl,rfl⟩;try rw[ve]))
      go_ret;exact⟨R.e,rfl⟩
     by_cases hb:122<s[n].toNat
     ·have hc:jr n s[n].toNat=χ:=by
       simp only[jr,Aih,Aii,decide_eq_false_iff_not];omega
      have R:=ψ (fG.e hc);clear hc;go_wp2_with (first
       | (go_at_call 207;refine(digit _ _).mono ?_;rintro e w' ⟨rfl,rfl⟩;try rw[ve]))
      go_ret;exact⟨R.e,rfl⟩
     have hc:jr n s[n].toNat=θ:=by
      simp only[jr,Aig,Aa3,decide_eq_true_eq];omega
     have HC:=ψ hc;clear hc;go_wp2_with (first
      | (go_at_call 207;refine(digit _ _).mono ?_;rintro e w' ⟨rfl,rfl⟩;try rw[ve]))
     go_round
     case rel=>exact⟨n+1,by omega,by go_num,QV.e HC.e⟩
     case measure=>simp[ϙ];omega
   ·obtain rfl:n=s.size:=by omega
    go_wp2;go_ret;refine⟨b9 ?_,rfl⟩
    simp[mK,HL.e,LR s.data.toList 0 (λk c hk=>by
     have:=HA.e k c (by have:=(ϱ.1 hk).1;simpa using this) hk;simpa using this)]
def rising{np:Nat}{l:List Int}{v:υ}{w:Ψ}{B:Nat}(hv:Row w B 1 cH v l)(hB:B<=w.heap.size)(kH:np<=ϗ):
 ύ prog 57 #[v,ξ κ np] w λe w'=>e=Ω (ξ κ (eE np ν l))/\Γ w.heap.size w w':=by
 obtain⟨A,n,c,rfl,hl,dX,hc,hr⟩:=hv.Φ;unfold ϗ at hc kH;have KR:=ψ hr;have KL:=ψ hl;clear hv hr hl;go_enter func57,Tryz.ntmps57;go_wp2;go_loopw [4,5] (λr k wr=>∃j:Nat,j<=n/\k=ξ κ j/\r=ξ κ 0/\eE np ν l=eE np (l8 l j) (l.drop j)/\Γ w.heap.size w wr) (λ_ k _=>n - (ϙ k).toNat)
 case atStart=>exact⟨0,ϡ _,rfl,rfl,rfl,Ϗ _ _⟩
 case round=>
  obtain⟨j,hj,rfl,rfl,vx,hb⟩:=hrel;have RE:=ψ vx;have HB:=ψ hb;clear vx;by_cases nE:j<n
  ·obtain⟨kd,y,cs,rfl,qt,hy,rfl,-,au⟩:=KR.e j nE
   have st:Δ B w wr:=Δ.aK hb hB;have ST:=ψ st;have q0:kd.block<wr.heap.size:=by have:=hb.size;omega
   have g1:=cC au st qt rfl;rw[Agx] at g1;have HY:=ψ hy;clear hy au st hb;cases dL:bX y 0 (np - 1) with
   |false=>
    go_wp2_with (first
     | (go_at_call 62;refine(lg _ _ _ _).mono ?_;rintro e w' ⟨rfl,rfl⟩))
    go_ret;refine⟨aX ?_,HB.e⟩
    rw[RE.e,drop_cons HY.e];cases l8 l j<;>simp[eE,dL]
   |true=>
    rcases Nat.eq_zero_or_pos j with uW|uW
    ·subst uW
     rw[show kd.add 0=kd from rfl] at g1
     go_wp2_with (first
      | (go_at_call 62;refine(lg _ _ _ _).mono ?_;rintro e w' ⟨rfl,rfl⟩))
     go_quiet (fail);go_wp2;have hrel:eE np ν l=eE np (l8 l 1) (l.drop 1):=by rw[RE.e,drop_cons HY.e];simp[l8,eE,dL,HY.e]
     go_roundw;case rel=>exact⟨1,nE,by go_num,rfl,hrel,by first|exact HB.e|exact jq HB.e _⟩
     case measure=>simp[ϙ];omega
    ·obtain⟨q,rfl⟩:∃q,j=q+1:=⟨j - 1,by omega⟩
     obtain⟨eT,z,SF,CQ,Uv,hz,rfl,-,vd⟩:=KR.e q (by omega)
     cases CQ;rw[show kd.add (q+1)=⟨kd.block,kd.off+(q+1),ν⟩ from rfl] at g1
     have g3:=cC vd ST.e qt rfl;rw[Agx] at g3;have HZ:=ψ hz;clear hz vd;have gx:decide ((0:Int)<((q+1:Nat):Int))=θ:=by simp<;>omega
     by_cases qI:y<=z
     ·have hd:decide (y<=z)=θ:=by simpa using qI
      go_wp2_with (first
          | (go_at_call 62;refine(lg _ _ _ _).mono ?_;rintro e w' ⟨rfl,rfl⟩))
      go_quiet (fail);go_wp2;go_ret;refine⟨aX ?_,by first|exact HB.e|exact jq HB.e _⟩
      rw[RE.e,drop_cons HY.e];simp[l8,HZ.e,eE,dL,qI]
     ·have hd:decide (y<=z)=χ:=by simpa using qI
      have hrel:eE np ν l=eE np (l8 l (q+2)) (l.drop (q+2)):=by rw[RE.e,drop_cons HY.e];simp[l8,HZ.e,HY.e,eE,dL];omega
      have HR:=ψ hrel;clear hrel;go_wp2_with (first
          | (go_at_call 62;refine(lg _ _ _ _).mono ?_;rintro e w' ⟨rfl,rfl⟩))
      go_quiet (fail);go_wp2;go_roundw;case rel=>exact⟨q+2,by omega,by go_num,rfl,HR.e,by first|exact HB.e|exact jq HB.e _⟩
      case measure=>simp[ϙ];omega
  ·obtain rfl:j=n:=by omega
   go_wp2;go_ret;refine⟨aX ?_,HB.e⟩
   rw[RE.e,Ai3 (by rw[KL.e];exact ϊ _)]
   cases l8 l j<;>rfl
def Fz{a b lo hi m:Int}:mO a b lo hi m=(mV a b lo hi && decide (b - a<m)):=by
 unfold mO mV;cases decide (lo<=a)<;>cases decide (a<=b)<;>cases decide (b<=hi)<;>rfl
def ajZ{pv:υ}{w:Ψ}{B:Nat}{l:List Piece}(hv:Row w B 4 Piece.R pv l)(hB:B<=w.heap.size):
 ύ prog 145 #[pv] w λe w'=>e=Ω (ξ κ (iw l))/\Γ w.heap.size w w':=by
 obtain⟨A,m,c,rfl,hl,dX,hc,hr⟩:=hv.Φ;have dC:=ψ hl;unfold ϗ at hc;have H2:=ψ hr;clear hl hr hv;cases hlen:bX m 1 3 with
 |false=>
  go_enter func145,Tryz.ntmps145;go_wp2_with (first
   | (go_at_call 62;refine(lg _ _ _ _).mono ?_;rintro e w' ⟨rfl,rfl⟩))
  go_ret;exact⟨aX (by unfold iw;rw[dC.e,hlen];rfl),Ϗ _ _⟩
 |true=>
  have QM:m<=3:=by have:=nJ hlen;omega
  go_enter func145,Tryz.ntmps145;go_wp2_with (first
   | (go_at_call 62;refine(lg _ _ _ _).mono ?_;rintro e w' ⟨rfl,rfl⟩))
  go_loopw [2,3,4,5] (λr k u v wr=>∃i:Nat,i<=m/\k=ξ κ i/\(∀(j:Nat) (x:Piece),j<i->l[j]?=φ x->kJ (l.take j) x=0)/\Γ w.heap.size w wr) (λ_ k _ _ _=>m - (ϙ k).toNat)
  case atStart=>exact⟨0,ϡ _,rfl,λj _ hj=>by omega,Ϗ _ _⟩
  case round=>
   obtain⟨i,hi,rfl,bt,hb⟩:=hrel;have HH:=ψ (ϐ bt hb);have tL:w.heap.size<=wr.heap.size:=hb.size;by_cases al:i<m
   ·obtain⟨ad,x,cs,rfl,aC,hx,⟨rfl,dH⟩,-,au⟩:=H2.e i al
    have st:Δ B w wr:=Δ.aK hb hB;have ST:=ψ st;have h0:=cC au st aC rfl;have h1:=bK au st aC 0 rfl;have h2:=bK au st aC 1 rfl;have h3:=bK au st aC 2 rfl;have qb:(ad.add (i * 4)).block<wr.heap.size:=by rw[cq];omega
    have HX:=ψ hx;have uy:=ψ au;clear bt hb hx au st;have bad:∀s:Int,kJ (l.take i) x=s->s≠0->s=iw l:=λs hs h0=>by
     unfold iw;rw[dC.e,hlen,if_pos rfl,sf HX.e HH.e.1 (by rw[hs];exact h0),hs]
    have fG:=ψ bad;clear bad;cases ea:mK x.name.data.toList with
    |false=>
     go_wp2_with (first
      | (go_at_call 186;refine(IY dH _).mono ?_;rintro e w1 ⟨rfl,rfl⟩;try rw[ea]))
     go_ret;exact⟨aX (fG.e 4 (by unfold kJ;rw[ea];rfl) (by omega)),HH.e.2⟩
    |true=>
     go_wp2_with (first
      | (go_at_call 186;refine(IY dH _).mono ?_;rintro e w1 ⟨rfl,rfl⟩;try rw[ea]))
     clear h0;have HN:=ψ dH;go_loopw [4] (λk wq=>∃j:Nat,j<=i/\k=ξ κ j/\(∀(q:Nat) (y:Piece),q<j->l[q]?=φ y->jF y.name x.name=χ)/\Γ w.heap.size w wq) (λk _=>i - (ϙ k).toNat)
     case atStart=>exact⟨0,ϡ _,rfl,λq _ hq=>by omega,HH.e.2⟩
     case round=>
      obtain⟨j,hj,rfl,bj,Hc⟩:=hrel;have HO:=ψ (ϐ bj Hc);have B5:w.heap.size<=wr.heap.size:=Hc.size;have BC:Δ B w wr:=Δ.aK Hc hB;have Ze:=ψ BC;have h0:=cC uy.e BC aC rfl;have h1:=bK uy.e BC aC 0 rfl;have h2:=bK uy.e BC aC 1 rfl;have h3:=bK uy.e BC aC 2 rfl;have qb':(ad.add (i * 4)).block<wr.heap.size:=by rw[cq];omega
      clear bj Hc BC;by_cases pa:j<i
      ·obtain⟨Cs,y,bh,e',adT,hy,⟨rfl,NK⟩,-,Ak⟩:=H2.e j (by omega)
       cases e';have g0:=cC Ak Ze.e aC rfl;have qc:(ad.add (j * 4)).block<wr.heap.size:=by rw[cq];omega
       have HY:=ψ hy;clear hy Ak NK;cases hs:jF y.name x.name with
       |true=>
        have cD:(y.name.toList==x.name.toList)=θ:=hs;go_wp2;go_quiet (fail);go_wp2;go_ret;refine⟨aX (fG.e 5 ?_ (by omega)),by first|exact HO.e.2|exact jq HO.e.2 _⟩
        unfold kJ;rw[ea,if_pos rfl,if_pos];rw[Ajd];exact⟨y,ϩ (i:=j) (by rw[List.getElem?_take,if_pos pa];exact HY.e),hs⟩
       |false=>
        have cD:(y.name.toList==x.name.toList)=χ:=hs;go_wp2;go_quiet (fail);go_wp2;go_roundw;case rel=>exact⟨j+1,by omega,by go_num,λq z hq hz=>by
            rcases Agv.1 hq with h|rfl
            ·exact HO.e.1 q z h hz
            ·rw[HY.e] at hz;cases hz;exact hs,by first|exact HO.e.2|exact jq HO.e.2 _⟩
        case measure=>simp[ϙ];omega
      ·obtain rfl:j=i:=by omega
       have Dl:(l.take j).any (λq=>jF q.name x.name)=χ:=by
           rw[Aje];intro z hz;obtain⟨q,hq⟩:=Ah0 hz
           rw[List.getElem?_take] at hq
           split at hq
           ·rename_i yd;simpa using HO.e.1 q z yd hq
           ·cases hq
       have uw:=ψ Dl;clear Dl;cases hw:mV x.len.lo x.len.hi 1 40 with
       |false=>
        go_wp2_with (first
            | (go_at_call 49;refine(within _).mono ?_;rintro e w2 ⟨rfl,ak⟩;try rw[hw]))
        go_ret;refine⟨aX (fG.e 1 (by unfold kJ;rw[ea,uw.e,Fz,hw];rfl) (by omega)),cU HO.e.2 ak B5⟩
       |true=>
        have AN:1<=x.len.lo/\x.len.lo<=x.len.hi/\x.len.hi<=40:=by
            simp only[mV,Aa3,decide_eq_true_eq] at hw;exact hw
        obtain⟨b1,b2,b3⟩:=AN;by_cases Ao:3<=x.len.hi - x.len.lo
        ·go_wp2_with (first
             | (go_at_call 49;refine(within _).mono ?_;rintro e w2 ⟨rfl,ak⟩;obtain⟨ef,nD⟩:=fy ak rfl;have ba:wr.heap.size<w2.heap.size:=oE ak;have dI:=ψ (cU HO.e.2 ak B5);clear ak;try rw[hw]))
         go_ret;refine⟨aX (fG.e 1 (by unfold kJ;rw[ea,uw.e,Fz,hw];simp;omega) (by omega)),dI.e⟩
        ·have rR:mO x.len.lo x.len.hi 1 40 3=θ:=by rw[Fz,hw];simp;omega
         have Re:=ψ rR;clear rR;cases yb:bX x.bears 0 2 with
         |false=>
          go_wp2_with (first
             | (go_at_call 49;refine(within _).mono ?_;rintro e w2 ⟨rfl,ak⟩;obtain⟨ef,nD⟩:=fy ak rfl;have ba:wr.heap.size<w2.heap.size:=oE ak;have dI:=ψ (cU HO.e.2 ak B5);clear ak;try rw[hw])
             | (go_at_call 62;refine(lg _ _ _ _).mono ?_;rintro e w' ⟨rfl,rfl⟩;try rw[yb]))
          go_ret;refine⟨aX (fG.e 1 (by unfold kJ;rw[ea,uw.e,Re.e,yb];rfl) (by omega)),dI.e⟩
         |true=>
          go_wp2_with (first
             | (go_at_call 49;refine(within _).mono ?_;rintro e w2 ⟨rfl,ak⟩;obtain⟨ef,nD⟩:=fy ak rfl;have ba:wr.heap.size<w2.heap.size:=oE ak;have dI:=ψ (cU HO.e.2 ak B5);clear ak;try rw[hw])
             | (go_at_call 62;refine(lg _ _ _ _).mono ?_;rintro e w' ⟨rfl,rfl⟩;try rw[yb]))
          go_roundw;case rel=>exact⟨j+1,by omega,by go_num,λq y hq hy=>by
             rcases Agv.1 hq with h|rfl
             ·exact HH.e.1 q y h hy
             ·rw[HX.e] at hy;cases hy;unfold kJ;rw[ea,uw.e,Re.e,yb];rfl,dI.e⟩
          case measure=>simp[ϙ];omega
   ·obtain rfl:i=m:=by omega
    go_wp2;go_ret;refine⟨aX ?_,HH.e.2⟩
    unfold iw;rw[dC.e,hlen,if_pos rfl,se (λj x hj=>HH.e.1 j x (by have:=(ϱ.1 hj).1;have:=dC.e;omega) hj)]
def tQ(l:List Span)(i:Nat):Int:=if i=0 then -1 else match l[i - 1]? with
 |some k=>k.hi
 |none=>0
def Ij{aH last:Int}{k:Span}{l:List Span}:lX aH last (k::l)=if mO k.lo k.hi 0 (aH - 1) aH then if k.lo<=last then 7 else lX aH k.hi l else 1:=rfl
def Ik{a b aH:Int}:mO a b 0 (aH - 1) aH=mV a b 0 (aH - 1):=by
 rw[Fz];by_cases h:mV a b 0 (aH - 1)=θ
 ·rw[h]
  simp only[mV,Aa3,decide_eq_true_eq] at h;simp;omega
 ·simp only[Bool.not_eq_true] at h;rw[h];rfl
def ajX{x:bR}{kv v:υ}{w:Ψ}{B:Nat}{l:List bR}(dH:x.name.size<=ϗ)(hk:Row w B 2 Span.R kv x.cM)(hv:Row w B 3 (bR.R w B) v l)(hB:B<=w.heap.size):
 ύ prog 146 #[v,η #[.string x.name,ξ κ x.aH,kv]] w λe w'=>e=Ω (ξ κ (gJ l x))/\Γ w.heap.size w w':=by
 obtain⟨A0,m0,c0,rfl,Uz,aoC,ic,U8⟩:=hv.Φ;obtain⟨A,m,c,rfl,hl,dX,hc,hr⟩:=hk.Φ;have dC:=ψ hl;have YK:=ψ Uz;have H0:=ψ U8;unfold ϗ at hc ic;have H2:=ψ hr;clear hl hr hk hv Uz U8;have kb:Bk (w.alloc (Ξ #[.string x.name,ξ κ x.aH,ζ A m c] 59)) w.heap.size 59 #[.string x.name,ξ κ x.aH,ζ A m c]:=Bk.new _ _ _;have KB:=ψ kb;have qh:Γ w.heap.size w (w.alloc (Ξ #[.string x.name,ξ κ x.aH,ζ A m c] 59)):=(Ϗ _ _).alloc (ϊ _) _;have fS:=ψ qh;clear kb qh;cases ea:mK x.name.data.toList with
 |false=>
  go_enter func146,Tryz.ntmps146;go_wp2_with (first
   | (go_at_call 186;refine(IY dH _).mono ?_;rintro e w1 ⟨rfl,rfl⟩;try rw[ea]))
  go_ret;exact⟨aX (by unfold gJ;rw[ea];rfl),fS.e⟩
 |true=>
  go_enter func146,Tryz.ntmps146;go_wp2_with (first
   | (go_at_call 186;refine(IY dH _).mono ?_;rintro e w1 ⟨rfl,rfl⟩;try rw[ea]))
  go_loopw [5] (λk wr=>∃i:Nat,i<=m0/\k=ξ κ i/\(∀(q:Nat) (y:bR),q<i->l[q]?=φ y->jF y.name x.name=χ)/\Γ (w.heap.size+1) (w.alloc (Ξ #[.string x.name,ξ κ x.aH,ζ A m c] 59)) wr) (λk _=>m0 - (ϙ k).toNat)
  case atStart=>exact⟨0,ϡ _,rfl,λq _ hq=>by omega,Ϗ _ _⟩
  case round=>
   obtain⟨i,hi,rfl,bj,hb⟩:=hrel;have HO:=ψ (ϐ bj hb);have fN:Γ w.heap.size w wr:=fS.e.trans (hb.mono (by omega))
   have BW:=ψ fN;have aI:w.heap.size<wr.heap.size:=by have:=hb.size;simp at this;omega
   have kr:=KB.e.below hb (by omega)
   have r0:=kr.cell 0;have r1:=kr.cell 1;have r2:=kr.cell 2;have st:Δ B w wr:=Δ.aK fN hB;have ST:=ψ st;have KR:=ψ kr;clear bj hb fN kr;by_cases al:i<m0
   ·obtain⟨ad,y,cs,rfl,aC,hy,⟨jC,rfl,NK,-⟩,-,au⟩:=H0.e i al
    have g0:=cC au st aC rfl;have qc:(ad.add (i * 3)).block<wr.heap.size:=by rw[cq];omega
    have HY:=ψ hy;clear hy au st NK;cases hs:jF y.name x.name with
    |true=>
     have cD:(y.name.toList==x.name.toList)=θ:=hs;go_wp2;go_quiet (fail);go_wp2;go_ret;refine⟨aX ?_,by first|exact BW.e|exact jq BW.e _⟩
     unfold gJ;rw[ea,if_pos rfl,if_pos];rw[Ajd];exact⟨y,ϩ HY.e,hs⟩
    |false=>
     have cD:(y.name.toList==x.name.toList)=χ:=hs;go_wp2;go_quiet (fail);go_wp2;go_roundw;case rel=>exact⟨i+1,by omega,by go_num,λq z hq hz=>by
      rcases Agv.1 hq with h|rfl
      ·exact HO.e.1 q z h hz
      ·rw[HY.e] at hz;cases hz;exact hs,by first|exact HO.e.2|exact jq HO.e.2 _⟩
     case measure=>simp[ϙ];omega
   ·obtain rfl:i=m0:=by omega
    have Dl:l.any (λq=>jF q.name x.name)=χ:=by
     rw[Aje];intro z hz;obtain⟨q,hq⟩:=Ah0 hz
     simpa using HO.e.1 q z (by have:=(ϱ.1 hq).1;have:=YK.e;omega) hq
    have uw:=ψ Dl;clear Dl st;cases ij:bX x.aH 1 40 with
    |false=>
     go_wp2_with (first
      | (go_at_call 62;refine(lg _ _ _ _).mono ?_;rintro e w' ⟨rfl,rfl⟩;try rw[ij]))
     go_ret;exact⟨aX (by unfold gJ;rw[ea,uw.e,ij];rfl),BW.e⟩
    |true=>
     obtain⟨pb,Un⟩:=nJ ij;by_cases h3:3<m
     ·go_wp2_with (first
       | (go_at_call 62;refine(lg _ _ _ _).mono ?_;rintro e w' ⟨rfl,rfl⟩;try rw[ij]))
      go_ret;exact⟨aX (by unfold gJ;rw[ea,uw.e,ij,dC.e];simp[h3]),BW.e⟩
     ·go_wp2_with (first
       | (go_at_call 62;refine(lg _ _ _ _).mono ?_;rintro e w' ⟨rfl,rfl⟩;try rw[ij]))
      have fe:gJ l x=lX x.aH (-1) x.cM:=by unfold gJ;rw[ea,uw.e,ij,dC.e];simp[h3]
      have MA:=ψ fe;clear fe;clear r0 r1 r2;go_loopw [6] (λk wq=>∃j:Nat,j<=m/\k=ξ κ j/\lX x.aH (-1) x.cM=lX x.aH (tQ x.cM j) (x.cM.drop j)/\Γ (w.heap.size+1) (w.alloc (Ξ #[.string x.name,ξ κ x.aH,ζ A m c] 59)) wq) (λk _=>m - (ϙ k).toNat)
      case atStart=>exact⟨0,ϡ _,rfl,rfl,HO.e.2⟩
      case round=>
       obtain⟨j,hj,rfl,vx,hb⟩:=hrel;have RE:=ψ vx;have HQ:=ψ hb;have fN:Γ w.heap.size w wr:=fS.e.trans (hb.mono (by omega))
       have BQ:=ψ fN;have aI:w.heap.size<wr.heap.size:=by have:=hb.size;simp at this;omega
       have hle:w.heap.size+1<=wr.heap.size:=by omega
       have kr:=KB.e.below hb (by omega)
       have r0:=kr.cell 0;have r1:=kr.cell 1;have r2:=kr.cell 2;have KQ:=ψ kr;have st:Δ B w wr:=Δ.aK fN hB;have ST:=ψ st;clear vx hb fN kr;by_cases nE:j<m
       ·obtain⟨ad,y,cs,rfl,aC,hy,rfl,-,au⟩:=H2.e j nE
        have h0:=cC au st aC rfl;have h1:=bK au st aC 0 rfl;have qc:(ad.add (j * 2)).block<wr.heap.size:=by rw[cq];omega
        have HY:=ψ hy;have HC:=ψ au;clear hy au st;go_wp2;refine ua 8 (by kernel_rfl) (by kernel_rfl) ?_
        simp only[Agi,List.take_zero,Agk,List.drop_zero];repeat still_step
        refine wpStill_nil ?_
        cases hw:mV y.lo y.hi 0 (x.aH - 1) with
        |false=>
         go_wp2_with (first
             | (go_at_call 49;refine(within _).mono ?_;rintro e w2 ⟨rfl,ak⟩;try rw[hw]))
         go_ret;refine⟨aX ?_,chain BQ.e (iU ak) (by omega)⟩
         rw[MA.e,RE.e,drop_cons HY.e];rw[Ij,Ik,hw];rfl
        |true=>
         rcases Nat.eq_zero_or_pos j with uW|uW
         ·subst uW
          have hrel:lX x.aH (-1) x.cM=lX x.aH (tQ x.cM 1) (x.cM.drop 1):=by
             rw[RE.e,drop_cons HY.e];have pb:0<=y.lo:=by simp only[mV,Aa3,decide_eq_true_eq] at hw;exact hw.1
             have hn:¬ (y.lo<=tQ x.cM 0):=by simp[tQ];omega
             rw[Ij,Ik,hw,if_pos rfl,if_neg hn];simp[tQ,HY.e]
          have HR:=ψ hrel;clear hrel;go_wp2
          go_at_call 49
          refine(within _).mono ?_
          rintro e w2 ⟨rfl,ak⟩;have b2:Γ wr.heap.size wr w2:=iU ak;have k2:=KQ.e.below b2 aI;have s0:=k2.cell 0;have s1:=k2.cell 1;have s2:=k2.cell 2;have ba:w.heap.size<w2.heap.size:=by have:=b2.size;omega
          have mT:Δ B w w2:=ST.e.trans (Δ.aK b2 (by omega))
          have t0:=cC HC.e mT aC rfl;have t1:=bK HC.e mT aC 0 rfl;have q2:(ad.add (0 * 2)).block<w2.heap.size:=by rw[cq];omega
          have dI:=ψ (HQ.e.trans (b2.mono hle));have FX:=ψ (BQ.e.trans (b2.mono (by omega)))
          clear ak b2 k2 mT
          try rw[hw]
          go_wp2;go_quiet (fail);go_wp2;go_roundw;case rel=>exact⟨1,nE,by go_num,HR.e,by first|exact dI.e|exact jq dI.e _⟩
          case measure=>simp[ϙ];omega
         ·obtain⟨q,rfl⟩:∃q,j=q+1:=⟨j - 1,by omega⟩
          obtain⟨Cs,z,SF,CQ,Uv,hz,rfl,-,vd⟩:=H2.e q (by omega)
          cases CQ;have HZ:=ψ hz;have QX:=ψ vd;clear hz vd;have UD:tQ x.cM (q+1)=z.hi:=by simp[tQ,HZ.e]
          have Q2:=ψ UD;clear UD;have gx:decide ((0:Int)<((q+1:Nat):Int))=θ:=by simp<;>omega
          by_cases qI:y.lo<=z.hi
          ·have hd:decide (y.lo<=z.hi)=θ:=by simpa using qI
           go_wp2
           go_at_call 49
           refine(within _).mono ?_
           rintro e w2 ⟨rfl,ak⟩;have b2:Γ wr.heap.size wr w2:=iU ak;have k2:=KQ.e.below b2 aI;have s0:=k2.cell 0;have s1:=k2.cell 1;have s2:=k2.cell 2;have ba:w.heap.size<w2.heap.size:=by have:=b2.size;omega
           have mT:Δ B w w2:=ST.e.trans (Δ.aK b2 (by omega))
           have t0:=cC HC.e mT aC rfl;have t1:=bK HC.e mT aC 0 rfl;have q2:(ad.add ((q+1) * 2)).block<w2.heap.size:=by rw[cq];omega
           have dI:=ψ (HQ.e.trans (b2.mono hle));have FX:=ψ (BQ.e.trans (b2.mono (by omega)))
           have t3:=bK QX.e mT aC 0 rfl;have q3:(ad.add (q * 2)).block<w2.heap.size:=by rw[cq];omega
           clear ak b2 k2 mT
           try rw[hw]
           go_wp2;go_quiet (fail);go_wp2;go_ret;refine⟨aX ?_,by first|exact FX.e|exact jq FX.e _⟩
           rw[MA.e,RE.e,drop_cons HY.e,Q2.e];rw[Ij,Ik,hw,if_pos rfl,if_pos qI]
          ·have hd:decide (y.lo<=z.hi)=χ:=by simpa using qI
           have hrel:lX x.aH (-1) x.cM=lX x.aH (tQ x.cM (q+2)) (x.cM.drop (q+2)):=by
               rw[RE.e,drop_cons HY.e,Q2.e];rw[Ij,Ik,hw,if_pos rfl,if_neg qI];simp[tQ,HY.e]
           have HR:=ψ hrel;clear hrel;go_wp2
           go_at_call 49
           refine(within _).mono ?_
           rintro e w2 ⟨rfl,ak⟩;have b2:Γ wr.heap.size wr w2:=iU ak;have k2:=KQ.e.below b2 aI;have s0:=k2.cell 0;have s1:=k2.cell 1;have s2:=k2.cell 2;have ba:w.heap.size<w2.heap.size:=by have:=b2.size;omega
           have mT:Δ B w w2:=ST.e.trans (Δ.aK b2 (by omega))
           have t0:=cC HC.e mT aC rfl;have t1:=bK HC.e mT aC 0 rfl;have q2:(ad.add ((q+1) * 2)).block<w2.heap.size:=by rw[cq];omega
           have dI:=ψ (HQ.e.trans (b2.mono hle));have FX:=ψ (BQ.e.trans (b2.mono (by omega)))
           have t3:=bK QX.e mT aC 0 rfl;have q3:(ad.add (q * 2)).block<w2.heap.size:=by rw[cq];omega
           clear ak b2 k2 mT
           try rw[hw]
           go_wp2;go_quiet (fail);go_wp2;go_roundw;case rel=>exact⟨q+2,by omega,by go_num,HR.e,by first|exact dI.e|exact jq dI.e _⟩
           case measure=>simp[ϙ];omega
       ·obtain rfl:j=m:=by omega
        go_wp2;go_ret;refine⟨aX ?_,BQ.e⟩
        rw[MA.e,RE.e,Ai3 (by rw[dC.e];exact ϊ _)]
        rfl
def XG{a b:Int}:mO a b 0 120 121=mV a b 0 120:=by
 rw[Fz];by_cases h:mV a b 0 120=θ
 ·rw[h]
  simp only[mV,Aa3,decide_eq_true_eq] at h;simp;omega
 ·simp only[Bool.not_eq_true] at h;rw[h];rfl
def aj0{n:Int}{pv bv tv:υ}{w:Ψ}{B:Nat}{lp:List Piece}{l:List Tape}(hp:Row w B 4 Piece.R pv lp)(Dr:∃A n c,bv=ζ A n c)(hv:Row w B 3 (Tape.R w B) tv l)(hB:B<=w.heap.size):
 ύ prog 147 #[η #[ξ κ n,pv,bv,tv]] w λe w'=>e=Ω (ξ κ (kK lp.length l))/\Γ w.heap.size w w':=by
 obtain⟨PA,np,pc,rfl,kH,Hv,vw,-⟩:=hp.Φ;obtain⟨A,m,c,rfl,hl,dX,hc,hr⟩:=hv.Φ;obtain⟨BA,bn,bc,rfl⟩:=Dr;have dC:=ψ hl;have DQ:=ψ kH;have KU:=ψ (Ϥ Hv vw);unfold ϗ at hc vw;have H2:=ψ hr;have kb:Bk (w.alloc (Ξ #[ξ κ n,ζ PA np pc,ζ BA bn bc,ζ A m c] 26)) w.heap.size 26 #[ξ κ n,ζ PA np pc,ζ BA bn bc,ζ A m c]:=Bk.new _ _ _;have KB:=ψ kb;have fS:Hid (Γ w.heap.size w (w.alloc (Ξ #[ξ κ n,ζ PA np pc,ζ BA bn bc,ζ A m c] 26))):=ψ ((Ϗ _ _).alloc (ϊ _) _);clear hl hr hv kH hp kb;by_cases hlen:4<m
 ·go_enter func147,Tryz.ntmps147
  go_wp2;go_ret;exact⟨aX (by unfold kK;rw[dC.e,if_pos hlen]),fS.e⟩
 ·go_enter func147,Tryz.ntmps147
  go_wp2;go_loopw [2,3,4,5] (λr k u v wr=>∃i:Nat,i<=m/\k=ξ κ i/\(∀(j:Nat) (x:Tape),j<i->l[j]?=φ x->kh np x=0)/\Γ (w.heap.size+1) (w.alloc (Ξ #[ξ κ n,ζ PA np pc,ζ BA bn bc,ζ A m c] 26)) wr) (λ_ k _ _ _=>m - (ϙ k).toNat)
  case atStart=>exact⟨0,ϡ _,rfl,λj _ hj=>by omega,Ϗ _ _⟩
  case round=>
   obtain⟨i,hi,rfl,bt,hb⟩:=hrel;have HH:=ψ (ϐ bt hb);have fN:Γ w.heap.size w wr:=fS.e.trans (hb.mono (by omega))
   have BW:=ψ fN;have aI:w.heap.size<wr.heap.size:=by have:=hb.size;simp at this;omega
   have hle:w.heap.size+1<=wr.heap.size:=by omega
   have kr:=KB.e.below hb (by omega)
   have r0:=kr.cell 0;have r1:=kr.cell 1;have r2:=kr.cell 2;have r3:=kr.cell 3;have KR:=ψ kr;have st:Δ B w wr:=Δ.aK fN hB;have ST:=ψ st;clear bt hb fN kr;by_cases al:i<m
   ·obtain⟨ad,x,cs,rfl,aC,hx,⟨kv,rfl,dj⟩,-,au⟩:=H2.e i al
    obtain⟨KA,kn,kc,rfl,da,Uu,DJ,xS⟩:=id dj.Φ;have YH:=ψ dj;unfold ϗ at DJ;have KL:=ψ da;have h0:=cC au st aC rfl;have h1:=bK au st aC 0 rfl;have h2:=bK au st aC 1 rfl;have qc:(ad.add (i * 3)).block<wr.heap.size:=by rw[cq];omega
    have HX:=ψ hx;clear hx au st dj da xS;have bad:∀s:Int,kh np x=s->s≠0->s=kK lp.length l:=λs hs h0=>by
     unfold kK;rw[dC.e,if_neg hlen,DQ.e,sf (f:=λ_ t=>kh np t) HX.e HH.e.1 (by rw[hs];exact h0),hs]
    have fG:=ψ bad;clear bad;have HO:Hid (Γ (w.heap.size+1) (w.alloc (Ξ #[ξ κ n,ζ PA np pc,ζ BA bn bc,ζ (φ ad) m c] 26)) (wr.alloc (Ξ #[ζ KA kn kc,ξ κ x.sum.lo,ξ κ x.sum.hi] 95))):=ψ (HH.e.2.alloc hle _);have Cb:Hid (Γ w.heap.size w (wr.alloc (Ξ #[ζ KA kn kc,ξ κ x.sum.lo,ξ κ x.sum.hi] 95))):=ψ (BW.e.alloc (by omega) _)
    by_cases iM:kn=0
    ·subst iM
     go_wp2;go_ret;exact⟨aX (fG.e 2 (by unfold kh;rw[KL.e];rfl) (by omega)),Cb.e⟩
    ·have ig:((kn:Int)==0)=χ:=by simp;omega
     have KG:Hid (Row (wr.alloc (Ξ #[ζ KA kn kc,ξ κ x.sum.lo,ξ κ x.sum.hi] 95)) B 1 cH (ζ KA kn kc) x.pieces):=ψ (YH.e.still (Δ.aK Cb.e hB) λ_ _ h=>h)
     by_cases dY:eE np ν x.pieces=0
     ·cases hw:mV x.sum.lo x.sum.hi 0 120 with
      |false=>
       go_wp2
       go_at_call 57
       refine(rising KG.e (by simp;omega) KU.e).mono ?_
       rintro e w2 ⟨rfl,ak⟩;rw[dY];have mG:(wr.alloc (Ξ #[ζ KA kn kc,ξ κ x.sum.lo,ξ κ x.sum.hi] 95)).heap.size=wr.heap.size+1:=by simp
       have k2:Bk w2 wr.heap.size 95 #[ζ KA kn kc,ξ κ x.sum.lo,ξ κ x.sum.hi]:=(Bk.new wr 95 _).below ak (by omega)
       have s0:=k2.cell 0;have s1:=k2.cell 1;have s2:=k2.cell 2;have ba:wr.heap.size<w2.heap.size:=k2.lt;have BX:Hid (Γ (w.heap.size+1) (w.alloc (Ξ #[ξ κ n,ζ PA np pc,ζ BA bn bc,ζ (φ ad) m c] 26)) w2):=ψ (HO.e.trans (ak.mono (by omega)))
       have J3:Hid (Γ w.heap.size w w2):=ψ (Cb.e.trans (ak.mono (by omega)))
       clear ak k2 mG;go_wp2
       go_at_call 49
       refine(within _).mono ?_
       rintro e w3 ⟨rfl,bD⟩;have BY:Hid (Γ (w.heap.size+1) (w.alloc (Ξ #[ξ κ n,ζ PA np pc,ζ BA bn bc,ζ (φ ad) m c] 26)) w3):=ψ (BX.e.trans (bD.mono (by omega)))
       have QE:Hid (Γ w.heap.size w w3):=ψ (J3.e.trans (bD.mono (by omega)))
       clear bD;rw[hw];go_wp2;go_ret;exact⟨aX (fG.e 1 (by unfold kh;rw[KL.e,if_neg iM,dY,XG,hw];rfl) (by omega)),QE.e⟩
      |true=>
       go_wp2
       go_at_call 57
       refine(rising KG.e (by simp;omega) KU.e).mono ?_
       rintro e w2 ⟨rfl,ak⟩;rw[dY];have mG:(wr.alloc (Ξ #[ζ KA kn kc,ξ κ x.sum.lo,ξ κ x.sum.hi] 95)).heap.size=wr.heap.size+1:=by simp
       have k2:Bk w2 wr.heap.size 95 #[ζ KA kn kc,ξ κ x.sum.lo,ξ κ x.sum.hi]:=(Bk.new wr 95 _).below ak (by omega)
       have s0:=k2.cell 0;have s1:=k2.cell 1;have s2:=k2.cell 2;have ba:wr.heap.size<w2.heap.size:=k2.lt;have BX:Hid (Γ (w.heap.size+1) (w.alloc (Ξ #[ξ κ n,ζ PA np pc,ζ BA bn bc,ζ (φ ad) m c] 26)) w2):=ψ (HO.e.trans (ak.mono (by omega)))
       have J3:Hid (Γ w.heap.size w w2):=ψ (Cb.e.trans (ak.mono (by omega)))
       clear ak k2 mG;go_wp2
       go_at_call 49
       refine(within _).mono ?_
       rintro e w3 ⟨rfl,bD⟩;have BY:Hid (Γ (w.heap.size+1) (w.alloc (Ξ #[ξ κ n,ζ PA np pc,ζ BA bn bc,ζ (φ ad) m c] 26)) w3):=ψ (BX.e.trans (bD.mono (by omega)))
       have QE:Hid (Γ w.heap.size w w3):=ψ (J3.e.trans (bD.mono (by omega)))
       clear bD;rw[hw];go_wp2;go_roundw;case rel=>exact⟨i+1,by omega,by go_num,λj y hj hy=>by
           rcases Agv.1 hj with h|rfl
           ·exact HH.e.1 j y h hy
           ·rw[HX.e] at hy;cases hy;unfold kh;rw[KL.e,if_neg iM,dY,XG,hw];rfl,BY.e⟩
       case measure=>simp[ϙ];omega
     ·have N9:(eE np ν x.pieces !=0)=θ:=by simpa using dY
      obtain⟨s,hs⟩:∃s,s=eE np ν x.pieces:=⟨_,rfl⟩
      rw[<-hs] at dY N9;have HS:=ψ hs;go_wp2
      go_at_call 57
      refine(rising KG.e (by simp;omega) KU.e).mono ?_
      rintro e w2 ⟨rfl,ak⟩;rw[<-HS.e];have BX:=ψ (Cb.e.trans (ak.mono (by simp;omega)))
      clear ak hs;go_wp2;go_ret;exact⟨aX (fG.e s (by unfold kh;rw[KL.e,if_neg iM,<-HS.e,if_pos dY]) dY),BX.e⟩
   ·obtain rfl:i=m:=by omega
    go_wp2;go_ret;refine⟨aX ?_,BW.e⟩
    unfold kK;rw[dC.e,if_neg hlen,DQ.e,se (f:=λ_ t=>kh np t) (λj x hj=>HH.e.1 j x (by have:=(ϱ.1 hj).1;have:=dC.e;omega) hj)]
def aac{b:ao}(h:bX b.ag 0 3=χ):dF b=1:=by
 unfold dF jP;rw[h];rfl
def aab{b:ao}(h:bX b.ag 0 3=θ)(h1:iw b.pieces≠0):dF b=iw b.pieces:=by
 unfold dF jP;rw[h];simp[scan,h1]
def Sp{b:ao}(h:bX b.ag 0 3=θ)(h1:iw b.pieces=0)(h2:kC b.aF≠0):dF b=kC b.aF:=by
 unfold dF jP;rw[h];simp[scan,h1,h2]
def aad{b:ao}(h:bX b.ag 0 3=θ)(h1:iw b.pieces=0)(h2:kC b.aF=0):dF b=kK b.pieces.length b.aJ:=by
 unfold dF jP;rw[h]
 by_cases h3:kK b.pieces.length b.aJ=0
 ·simp[scan,h1,h2,h3]
 ·simp[scan,h1,h2,h3]
def ajY{b:ao}{pv bv tv:υ}{w:Ψ}{B:Nat}(ai:bg w B b pv bv tv)(hB:B<=w.heap.size):
 ύ prog 69 #[η #[ξ κ b.ag,pv,bv,tv]] w λe w'=>e=Ω (ξ κ (dF b))/\Γ w.heap.size w w':=by
 have bT:=ψ ai;obtain⟨PA,np,pc,rfl,kH,Hv,vw,-⟩:=ai.pieces.Φ;obtain⟨TA,nt,tc,rfl,xZ,htc,Ob,-⟩:=ai.aJ.Φ;obtain⟨A,m,c,rfl,hl,dX,hc,hr⟩:=ai.aF.Φ;have dC:=ψ hl;unfold ϗ at hc vw Ob;have H2:=ψ hr;have kb:Bk (w.alloc (Ξ #[ξ κ b.ag,ζ PA np pc,ζ A m c,ζ TA nt tc] 26)) w.heap.size 26 #[ξ κ b.ag,ζ PA np pc,ζ A m c,ζ TA nt tc]:=Bk.new _ _ _;have KB:=ψ kb;have fS:Hid (Γ w.heap.size w (w.alloc (Ξ #[ξ κ b.ag,ζ PA np pc,ζ A m c,ζ TA nt tc] 26))):=ψ ((Ϗ _ _).alloc (ϊ _) _);have mG:(w.alloc (Ξ #[ξ κ b.ag,ζ PA np pc,ζ A m c,ζ TA nt tc] 26)).heap.size=w.heap.size+1:=by simp
 have Br:=ψ mG;have Kc:Hid (ύ prog 145 #[ζ PA np pc] (w.alloc (Ξ #[ξ κ b.ag,ζ PA np pc,ζ A m c,ζ TA nt tc] 26)) λe w'=>e=Ω (ξ κ (iw b.pieces))/\Γ (w.heap.size+1) (w.alloc (Ξ #[ξ κ b.ag,ζ PA np pc,ζ A m c,ζ TA nt tc] 26)) w'):=ψ (by
  have:=ajZ (bT.e.pieces.still (Δ.aK fS.e hB) λ_ _ h=>h) (by rw[mG];omega)
  rw[mG] at this;exact this)
 clear hl hr ai kH xZ kb mG;cases h1:bX b.ag 0 3 with
 |false=>
  go_enter func69,Tryz.ntmps69;go_wp2_with (first
   | (go_at_call 62;refine(lg _ _ _ _).mono ?_;rintro e w' ⟨rfl,rfl⟩;try rw[h1]))
  go_ret;exact⟨aX (aac h1).symm,fS.e⟩
 |true=>
  by_cases h2:iw b.pieces=0
  ·go_enter func69,Tryz.ntmps69
   go_wp2_with (first
    | (go_at_call 62;refine(lg _ _ _ _).mono ?_;rintro e w' ⟨rfl,rfl⟩;try rw[h1]))
   go_at_call 145
   refine Kc.e.mono ?_
   rintro e w1 ⟨rfl,ae⟩;rw[h2];have k1:=KB.e.below ae (by omega)
   have r0:=k1.cell 0;have r1:=k1.cell 1;have r2:=k1.cell 2;have r3:=k1.cell 3;have aN:w.heap.size<w1.heap.size:=k1.lt;have dO:Hid (Γ w.heap.size w w1):=ψ (fS.e.trans (ae.mono (by omega)))
   have Yl:=ψ ae;clear k1 ae;by_cases h3:3<m
   ·go_wp2
    go_ret;exact⟨aX (by rw[Sp h1 h2 (by unfold kC;rw[dC.e,if_pos h3];omega)];unfold kC;rw[dC.e,if_pos h3]),dO.e⟩
   ·go_wp2
    clear r0 r1 r2 r3;go_loopw [2,4,5] (λr k u wr=>∃i:Nat,i<=m/\k=ξ κ i/\(∀(j:Nat) (x:bR),j<i->b.aF[j]?=φ x->gJ (b.aF.take j) x=0)/\Γ (w.heap.size+1) (w.alloc (Ξ #[ξ κ b.ag,ζ PA np pc,ζ A m c,ζ TA nt tc] 26)) wr) (λ_ k _ _=>m - (ϙ k).toNat)
    case atStart=>exact⟨0,ϡ _,rfl,λj _ hj=>by omega,Yl.e⟩
    case round=>
     obtain⟨i,hi,rfl,bt,hb⟩:=hrel;have HH:=ψ (ϐ bt hb);have fN:Γ w.heap.size w wr:=fS.e.trans (hb.mono (by omega))
     have BW:=ψ fN;have aI:w.heap.size<wr.heap.size:=by have:=hb.size;have:=Br.e;omega
     have hle:w.heap.size+1<=wr.heap.size:=by omega
     have kr:=KB.e.below hb (by omega)
     have r0:=kr.cell 0;have r1:=kr.cell 1;have r2:=kr.cell 2;have r3:=kr.cell 3;have st:Δ B w wr:=Δ.aK fN hB;have ST:=ψ st;clear bt hb fN kr;by_cases al:i<m
     ·obtain⟨ad,x,cs,rfl,aC,hx,⟨kv,rfl,dH,dj⟩,-,au⟩:=H2.e i al
      obtain⟨A2,c2,rfl,-⟩:=id dj;obtain⟨n2,dM⟩:∃n2,n2=x.cM.length:=⟨_,rfl⟩
      rw[<-dM] at dj au;clear dM;have yV:=ψ dj;have g0:=cC au st aC rfl;have g1:=bK au st aC 0 rfl;have g2:=bK au st aC 1 rfl;have HX:=ψ hx;clear hx au st dj;have DD:i<=c:=by omega
      go_wp2;refine ua 9 (by kernel_rfl) (by kernel_rfl) ?_
      simp only[Agi,List.take_zero,Agk,List.drop_zero];repeat still_step
      refine wpStill_nil ?_
      have HR:=ψ ((bT.e.aF.take hi).still ST.e λ_ _ h=>h.still ST.e)
      have F7:=ψ (yV.e.still ST.e λ_ _ h=>h)
      have Kd:Hid (ύ prog 146 #[ζ (φ ad) i c,η #[.string x.name,ξ κ x.aH,ζ A2 n2 c2]] wr.drew λe w'=>e=Ω (ξ κ (gJ (b.aF.take i) x))/\Γ wr.heap.size wr w'):=ψ (by
       have:=ajX (w:=wr.drew) dH F7.e HR.e (by show B<=wr.heap.size;omega)
       exact this.mono λe w' ⟨h1,h2⟩=>⟨h1,iU h2⟩)
      by_cases hz:gJ (b.aF.take i) x=0
      ·go_wp2
       go_at_call 146
       refine Kd.e.mono ?_
       rintro e w2 ⟨rfl,ak⟩;rw[hz];have BX:=ψ (HH.e.2.trans (ak.mono hle));clear ak;go_wp2;go_roundw;case rel=>exact⟨i+1,by omega,by go_num,λj y hj hy=>by
        rcases Agv.1 hj with h|rfl
        ·exact HH.e.1 j y h hy
        ·rw[HX.e] at hy;cases hy;exact hz,BX.e⟩
       case measure=>simp[ϙ];omega
      ·obtain⟨s,hs⟩:∃s,s=gJ (b.aF.take i) x:=⟨_,rfl⟩
       rw[<-hs] at hz Kd;have N9:(s !=0)=θ:=by simpa using hz
       have HS:=ψ hs;clear hs;go_wp2
       go_at_call 146
       refine Kd.e.mono ?_
       rintro e w2 ⟨rfl,ak⟩;have BX:=ψ (BW.e.trans (ak.mono (by omega)))
       clear ak;go_wp2;go_ret;have fe:kC b.aF=s:=by
        unfold kC;rw[dC.e,if_neg h3,sf HX.e HH.e.1 (by rw[<-HS.e];exact hz),<-HS.e]
       exact⟨aX (by rw[Sp h1 h2 (by rw[fe];exact hz),fe]),BX.e⟩
     ·obtain rfl:i=m:=by omega
      have fe:kC b.aF=0:=by
       unfold kC;rw[dC.e,if_neg h3,se (λj x hj=>HH.e.1 j x (by have:=(ϱ.1 hj).1;have:=dC.e;omega) hj)]
      have MA:=ψ fe;have Yn:Hid (ύ prog 147 #[η #[ξ κ b.ag,ζ PA np pc,ζ A i c,ζ TA nt tc]] wr λe w'=>e=Ω (ξ κ (kK b.pieces.length b.aJ))/\Γ wr.heap.size wr w'):=ψ
       (aj0 (bT.e.pieces.still ST.e λ_ _ h=>h) ⟨_,_,_,rfl⟩ (bT.e.aJ.still ST.e λ_ _ h=>h.still ST.e) (by omega))
      clear fe st;go_wp2
      go_at_call 147
      refine Yn.e.mono ?_
      rintro e w2 ⟨rfl,ak⟩;have BX:=ψ (BW.e.trans (ak.mono (by omega)))
      clear ak;go_wp2;go_ret;exact⟨aX (aad h1 h2 MA.e).symm,BX.e⟩
  ·obtain⟨s,hs⟩:∃s,s=iw b.pieces:=⟨_,rfl⟩
   have o4:=aab h1 h2;rw[<-hs] at h2 Kc o4;have N9:(s !=0)=θ:=by simpa using h2
   have YB:=ψ o4;clear hs o4;go_enter func69,Tryz.ntmps69;go_wp2_with (first
    | (go_at_call 62;refine(lg _ _ _ _).mono ?_;rintro e w' ⟨rfl,rfl⟩;try rw[h1]))
   go_at_call 145
   refine Kc.e.mono ?_
   rintro e w1 ⟨rfl,ae⟩;have dO:Hid (Γ w.heap.size w w1):=ψ (fS.e.trans (ae.mono (by omega)))
   clear ae;go_wp2;go_ret;exact⟨aX YB.e.symm,dO.e⟩
def rq(x:bR):Bool:=decide (100<x.name.size) ||decide (20<x.cM.length)
def zH(x:Piece):Bool:=decide (100<x.name.size)
def zI(x:Tape):Bool:=decide (20<x.pieces.length)
def uU(b:ao):Bool:=(decide (20<b.pieces.length) || (decide (20<b.aF.length) ||decide (20<b.aJ.length))) || (b.pieces.any zH|| (b.aF.any rq||b.aJ.any zI))
def sS(b:ao):Bool:= !uU b && decide (dF b=0)
def Zz{x:bR}{kv:υ}{w:Ψ}{B:Nat}(dH:x.name.size<=ϗ)(hk:Row w B 2 Span.R kv x.cM):
 ύ prog 51 #[η #[.string x.name,ξ κ x.aH,kv]] w λe w'=>e=Ω (.bool (rq x))/\Γ w.heap.size w w':=by
 obtain⟨A,m,c,rfl,hl,dX,hc,-⟩:=hk.Φ;unfold ϗ at hc dH;have HL:=ψ hl;clear hl hk;by_cases h1:100<x.name.size
 ·go_enter func51,Tryz.ntmps51
  go_wp2;go_ret;exact⟨b9 (by unfold rq;simp[h1]),(Ϗ _ _).alloc (ϊ _) _⟩
 ·by_cases h2:20<m
  ·go_enter func51,Tryz.ntmps51
   go_wp2;go_ret;exact⟨b9 (by unfold rq;rw[HL.e];simp[h2];omega),(Ϗ _ _).alloc (ϊ _) _⟩
  ·go_enter func51,Tryz.ntmps51
   go_wp2;go_ret;exact⟨b9 (by unfold rq;rw[HL.e];simp[h1,h2];omega),(Ϗ _ _).alloc (ϊ _) _⟩
def Lp{α:Type}{p:α->Bool}{l:List α}{i:Nat}{x:α}(h:l[i]?=φ x)(hp:p x=θ):l.any p=θ:=Ajd.2 ⟨x,ϩ h,hp⟩
def Lo{α:Type}{p:α->Bool}{l:List α}{n:Nat}(hn:l.length=n)(h:∀(j:Nat) (x:α),j<n->l[j]?=φ x->p x=χ):l.any p=χ:=by
 rw[Aje];intro z hz;obtain⟨q,hq⟩:=Ah0 hz
 simpa using h q z (by have:=(ϱ.1 hq).1;omega) hq
def adh{b:ao}{pv bv tv:υ}{w:Ψ}{B:Nat}(ai:bg w B b pv bv tv)(hB:B<=w.heap.size):
 ύ prog 20 #[η #[ξ κ b.ag,pv,bv,tv]] w λe w'=>e=Ω (.bool (uU b))/\Γ w.heap.size w w':=by
 obtain⟨PA,np,pc,rfl,kH,Hv,vw,U6⟩:=ai.pieces.Φ;obtain⟨TA,nt,tc,rfl,xZ,htc,Ob,pg⟩:=ai.aJ.Φ;obtain⟨A,m,c,rfl,hl,dX,hc,hr⟩:=ai.aF.Φ;have KJ:=ψ kH;have KI:=ψ hl;have KP:=ψ xZ;have HP:=ψ U6;have HT:=ψ pg;have H2:=ψ hr;unfold ϗ at hc vw Ob;have kb:Bk (w.alloc (Ξ #[ξ κ b.ag,ζ PA np pc,ζ A m c,ζ TA nt tc] 26)) w.heap.size 26 #[ξ κ b.ag,ζ PA np pc,ζ A m c,ζ TA nt tc]:=Bk.new _ _ _;have KB:=ψ kb;have fS:Hid (Γ w.heap.size w (w.alloc (Ξ #[ξ κ b.ag,ζ PA np pc,ζ A m c,ζ TA nt tc] 26))):=ψ ((Ϗ _ _).alloc (ϊ _) _);have Br:Hid ((w.alloc (Ξ #[ξ κ b.ag,ζ PA np pc,ζ A m c,ζ TA nt tc] 26)).heap.size=w.heap.size+1):=ψ (by simp)
 have Vr:∀q:Bool,q=θ->(decide (20<b.pieces.length) || (decide (20<b.aF.length) ||decide (20<b.aJ.length)))=q->θ=uU b:=λq h1 h2=>by unfold uU;rw[h2,h1];rfl
 have QK:=ψ Vr;clear hl hr ai kH xZ kb U6 pg Vr;by_cases h1:20<np
 ·go_enter func20,Tryz.ntmps20
  go_wp2;go_ret;exact⟨b9 (QK.e θ rfl (by rw[KJ.e];simp[h1])),fS.e⟩
 by_cases h2:20<m
 ·go_enter func20,Tryz.ntmps20
  go_wp2;go_ret;exact⟨b9 (QK.e θ rfl (by rw[KI.e];simp[h2])),fS.e⟩
 by_cases h3:20<nt
 ·go_enter func20,Tryz.ntmps20
  go_wp2;go_ret;exact⟨b9 (QK.e θ rfl (by rw[KP.e];simp[h3])),fS.e⟩
 have bj:uU b=(b.pieces.any zH|| (b.aF.any rq||b.aJ.any zI)):=by
  unfold uU;rw[KJ.e,KI.e,KP.e];simp[h1,h2,h3]
 have sT:=ψ bj;clear bj;go_enter func20,Tryz.ntmps20;go_wp2;go_loopw [2,3] (λr k wr=>∃i:Nat,i<=np/\k=ξ κ i/\(∀(j:Nat) (x:Piece),j<i->b.pieces[j]?=φ x->zH x=χ)/\Γ (w.heap.size+1) (w.alloc (Ξ #[ξ κ b.ag,ζ PA np pc,ζ A m c,ζ TA nt tc] 26)) wr) (λ_ k _=>np - (ϙ k).toNat)
 case atStart=>exact⟨0,ϡ _,rfl,λj _ hj=>by omega,by rw[<-Br.e];exact Ϗ _ _⟩
 case round=>
  obtain⟨i,hi,rfl,bt,hb⟩:=hrel;have HH:=ψ (ϐ bt hb);have fN:Γ w.heap.size w wr:=fS.e.trans (hb.mono (by omega))
  have BW:=ψ fN;have kr:=KB.e.below hb (by omega)
  have aI:w.heap.size<wr.heap.size:=kr.lt;have r0:=kr.cell 0;have r1:=kr.cell 1;have r2:=kr.cell 2;have r3:=kr.cell 3;have st:Δ B w wr:=Δ.aK fN hB;clear bt hb fN kr;by_cases al:i<np
  ·obtain⟨ad,x,cs,rfl,aC,hx,⟨rfl,dH⟩,-,au⟩:=HP.e i al
   have g0:=cC au st aC rfl;have qc:(ad.add (i * 4)).block<wr.heap.size:=by rw[cq];omega
   have HX:=ψ hx;unfold ϗ at dH;clear hx au st;by_cases hg:100<x.name.size
   ·go_wp2
    go_ret;exact⟨b9 (by rw[sT.e,Lp HX.e (by unfold zH;simpa using hg)];rfl),BW.e⟩
   ·go_wp2
    go_roundw;case rel=>exact⟨i+1,by omega,by go_num,λj y hj hy=>by
     rcases Agv.1 hj with h|rfl
     ·exact HH.e.1 j y h hy
     ·rw[HX.e] at hy;cases hy;unfold zH;simpa using hg,HH.e.2⟩
    case measure=>simp[ϙ];omega
  ·obtain rfl:i=np:=by omega
   have qx:b.pieces.any zH=χ:=Lo KJ.e HH.e.1;have kQ:=ψ qx;have F3:=ψ HH.e.2;clear qx st;go_wp2;clear r0 r1 r2 r3;go_loopw [2,4] (λr k wr=>∃j:Nat,j<=m/\k=ξ κ j/\(∀(q:Nat) (x:bR),q<j->b.aF[q]?=φ x->rq x=χ)/\Γ (w.heap.size+1) (w.alloc (Ξ #[ξ κ b.ag,ζ PA i pc,ζ A m c,ζ TA nt tc] 26)) wr) (λ_ k _=>m - (ϙ k).toNat)
   case atStart=>exact⟨0,ϡ _,rfl,λj _ hj=>by omega,F3.e⟩
   case round=>
    obtain⟨j,hj,rfl,bt,hb⟩:=hrel;have HG:=ψ (ϐ bt hb);have fN:Γ w.heap.size w wr:=fS.e.trans (hb.mono (by omega))
    have BV:=ψ fN;have kr:=KB.e.below hb (by omega)
    have oD:w.heap.size<wr.heap.size:=kr.lt;have hle:w.heap.size+1<=wr.heap.size:=oD;have r0:=kr.cell 0;have r1:=kr.cell 1;have r2:=kr.cell 2;have r3:=kr.cell 3;have st:Δ B w wr:=Δ.aK fN hB;have ST:=ψ st;clear bt hb fN kr;by_cases al:j<m
    ·obtain⟨ad,x,cs,rfl,aC,hx,⟨kv,rfl,dH,dj⟩,-,au⟩:=H2.e j al
     obtain⟨A2,c2,rfl,-⟩:=id dj;obtain⟨n2,dM⟩:∃n2,n2=x.cM.length:=⟨_,rfl⟩
     rw[<-dM] at dj au;clear dM;have QO:Hid (ύ prog 51 #[η #[.string x.name,ξ κ x.aH,ζ A2 n2 c2]] wr λe w'=>e=Ω (.bool (rq x))/\Γ wr.heap.size wr w'):=ψ (Zz dH (dj.still st λ_ _ h=>h))
     have g0:=cC au st aC rfl;have g1:=bK au st aC 0 rfl;have g2:=bK au st aC 1 rfl;have qc:(ad.add (j * 3)).block<wr.heap.size:=by rw[cq];omega
     have HX:=ψ hx;clear hx au st dj;cases hg:rq x with
     |true=>
      go_wp2
      go_at_call 51
      refine QO.e.mono ?_
      rintro e w2 ⟨rfl,ak⟩;rw[hg];have BX:=ψ (BV.e.trans (ak.mono (by omega)))
      clear ak;go_wp2;go_ret;exact⟨b9 (by rw[sT.e,Lp HX.e hg];simp),BX.e⟩
     |false=>
      go_wp2
      go_at_call 51
      refine QO.e.mono ?_
      rintro e w2 ⟨rfl,ak⟩;rw[hg];have BX:=ψ (HG.e.2.trans (ak.mono hle));clear ak;go_wp2;go_roundw;case rel=>exact⟨j+1,by omega,by go_num,λq y hq hy=>by
       rcases Agv.1 hq with h|rfl
       ·exact HG.e.1 q y h hy
       ·rw[HX.e] at hy;cases hy;exact hg,BX.e⟩
      case measure=>simp[ϙ];omega
    ·obtain rfl:j=m:=by omega
     have dM:b.aF.any rq=χ:=Lo KI.e HG.e.1;have YO:=ψ dM;have Yz:=ψ HG.e.2;clear dM st;go_wp2;clear r0 r1 r2 r3;go_loopw [2,5] (λr k wr=>∃q:Nat,q<=nt/\k=ξ κ q/\(∀(z:Nat) (x:Tape),z<q->b.aJ[z]?=φ x->zI x=χ)/\Γ (w.heap.size+1) (w.alloc (Ξ #[ξ κ b.ag,ζ PA i pc,ζ A j c,ζ TA nt tc] 26)) wr) (λ_ k _=>nt - (ϙ k).toNat)
     case atStart=>exact⟨0,ϡ _,rfl,λj _ hj=>by omega,Yz.e⟩
     case round=>
      obtain⟨q,hq,rfl,bt,hb⟩:=hrel;have HK:=ψ (ϐ bt hb);have fN:Γ w.heap.size w wr:=fS.e.trans (hb.mono (by omega))
      have BZ:=ψ fN;have kr:=KB.e.below hb (by omega)
      have B5:w.heap.size<wr.heap.size:=kr.lt;have r0:=kr.cell 0;have r1:=kr.cell 1;have r2:=kr.cell 2;have r3:=kr.cell 3;have st:Δ B w wr:=Δ.aK fN hB;clear bt hb fN kr;by_cases al:q<nt
      ·obtain⟨ad,x,cs,rfl,aC,hx,⟨kv,rfl,dj⟩,-,au⟩:=HT.e q al
       obtain⟨KA,kn,kc,rfl,da,Uu,DJ,-⟩:=dj.Φ;unfold ϗ at DJ;have KL:=ψ da;have g0:=cC au st aC rfl;have qc:(ad.add (q * 3)).block<wr.heap.size:=by rw[cq];omega
       have HX:=ψ hx;clear hx au st dj da;by_cases hg:20<kn
       ·go_wp2
        go_ret;exact⟨b9 (by rw[sT.e,Lp HX.e (by unfold zI;rw[KL.e];simpa using hg)];simp),BZ.e⟩
       ·go_wp2
        go_roundw;case rel=>exact⟨q+1,by omega,by go_num,λz y hz hy=>by
             rcases Agv.1 hz with h|rfl
             ·exact HK.e.1 z y h hy
             ·rw[HX.e] at hy;cases hy;unfold zI;rw[KL.e];simpa using hg,HK.e.2⟩
        case measure=>simp[ϙ];omega
      ·obtain rfl:q=nt:=by omega
       have lQ:b.aJ.any zI=χ:=Lo KP.e HK.e.1;have YP:=ψ lQ;clear lQ st;go_wp2;go_ret;exact⟨b9 (by rw[sT.e,kQ.e,YO.e,YP.e];rfl),BZ.e⟩
def fit{b:ao}{pv bv tv:υ}{w:Ψ}{B:Nat}(ai:bg w B b pv bv tv)(hB:B<=w.heap.size):
 ύ prog 40 #[η #[ξ κ b.ag,pv,bv,tv]] w λe w'=>e=Ω (.bool (sS b))/\Γ w.heap.size w w':=by
 have bT:=ψ ai;obtain⟨PA,np,pc,rfl,-⟩:=ai.pieces.Φ;obtain⟨TA,nt,tc,rfl,-⟩:=ai.aJ.Φ;obtain⟨A,m,c,rfl,-⟩:=ai.aF.Φ;have kb:Bk (w.alloc (Ξ #[ξ κ b.ag,ζ PA np pc,ζ A m c,ζ TA nt tc] 26)) w.heap.size 26 #[ξ κ b.ag,ζ PA np pc,ζ A m c,ζ TA nt tc]:=Bk.new _ _ _;have KB:=ψ kb;have fS:Hid (Γ w.heap.size w (w.alloc (Ξ #[ξ κ b.ag,ζ PA np pc,ζ A m c,ζ TA nt tc] 26))):=ψ ((Ϗ _ _).alloc (ϊ _) _);have mG:(w.alloc (Ξ #[ξ κ b.ag,ζ PA np pc,ζ A m c,ζ TA nt tc] 26)).heap.size=w.heap.size+1:=by simp
 have QH:Hid (ύ prog 20 #[η #[ξ κ b.ag,ζ PA np pc,ζ A m c,ζ TA nt tc]] (w.alloc (Ξ #[ξ κ b.ag,ζ PA np pc,ζ A m c,ζ TA nt tc] 26)) λe w'=>e=Ω (.bool (uU b))/\Γ (w.heap.size+1) (w.alloc (Ξ #[ξ κ b.ag,ζ PA np pc,ζ A m c,ζ TA nt tc] 26)) w'):=ψ (by
  have:=adh (bT.e.still (Δ.aK fS.e hB)) (by rw[mG];omega)
  rw[mG] at this;exact this)
 clear ai kb;cases hg:uU b with
 |true=>
  go_enter func40,Tryz.ntmps40;go_wp2
  go_at_call 20
  refine QH.e.mono ?_
  rintro e w1 ⟨rfl,ae⟩;rw[hg];have BX:=ψ (fS.e.trans (ae.mono (by omega)))
  clear ae;go_wp2;go_ret;exact⟨b9 (by unfold sS;rw[hg];rfl),BX.e⟩
 |false=>
  go_enter func40,Tryz.ntmps40;go_wp2
  go_at_call 20
  refine QH.e.mono ?_
  rintro e w1 ⟨rfl,ae⟩;rw[hg];have k1:=KB.e.below ae (by omega)
  have r0:=k1.cell 0;have r1:=k1.cell 1;have r2:=k1.cell 2;have r3:=k1.cell 3;have aN:w.heap.size<w1.heap.size:=k1.lt;have bx:Γ w.heap.size w w1:=fS.e.trans (ae.mono (by omega))
  have C69:Hid (ύ prog 69 #[η #[ξ κ b.ag,ζ PA np pc,ζ A m c,ζ TA nt tc]] w1 λe w'=>e=Ω (ξ κ (dF b))/\Γ w1.heap.size w1 w'):=ψ (ajY (bT.e.still (Δ.aK bx hB)) (by omega))
  have BX:=ψ bx;clear ae bx k1;go_wp2
  go_at_call 69
  refine C69.e.mono ?_
  rintro e w2 ⟨rfl,ak⟩;have BY:=ψ (BX.e.trans (ak.mono (by omega)))
  clear ak;go_wp2;go_ret;exact⟨b9 (by unfold sS;rw[hg];simp;rfl),BY.e⟩
def zn(n:Nat)(L:an):List Int:=(ϸ n).map L.at
def SA{n k:Nat}(L:an)(h:k<n):(zn n L)[k]?=φ (L.at k):=by
 unfold zn;rw[Ah9,Ai8 h];rfl
def adN(n:Nat)(L:an):(zn n L).length=n:=by simp[zn]
def aeo{L:an}{n:Nat}{ps:List Int}{lv pv:υ}{w:Ψ}{B:Nat}(hl:Row w B 1 cH lv (zn n L))(hp:Row w B 1 cH pv ps)(hk:∀k∈ps,0<=k/\k<n)(h3:ps.length<=1000)(hL:L.Ok):
 ύ prog 77 #[lv,pv] w λe w'=>e=Ω (ξ κ (sg L ps))/\w=w':=by
 obtain⟨A,m,c,rfl,e1,h1,eA,r1⟩:=hl.Φ;obtain⟨D,q,d,rfl,e2,h2,dW,r2⟩:=hp.Φ;rw[adN] at e1;obtain rfl:=e1;unfold ϗ at eA dW;have hq:q<=1000:=by omega
 have R1:=ψ r1;have R2:=ψ r2;have E2:=ψ e2;have HK:=ψ hk;have HL:=ψ hL;clear hl hp e2 r1 r2 hk hL;go_enter func77,Tryz.ntmps77;go_wp2
 go_loop [5,6] (λs k=>∃i:Nat,i<=q/\k=ξ κ i/\s=ξ κ (sg L (ps.take i))) (λ_ k=>q - (ϙ k).toNat)
 case atStart=>exact⟨0,ϡ _,rfl,rfl⟩
 case round=>
  obtain⟨i,hi,rfl,rfl⟩:=hrel;have vA:=(P5 L HL.e (ps.take i)).1;have vz:sg L (ps.take i)<=1000000:=by
   have:=(P5 L HL.e (ps.take i)).2;have:(ps.take i).length<=i:=List.length_take_le _ _;omega
  by_cases al:i<q
  ·obtain⟨ad,x,cs,rfl,aC,hx,rfl,-,au⟩:=R2.e i al
   have Vp:=HK.e x (ϩ hx);obtain⟨j,rfl⟩:=Aiz Vp.1;have DE:j<n:=by omega
   have Us:(j:Int)<n:=by omega
   have h0:=cC au (Δ.refl (B:=B) w) aC rfl;rw[Agx] at h0;obtain⟨Cs,y,bh,rfl,adT,hy,rfl,-,Ak⟩:=R1.e j DE;have h0':=cC Ak (Δ.refl (B:=B) w) adT rfl;rw[Agx] at h0';rw[SA L DE] at hy;cases hy;have HX:=ψ hx;have UI:=HL.e j;obtain⟨UI,aot⟩:=UI;clear hx au Ak Vp;go_wp2
   go_round
   case rel=>exact⟨i+1,by omega,by go_num,by rw[oJ HX.e,al1];rfl⟩
   case measure=>simp[ϙ];omega
  ·obtain rfl:i=q:=by omega
   go_wp2;go_ret;exact⟨aX (by rw[Agf (Agw E2.e)]),rfl⟩
def oC(n:Nat):List Int:=(ϸ n).map λ(k:Nat)=>(k:Int)
def aie{n:Nat}(hn:n<=1000)(w:Ψ):
 ύ prog 78 #[ξ κ n] w λe w'=>∃u,e=Ω u/\w'.ownsRow w.heap.size 3 1 u n ((oC n).map (ξ κ))/\Γ w.heap.size w w':=by
 obtain⟨i0,cR,cT,aN,ba⟩:=Ag9 Oo;have HI:=ψ (ϐ cR (ϐ cT (ϐ aN ba)));clear cR cT aN ba;go_enter func78,Tryz.ntmps78;go_wp2;go_loopw [3,4] (λo k wr=>∃i:Nat,i<=n/\k=ξ κ i/\wr.ownsRow w.heap.size 3 1 o i ((oC i).map (ξ κ))/\Γ w.heap.size w wr) (λ_ k _=>n - (ϙ k).toNat)
 case atStart=>exact⟨0,ϡ _,rfl,⟨by simp[oC],.inl ⟨rfl,rfl⟩⟩,Ϗ _ _⟩
 case round=>
  obtain⟨i,hi,rfl,aG,hb⟩:=hrel;have HO:=ψ aG;have HB:=ψ hb;have aI:=hb.size;by_cases al:i<n
  ·have NA:(i:Int)<n:=by omega
   clear hb aG;go_wp2_with (first
    | (at_builtin
       refine wpList_append_own _ rfl (.tmp 10) (.tmp 12) 33 rfl w.heap.size 3 i0 (ξ κ 0) 1 8 (U Tryz.underlying33) HI.e.1 HI.e.2.1 HI.e.2.2.1 HI.e.2.2.2 rfl (by decide) _ i _ rfl (HO.e.alloc _) ⟨wr.heap.size,0,ν⟩ 1 1 [ξ κ i] rfl rfl ?c1 ?c2 ?c3 ?c4 ?c5 ?_
       case c1=>(intro j u hu;match j,hu with|0,hu=>(simp at hu;subst hu;simp[go_sem,Addr.add]))
       case c2=>simp[Value.oneCell']
       case c3=>(simp only[ϗ];omega)
       case c4=>omega
       case c5=>(simp;omega)
       intro v' w1 cK dT _;have gW:=ψ cK;have gV:=ψ dT;clear cK dT))
   go_roundw;case rel=>exact⟨i+1,by omega,by go_num,by
    rw[show oC (i+1)=oC i++ [(i:Int)] by simp[oC,Ah2],Ahz];exact gW.e,
    (HB.e.trans ((Ϗ _ _).alloc aI _)).grown gV.e (by simp;omega) (λk hk=>ei HO.e k hk)⟩
   case measure=>simp[ϙ];omega
  ·obtain rfl:i=n:=by omega
   clear hb aG;go_wp2;go_ret;exact⟨_,rfl,HO.e,HB.e⟩
def aeD(b:ao)(L:an)(i:Nat):Bool:=match b.pieces[i]? with
 |some p=>bX (L.at i) p.len.lo p.len.hi
 |none=>θ
def D3(b:ao)(n:Nat)(L:an):Bool:=(ϸ n).all (aeD b L) && Pw L b.aJ
def B2(b:ao)(i:Nat)(ls:List an):List an:=match b.pieces[i]? with
 |some p=>ls.flatMap λL=>(mR p.len).map λk=>L.set i k
 |none=> []
def oL(b:ao):Nat->List an
 |0=> [⟨0,0,0⟩]
 |i+1=>B2 b i (oL b i)
def aia{α β γ:Type}(l:List α)(f:α->List β)(g:β->List γ):(l.flatMap f).flatMap g=l.flatMap λx=>(f x).flatMap g:=by
 induction l with
 |nil=>rfl
 |cons a l ih=>simp[Agt,ih]
def ah8{α:Type}(p:α->Bool)(l:List α):l.filter p=l.flatMap λx=>if p x then [x] else []:=by
 induction l with
 |nil=>rfl
 |cons a l ih=>by_cases h:p a<;>simp[List.filter_cons,h,ih]
def adC{b:ao}:∀(f i:Nat),i+f=b.pieces.length->(oL b (i+f)).filter (λL=>Pw L b.aJ)=(oL b i).flatMap (eu b f i)
 |0,i,_=>by rw[ah8];rfl
 |f+1,i,h=>by
  have e:i+(f+1)=(i+1)+f:=by omega
  have hi:i<b.pieces.length:=by omega
  obtain⟨p,hp⟩:∃p,b.pieces[i]?=φ p:=⟨_,Af9 hi⟩
  rw[e,adC f (i+1) (by omega)]
  show(B2 b i (oL b i)).flatMap _=_;unfold B2;rw[hp];simp only;rw[aia];congr 1;funext L;rw[R7 hp,List.flatMap_map]
def Sc(b:ao):(oL b b.pieces.length).filter (λL=>Pw L b.aJ)=aD b:=by
 have:=adC (b:=b) b.pieces.length 0 (by omega)
 rw[Aib] at this;rw[this];simp[oL,aD]
def yR{L:an}{i j:Nat}{k:Int}(hi:i<3):(L.set i k).at j=if j=i\/(i=2/\2<=j) then k else L.at j:=by
 unfold an.set an.at;rcases(by omega:i=0\/i=1\/i=2) with rfl|rfl|rfl
 ·rcases(by omega:j=0\/j=1\/2<=j) with rfl|rfl|h
  ·simp
  ·simp
  ·simp[show j≠0 by omega,show j≠1 by omega]
 ·rcases(by omega:j=0\/j=1\/2<=j) with rfl|rfl|h
  ·simp
  ·simp
  ·simp[show j≠0 by omega,show j≠1 by omega]
 ·rcases(by omega:j=0\/j=1\/2<=j) with rfl|rfl|h
  ·simp
  ·simp
  ·simp[show j≠0 by omega,show j≠1 by omega,h]
def apD{s:Span}{k:Int}(h:k∈mR s):s.lo<=k/\k<=s.hi:=by
 unfold mR at h;obtain⟨j,hj,rfl⟩:=Ahx.1 h;have:=Ahy.1 hj;omega
def SI{b:ao}(hv:Valid b):∀i,i<=b.pieces.length->∀L∈oL b i,L.Ok/\∀j,j<i->aeD b L j=θ
 |0,_,L,hL=>by
  simp[oL] at hL;subst hL;exact⟨λq=>by unfold an.at;simp,λj hj=>by omega⟩
 |i+1,hi,L,hL=>by
  obtain⟨p,hp⟩:∃p,b.pieces[i]?=φ p:=⟨_,Af9 (by omega)⟩
  have fZ:i<3:=by have:=hv.np;omega
  simp only[oL,B2,hp] at hL;obtain⟨M,hM,hL⟩:=Ahw.1 hL;obtain⟨k,hk,rfl⟩:=Ahx.1 hL;obtain⟨h1,h2⟩:=SI hv i (by omega) M hM
  have rH:=apD hk;have AD:=hv.piece p (ϩ hp);have l0:=AD.lo;have l1:=AD.hi;refine⟨λq=>?_,λj hj=>?_⟩
  ·rw[yR fZ]
   split
   ·omega
   ·exact h1 q
  ·rcases Agv.1 hj with h|rfl
   ·have:=h2 j h
    unfold aeD at this |-
    rw[yR fZ,if_neg (by omega)]
    exact this
   ·unfold aeD
    rw[hp,yR fZ,if_pos (Ajn rfl)];simp[bX,rH.1,rH.2]
end Go.Tw
namespace Go.Tw
variable [Go.Tw.aR]
open Go Go.Proofs Go.RowKit
end Go.Tw
namespace Go.Tw
variable [Go.Tw.aR]
open Go Go.Proofs Go.RowKit
end Go.Tw
namespace Go.Tw
variable [Go.Tw.aR]
open Go Go.Proofs Go.RowKit
end Go.Tw
namespace Go.Tw
variable [Go.Tw.aR]
open Go Go.Proofs Go.RowKit
end Go.Tw
namespace Go.Tw
variable [Go.Tw.aR]
open Go Go.Proofs Go.RowKit
end Go.Tw
namespace Go.Tw
variable [Go.Tw.aR]
open Go Go.Proofs Go.RowKit
def abS{b:ao}(hv:Valid b):∀i,i<=b.pieces.length->∀L∈oL b i,∀j,i<=j->j<3->L.at j=0
 |0,_,L,hL,j,_,_=>by
  simp[oL] at hL;subst hL;unfold an.at;simp
 |i+1,hi,L,hL,j,hj,DE=>by
  obtain⟨p,hp⟩:∃p,b.pieces[i]?=φ p:=⟨_,Af9 (by omega)⟩
  have fZ:i<3:=by have:=hv.np;omega
  simp only[oL,B2,hp] at hL;obtain⟨M,hM,hL⟩:=Ahw.1 hL;obtain⟨k,hk,rfl⟩:=Ahx.1 hL;rw[yR fZ,if_neg (by omega)]
  exact abS hv i (by omega) M hM j (by omega) DE
def ag0{b:ao}(hv:Valid b){L:an}(hL:L∈aD b):sg L (oC b.pieces.length)=L.sum:=by
 rw[<-Sc] at hL;have h0:=abS hv _ (ϊ _) L (Ajf.1 hL).1;have hn:=hv.np;have e0:L.at 0=L.a:=rfl;have e1:L.at 1=L.b:=rfl;have e2:L.at 2=L.c:=rfl;obtain⟨n,US⟩:∃n,n=b.pieces.length:=⟨_,rfl⟩
 rw[<-US] at h0 hn |-
 unfold an.sum;have:n=1\/n=2\/n=3:=by omega
 rcases this with rfl|rfl|rfl
 ·have h1:=h0 1 (by omega) (by omega)
  have h2:=h0 2 (by omega) (by omega)
  simp[sg,oC,Ah2];omega
 ·have h2:=h0 2 (by omega) (by omega)
  simp[sg,oC,Ah2];omega
 ·simp[sg,oC,Ah2];omega
def V6{α:Type}{f:List α->α->Int}:∀(l dw:List α),scan f dw l=0->∀(j:Nat) (y:α),l[j]?=φ y->f (dw++l.take j) y=0
 | [],_,_,j,y,h=>by simp at h
 |a::l,dw,h,j,y,hy=>by
  unfold scan at h;split at h
  ·rename_i h1;exact absurd h h1
  ·rename_i h1
   match j,hy with
   |0,hy=>
    simp at hy;subst hy;simpa using h1
   |j+1,hy=>
    have:=V6 l (dw++ [a]) h j y (by simpa using hy)
    simpa using this
def anj{b:ao}(hv:Valid b){i:Nat}{p:Piece}(hp:b.pieces[i]?=φ p){x:Int}(hx:x∈Il b i):p.len.lo<=x/\x<=p.len.hi:=by
 obtain⟨L,hL,rfl⟩:=Ahx.1 (((V4 b i).2 x).1 hx);rw[<-Sc] at hL;have hi:=(ϱ.1 hp).1
 have:=(SI hv _ (ϊ _) L (Ajf.1 hL).1).2 i hi;unfold aeD at this;rw[hp] at this;exact nJ this
def anl{b:ao}(hv:Valid b){i:Nat}{p:Piece}(hp:b.pieces[i]?=φ p):(Il b i).length<=3:=by
 have hw:=(hv.piece p (ϩ hp)).wide;have key:∀(l:List Int),l.Pairwise (· < ·)->(∀x∈l,p.len.lo<=x/\x<=p.len.hi)->l.length<=3:=by
  intro l hr dL;match l,hr,dL with
  | [],_,_=>simp
  | [_],_,_=>simp
  | [_,_],_,_=>simp
  | [_,_,_],_,_=>simp
  |a::c::d::e::l,hr,dL=>
   simp only[List.pairwise_cons,ϫ,forall_eq_or_imp] at hr dL;omega
 exact key _ (V4 b i).1 λx hx=>anj hv hp hx
end Go.Tw
namespace Go.Tw
variable [Go.Tw.aR]
open Go Go.Proofs Go.RowKit
end Go.Tw
namespace Go.Tw
variable [Go.Tw.aR]
open Go Go.Proofs Go.RowKit
end Go.Tw
namespace Go.Tw
variable [Go.Tw.aR]
open Go Go.Proofs Go.RowKit
end Go.Tw
namespace Go.Tw
variable [Go.Tw.aR]
open Go Go.Proofs Go.RowKit
end Go.Tw
namespace Go.Tw
variable [Go.Tw.aR]
open Go Go.Proofs Go.RowKit
end Go.Tw
namespace Go.Tw
variable [Go.Tw.aR]
open Go Go.Proofs Go.RowKit
def apS{l:List an}{P:an->Bool}(aw:l≠ []):za (iI P l) l.length=1↔∀L∈l,P L=θ:=by
 have hl:=List.length_pos_iff.2 aw;have hf:=Agd P l;unfold za iI;constructor
 ·intro h
  split at h
  ·cases h
  ·split at h
   ·rename_i _ h2
    exact Ajg.1 (by omega)
   ·cases h
 ·intro h
  have:=Ajg.2 h;rw[if_neg (by omega),if_pos (by omega)]
def apT{l:List an}{P:an->Bool}:za (iI P l) l.length=2↔∀L∈l,P L≠θ:=by
 unfold za iI;constructor
 ·intro h
  split at h
  ·rename_i h1
   have h2:=List.length_eq_zero_iff.1 (show(l.filter P).length=0 by omega)
   rw[Ajh] at h2;exact h2
  ·split at h<;>cases h
 ·intro h
  have:l.filter P=[]:=Ajh.2 h;rw[this];simp
end Go.Tw
namespace Go.Tw
variable [Go.Tw.aR]
open Go Go.Proofs Go.RowKit
end Go.Tw
namespace Go.Tw
variable [Go.Tw.aR]
open Go Go.Proofs Go.RowKit
def adQ{L M:an}(h:∀j,j<3->L.at j=M.at j):L=M:=by
 have h0:L.a=M.a:=h 0 (by omega)
 have h1:L.b=M.b:=h 1 (by omega)
 have h2:L.c=M.c:=h 2 (by omega)
 cases L;cases M
 simp_all
def apM{s:Span}{k:Int}(h1:s.lo<=k)(h2:k<=s.hi):k∈mR s:=by
 unfold mR;exact Ahx.2 ⟨(k - s.lo).toNat,Ahy.2 (by omega),by omega⟩
def abJ{b:ao}(hv:Valid b):∀i,i<=b.pieces.length->∀L:an,(∀j,j<i->aeD b L j=θ)->(∀j,i<=j->j<3->L.at j=0)->L∈oL b i
 |0,_,L,_,h0=>by
  simp only[oL,Af2];exact adQ λj hj=>by
   rw[h0 j (by omega) hj]
   unfold an.at;simp
 |i+1,hi,L,h1,h0=>by
  obtain⟨p,hp⟩:∃p,b.pieces[i]?=φ p:=⟨_,Af9 (by omega)⟩
  have fZ:i<3:=by have:=hv.np;omega
  have hM:=abJ hv i (by omega) (L.set i 0) (λj hj=>by
   have:=h1 j (by omega)
   unfold aeD at this |-
   rw[yR fZ,if_neg (by omega)]
   exact this) (λj hj DE=>by
   rw[yR fZ];split
   ·rfl
   ·exact h0 j (by omega) DE)
  have hk:=h1 i (by omega)
  unfold aeD at hk;rw[hp] at hk;have hk:=nJ hk;simp only[oL,B2,hp];refine Ahw.2 ⟨_,hM,Ahx.2 ⟨L.at i,apM hk.1 hk.2,?_⟩⟩
  refine adQ λj hj=>?_
  rw[yR fZ];split
  ·rename_i h
   rcases h with rfl| ⟨rfl,h⟩
   ·rfl
   ·rw[show j=2 by omega]
  ·rw[yR fZ,if_neg (by assumption)]
def SL(l:List Int){k:Nat}(hk:k<3):(fK l).at k=l[k]?.getD 0:=by
 have:k=0\/k=1\/k=2:=by omega
 rcases this with rfl|rfl|rfl<;>rfl
def adO{l:List Int}{n:Nat}(hl:l.length=n)(hn:n<=3):zn n (fK l)=l:=by
 apply Aji;intro k;by_cases hk:k<n
 ·rw[SA _ hk,SL _ (by omega),Af9 (by omega)];rfl
 ·rw[Ah3 (by rw[adN];omega),Ah3 (by omega)]
def Q8{b:ao}(hv:Valid b){l:List Int}(hl:l.length=b.pieces.length):fK l∈aD b↔D3 b b.pieces.length (fK l)=θ:=by
 rw[<-Sc];unfold D3;have hn:=hv.np;rw[Ajf,Aa3,List.all_eq_true];refine and_congr_left λ_=>⟨λh j hj=>(SI hv _ (ϊ _) _ h).2 j (Ahy.1 hj),λh=>abJ hv _ (ϊ _) _ (λj hj=>h j (Ahy.2 hj)) λj hj DE=>?_⟩
 rw[SL _ DE,Ah3 (by omega)];rfl
end Go.Tw
namespace Go.Tw
variable [Go.Tw.aR]
open Go Go.Proofs Go.RowKit
end Go.Tw
namespace Go.Tw
variable [Go.Tw.aR]
open Go Go.Proofs Go.RowKit
end Go.Tw
namespace Go.Tw
variable [Go.Tw.aR]
open Go Go.Proofs Go.RowKit
end Go.Tw
namespace Go.Tw
variable [Go.Tw.aR]
open Go Go.Proofs Go.RowKit
def o5(b:ao)(l:List Int):Int:=if dF b≠0 then dF b else qL b l
def tn(b:ao)(l:List Int):Bool:=if o5 b l=0 then D3 b b.pieces.length (fK l) else χ
def wF(M L:an):Bool:=(L.a==M.a && (L.b==M.b && L.c==M.c))
def adv(M L:an):wF M L=θ↔L=M:=by
 obtain⟨a,b,c⟩:=L;obtain⟨d,e,f⟩:=M;unfold wF;simp
def ahe(l:List an)(M:an):l.any (wF M)=decide (M∈l):=by
 rw[Bool.eq_iff_iff,Ajd,decide_eq_true_iff];exact⟨λ⟨x,h,e⟩=>by rw[<-(adv M x).1 e];exact h,λh=>⟨M,h,(adv M M).2 rfl⟩⟩
def aic(L M:an)(w:Ψ):(Op.equalIn 10000 128 (η #[ξ κ L.a,ξ κ L.b,ξ κ L.c]) (η #[ξ κ M.a,ξ κ M.b,ξ κ M.c])).run prog w=.ok (wF M L) w:=by
 obtain⟨i0,cR,cT,aN,ba⟩:=Ag9 Oo;have hc:prog.cellsOf 3=1:=by unfold Program.cellsOf;rw[cR];exact aN
 rw[run_equalIn_array (P:=prog) w 9999 _ _ (U Tryz.underlying128) cR,hc];have e:ϸ 3=[0,1,2]:=rfl;rw[e];unfold wF;cases h0:(L.a==M.a)<;>cases h1:(L.b==M.b)<;>cases h2:(L.c==M.c)<;>simp[Op.eqItems,go_sem,h0,h1,h2]
def apC{L M:an}{w:Ψ}{g:Nat}(hg:Bk w g 128 #[ξ κ M.a,ξ κ M.b,ξ κ M.c]):
 ύ prog 151 #[η #[ξ κ L.a,ξ κ L.b,ξ κ L.c],π (φ ⟨g,0,ν⟩)] w λe w'=>e=Ω (.bool (wF M L))/\Γ w.heap.size w w':=by
 have k0:=hg.cell 0;have k1:=hg.cell 1;have k2:=hg.cell 2;have hl:=hg.lt;have dC:g<=w.heap.size:=by omega
 have hq:=aic L M;clear hg;go_enter func151,Tryz.ntmps151;go_wp2;go_ret;exact⟨b9 rfl,(Ϗ _ _).alloc (ϊ _) _⟩
def amG{b:ao}{l:List Int}(h0:dF b=0)(h1:qL b l=0):(aD b).any (wF (fK l))=tn b l:=by
 have hv:=iy h0;have hs:o5 b l=0:=by unfold o5;rw[if_neg (by simpa using h0),h1]
 unfold tn;rw[if_pos hs,ahe,Bool.eq_iff_iff,decide_eq_true_iff];exact Q8 hv (ahl h1).1
def amF{w:Ψ}{b:ao}{l:List Int}{pv bv tv lv:υ}{B:Nat}(hB:B<=w.heap.size)(ai:bg w B b pv bv tv)(hl:Row w B 1 cH lv l):
 ύ prog 73 #[η #[ξ κ b.ag,pv,bv,tv],lv] w λe w'=>e=Ω (μ #[.bool (tn b l),ξ κ (o5 b l)])/\Γ w.heap.size w w':=by
 have bT:=ψ ai;have HL:=ψ hl;obtain⟨A1,n1,c1,rfl,-⟩:=ai.pieces.Φ;obtain⟨A2,n2,c2,rfl,-⟩:=ai.aF.Φ;obtain⟨A3,n3,c3,rfl,-⟩:=ai.aJ.Φ;obtain⟨A4,n4,c4,rfl,-⟩:=hl.Φ;clear ai hl;obtain⟨W0,z8⟩:∃W0,W0=w.alloc (Ξ #[ξ κ b.ag,ζ A1 n1 c1,ζ A2 n2 c2,ζ A3 n3 c3] 26):=⟨_,rfl⟩
 have Z0:W0.heap.size=w.heap.size+1:=by rw[z8];simp
 have BW:Hid (Γ w.heap.size w W0):=ψ (by rw[z8];exact(Ϗ _ _).alloc (ϊ _) _)
 have KB:Hid (Bk W0 w.heap.size 26 #[ξ κ b.ag,ζ A1 n1 c1,ζ A2 n2 c2,ζ A3 n3 c3]):=ψ (by rw[z8];exact Bk.new _ _ _)
 have S0:Hid (Δ B w W0):=ψ (by rw[z8];exact(Δ.refl w).alloc hB _)
 have C1:=ψ (LS (bT.e.still S0.e) (by omega))
 have ST:Hid (∀W,Γ (w.heap.size+1) W0 W->Δ B w W/\B<=W.heap.size/\w.heap.size+1<=W.heap.size):=ψ λW hW=>by
  have hs:=hW.size;exact⟨S0.e.trans (Δ.aK hW (by omega)),by omega,by omega⟩
 have C2:Hid (∀W,Γ (w.heap.size+1) W0 W->ύ prog 127 #[η #[ξ κ b.ag,ζ A1 n1 c1,ζ A2 n2 c2,ζ A3 n3 c3],ζ A4 n4 c4] W λe w'=>e=Ω (ξ κ (qL b l))/\Γ W.heap.size W w'):=ψ λW hW=>by
  obtain⟨st,h1,h2⟩:=ST.e W hW;exact ahh (bT.e.still st) (HL.e.still st λ_ _ h=>h) h1
 have IV:Hid (dF b=0->qL b l=0->(aD b).any (wF (fK l))=tn b l):=ψ λh0 h1=>amG h0 h1
 have FS:Hid (o5 b l=if dF b≠0 then dF b else qL b l):=ψ rfl
 have FV:Hid (o5 b l≠0->tn b l=χ):=ψ λh=>by unfold tn;rw[if_neg h]
 by_cases q1:dF b=0
 ·rw[q1] at C1
  by_cases q2:qL b l=0
  ·have F:Hid (o5 b l=0/\(aD b).any (wF (fK l))=tn b l):=ψ ⟨by rw[FS.e,if_neg (by simpa using q1),q2],IV.e q1 q2⟩
   rw[q2] at C2;have hv:=ψ (iy q1);have hn:=ψ (ahl q2);have C3:Hid (∀W,Γ (w.heap.size+1) W0 W->ύ prog 128 #[ζ A4 n4 c4] W λe w'=>e=Ω (η #[ξ κ (fK l).a,ξ κ (fK l).b,ξ κ (fK l).c])/\Γ W.heap.size W w'):=ψ λW hW=>by
     obtain⟨st,h1,h2⟩:=ST.e W hW;exact ag7 (HL.e.still st λ_ _ h=>h) h1 (by rw[hn.e.1];exact hv.e.np.2)
   have C4:Hid (∀W,Γ (w.heap.size+1) W0 W->ύ prog 96 #[η #[ξ κ b.ag,ζ A1 n1 c1,ζ A2 n2 c2,ζ A3 n3 c3]] W λe w'=>∃v,e=Ω v/\qQ w' W.heap.size v (aD b)/\Γ W.heap.size W w'):=ψ λW hW=>by
     obtain⟨st,h1,h2⟩:=ST.e W hW;exact all h1 (bT.e.still st) hv.e
   obtain⟨M,hM⟩:∃M,M=fK l:=⟨_,rfl⟩
   rw[<-hM] at C3 F;obtain⟨⟨ma,mb,mc⟩,rfl⟩:∃L,L=M:=⟨_,rfl⟩
   simp only at C3;clear q1 q2 IV FS FV hM;go_enter func73,Tryz.ntmps73;go_wp2;rw[<-z8];clear z8
   go_at_call 68
   refine C1.e.mono ?_
   rintro e w1 ⟨rfl,ae⟩;have H1:=ψ (ae.mono (show w.heap.size+1<=_ by omega))
   have kb:=KB.e.below H1.e (by omega)
   have f0:=kb.cell 0;have f1:=kb.cell 1;have f2:=kb.cell 2;have f3:=kb.cell 3;have z1:=kb.lt;clear ae kb;go_wp2
   go_at_call 127
   refine(C2.e _ (H1.e.alloc (by omega) _)).mono ?_
   rintro e w2 ⟨rfl,ak⟩;have K2:=ψ ((Bk.new w1 117 #[ξ κ b.ag,ζ A1 n1 c1,ζ A2 n2 c2,ζ A3 n3 c3]).below ak (by simp))
   have H2:=ψ ((H1.e.alloc (show w.heap.size+1<=w1.heap.size by omega) (Ξ #[ξ κ b.ag,ζ A1 n1 c1,ζ A2 n2 c2,ζ A3 n3 c3] 117)).trans (ak.mono (by simp;omega)))
   have z2:=K2.e.lt;clear ak;go_wp2
   go_at_call 128
   refine(C3.e _ H2.e).mono ?_
   rintro e w3 ⟨rfl,bD⟩;have K3:=ψ (K2.e.below bD K2.e.lt);have H3:=ψ (H2.e.trans (bD.mono (by omega)))
   have e0: w3.cell? ⟨w1.heap.size,0,ν⟩=φ (ξ κ b.ag):=K3.e.cell 0;have e1: w3.cell? ⟨w1.heap.size,1,ν⟩=φ (ζ A1 n1 c1):=K3.e.cell 1;have e2: w3.cell? ⟨w1.heap.size,2,ν⟩=φ (ζ A2 n2 c2):=K3.e.cell 2;have e3: w3.cell? ⟨w1.heap.size,3,ν⟩=φ (ζ A3 n3 c3):=K3.e.cell 3;have z3:=K3.e.lt;clear bD f0 f1 f2 f3;go_wp2
   go_at_call 96
   refine(C4.e _ (H3.e.alloc (by omega) _)).mono ?_
   rintro e w4 ⟨v,rfl,aG,cO⟩;have K4:=ψ ((Bk.new w3 128 #[ξ κ ma,ξ κ mb,ξ κ mc]).below cO (by simp))
   have H4:=ψ ((H3.e.alloc (show w.heap.size+1<=w3.heap.size by omega) (Ξ #[ξ κ ma,ξ κ mb,ξ κ mc] 128)).trans (cO.mono (by simp;omega)))
   have C5:Hid (ύ prog 150 #[v,fv 151 #[π (φ ⟨w3.heap.size,0,ν⟩)]] w4 λe w'=>e=Ω (.bool ((aD b).any (wF ⟨ma,mb,mc⟩)))/\Γ w4.heap.size w4 w'):=ψ (aaW (wF ⟨ma,mb,mc⟩) call151 aG.row (ϊ _) λW x hW _=>app1 (apC (K4.e.below hW K4.e.lt)))
   obtain⟨A9,n9,c9,rfl⟩:=j8 aG;clear cO aG;go_wp2;refine C5.e.mono ?_
   rintro e w5 ⟨rfl,eR⟩;have H5:=ψ (H4.e.trans (eR.mono (by have:=H4.e.size;omega)))
   clear eR;go_wp2
   go_ret2
   exact⟨TD F.e.2 F.e.1.symm,BW.e.trans (H5.e.mono (by omega))⟩
  ·have F:Hid (o5 b l=qL b l/\tn b l=χ):=ψ (by
     have e:o5 b l=qL b l:=by rw[FS.e,if_neg (by simpa using q1)]
     exact⟨e,FV.e (by rw[e];exact q2)⟩)
   obtain⟨s2,h2⟩:∃s,s=qL b l:=⟨_,rfl⟩
   rw[<-h2] at C2 F q2;have hz:(s2 !=0)=θ:=by simpa using q2
   clear q1 q2 IV FS FV h2;go_enter func73,Tryz.ntmps73;go_wp2;rw[<-z8];clear z8
   go_at_call 68
   refine C1.e.mono ?_
   rintro e w1 ⟨rfl,ae⟩;have H1:=ψ (ae.mono (show w.heap.size+1<=_ by omega))
   have kb:=KB.e.below H1.e (by omega)
   have f0:=kb.cell 0;have f1:=kb.cell 1;have f2:=kb.cell 2;have f3:=kb.cell 3;have z1:=kb.lt;clear ae kb;go_wp2
   go_at_call 127
   refine(C2.e _ (H1.e.alloc (by omega) _)).mono ?_
   rintro e w2 ⟨rfl,ak⟩;have H2:=ψ ((H1.e.alloc (show w.heap.size+1<=w1.heap.size by omega) (Ξ #[ξ κ b.ag,ζ A1 n1 c1,ζ A2 n2 c2,ζ A3 n3 c3] 117)).trans (ak.mono (by simp;omega)))
   clear ak;go_wp2
   go_ret2
   exact⟨TD F.e.2.symm F.e.1.symm,BW.e.trans (H2.e.mono (by omega))⟩
 ·have F:Hid (o5 b l=dF b/\tn b l=χ):=ψ (by
   have e:o5 b l=dF b:=by rw[FS.e,if_pos q1]
   exact⟨e,FV.e (by rw[e];exact q1)⟩)
  obtain⟨s1,h1⟩:∃s,s=dF b:=⟨_,rfl⟩
  rw[<-h1] at C1 F q1;have hz:(s1 !=0)=θ:=by simpa using q1
  clear q1 IV FS FV h1 C2;go_enter func73,Tryz.ntmps73;go_wp2;rw[<-z8];clear z8
  go_at_call 68
  refine C1.e.mono ?_
  rintro e w1 ⟨rfl,ae⟩;have H1:=ψ (ae.mono (show w.heap.size+1<=_ by omega))
  clear ae;go_wp2
  go_ret2
  exact⟨TD F.e.2.symm F.e.1.symm,BW.e.trans (H1.e.mono (by omega))⟩
def yQ(ps:List Nat)(i:Nat)(p:Piece):Int:=p.len.lo+((pn ps i:Nat):Int).tmod (p.len.hi - p.len.lo+1)
def en(b:ao)(ps:List Nat):List Int:=b.pieces.mapIdx (yQ ps)
def z7(b:ao)(ps:List Nat):(en b ps).length=b.pieces.length:=by simp[en]
def S4(b:ao)(ps:List Nat)(i:Nat):(en b ps)[i]?=(b.pieces[i]?).map (yQ ps i):=by simp[en]
def S3{p:Piece}(h:Rm p)(ps:List Nat)(i:Nat):p.len.lo<=yQ ps i p/\yQ ps i p<=p.len.hi:=by
 have:=h.le;unfold yQ;have h1:=Int.emod_nonneg ((pn ps i:Nat):Int) (b:=p.len.hi - p.len.lo+1) (by omega)
 have h2:=Int.emod_lt_of_pos ((pn ps i:Nat):Int) (b:=p.len.hi - p.len.lo+1) (by omega)
 rw[Ai0 (by omega)]
 omega
def Tf{b:ao}(hv:Valid b)(ps:List Nat):∀n∈en b ps,1<=n/\n<=40:=by
 intro n hn;obtain⟨i,hi⟩:=Ah0 hn
 rw[S4] at hi;cases e:b.pieces[i]? with
 |none=>rw[e] at hi;cases hi
 |some p=>
  rw[e] at hi;cases hi;have hp:=hv.piece p (ϩ e);have:=S3 hp ps i;have:=hp.lo;have:=hp.hi;omega
def xa(L:an)(t:Tape):Tape:=⟨t.pieces,⟨min t.sum.lo (sg L t.pieces),max t.sum.hi (sg L t.pieces)⟩⟩
def sc(b:ao)(L:an):ao:={b with aJ:=b.aJ.map (xa L)}
def T1{L:an}(hL:∀i,0<=L.at i/\L.at i<=40):∀l:List Int,0<=sg L l/\sg L l<=40 * l.length
 | []=>by simp[sg]
 |k::l=>by
  have:=T1 hL l;have:=hL k.toNat;simp[sg] at *;omega
def R9{l:List Int}(h:∀n∈l,1<=n/\n<=40):∀i,0<=(fK l).at i/\(fK l).at i<=40:=by
 have key:∀i:Nat,0<=(l[i]?.getD 0:Int)/\(l[i]?.getD 0:Int)<=40:=by
  intro i;cases e:l[i]? with
  |none=>exact⟨by simp,by simp⟩
  |some n=>have:=h n (ϩ e);simp;omega
 intro i;unfold an.at fK;split
 ·exact key 0
 ·split
  ·exact key 1
  ·exact key 2
def apX{np:Int}(hn:0<=np)(lQ:np<=3){t:Tape}{L:an}(hL:∀i,0<=L.at i/\L.at i<=40)(h:kh np t=0):kh np (xa L t)=0:=by
 unfold kh xa at *;simp only;split at h
 ·omega
 ·rename_i h1
  rw[if_neg h1];split at h
  ·contradiction
  ·rename_i h2
   rw[if_neg h2];have dW:eE np ν t.pieces=0:=by simpa using h2
   have hr:=akl hn dW;have hs:=T1 hL t.pieces;split at h
   ·rename_i h3
    have h4:=alA h3;rw[if_pos];unfold mO;simp;omega
   ·omega
def aeu{b:ao}{L:an}(hL:∀i,0<=L.at i/\L.at i<=40)(h:dF b=0):dF (sc b L)=0:=by
 have hv:=iy h;have h0:=Xa _ _ h;unfold dF;refine se λj y hy=>?_
 have hm:= ϩ hy;unfold jP at hm h0;simp only[sc,ϫ,List.not_mem_nil,or_false] at hm;have g1:=h0 (if bX b.ag 0 3=θ then 0 else 1) (by simp)
 have g2:=h0 (iw b.pieces) (by simp)
 have g3:=h0 (kC b.aF) (by simp)
 have g4:=h0 (kK b.pieces.length b.aJ) (by simp)
 rcases hm with rfl|rfl|rfl|rfl
 ·exact g1
 ·exact g2
 ·exact g3
 ·unfold kK at g4 |-
  rw[Ah8];split at g4
  ·omega
  ·rename_i h1
   rw[if_neg h1];refine se λj y hy=>?_
   rw[Ah9] at hy
   cases e:b.aJ[j]? with
   |none=>rw[e] at hy;cases hy
   |some t=>
    rw[e] at hy;cases hy;exact apX (by omega) (by have:=hv.np;omega) hL (V6 _ _ g4 j t e)
def apf{b:ao}(h:dF b=0)(ps:List Nat):fK (en b ps)∈aD (sc b (fK (en b ps))):=by
 have hv:=iy h;have K7:=iy (aeu (R9 (Tf hv ps)) h);refine(Q8 K7 (by rw[z7];rfl)).2 ?_
 unfold D3;rw[Aa3,List.all_eq_true];refine⟨λi hi=>?_,?_⟩
 ·have bu:i<b.pieces.length:=by simpa [sc] using hi
  unfold aeD;have e:(sc b (fK (en b ps))).pieces[i]?=φ b.pieces[i]:=Af9 bu
  rw[e];have hp:=hv.piece b.pieces[i] (List.getElem_mem bu);rw[SL _ (by have:=hv.np;omega),S4,Af9 bu]
  have:=S3 hp ps i;simp[bX];omega
 ·unfold Pw
  simp only[Bool.not_eq_true',Aje];intro t ht;obtain⟨t0,vB,rfl⟩:=Ahx.1 (by simpa [sc] using ht:t∈b.aJ.map _)
  unfold FO xa bX;simp;omega
def anw{b:ao}{L:an}(h:L∈aD b)(k:Nat):L.at k∈Il b k:=by
 have hs:=af3 (zs:=ga ((aD b).map (·.at k))) (by
  have:=Ai6 (le:=λx y:Int=>decide (x<=y)) (λa b c h1 h2=>by simp at *;omega) (λa b=>by simp;omega) ((aD b).map (·.at k))
  exact this.imp λh=>by simpa using h)
 exact(V4 b k).2 _|>.2 (Ahx.2 ⟨L,h,rfl⟩)
def apW(l:List an):∀(s:Span),(l.foldl BE s).lo<=s.lo/\s.hi<=(l.foldl BE s).hi/\∀L∈l,(l.foldl BE s).lo<=L.sum/\L.sum<=(l.foldl BE s).hi:=by
 induction l with
 |nil=>intro s;exact⟨Aix _,Aix _,by simp⟩
 |cons a l ih=>
  intro s;obtain⟨h1,h2,h3⟩:=ih (BE s a);simp only[List.foldl_cons];have e1:(BE s a).lo=min s.lo a.sum:=rfl;have e2:(BE s a).hi=max s.hi a.sum:=rfl;rw[e1] at h1;rw[e2] at h2;refine⟨by omega,by omega,λL hL=>?_⟩
  rcases ϫ.1 hL with rfl|hL
  ·omega
  ·exact h3 L hL
def apV{l:List an}{L:an}(h:L∈l):(oK l).lo<=L.sum/\L.sum<=(oK l).hi:=by
 cases l with
 |nil=>cases h
 |cons a l=>
  unfold oK;obtain⟨h1,h2,h3⟩:=apW l ⟨a.sum,a.sum⟩;rcases ϫ.1 h with rfl|h
  ·exact⟨h1,h2⟩
  ·exact h3 L h
def apn{b:ao}{ps:List Nat}{i:Nat}{p:Piece}(h:b.pieces[i]?=φ p):(en b ps).take (i+1)=(en b ps).take i++ [yQ ps i p]:=by
 rw[List.take_add_one,S4,h];rfl
def apd{b:ao}{ps:List Nat}{pv bv tv kv:υ}{w:Ψ}{B:Nat}(ai:bg w B b pv bv tv)(hp:Row w B 1 yc kv ps)(hB:B<=w.heap.size)(hv:Valid b):
 ύ prog 65 #[η #[ξ κ b.ag,pv,bv,tv],kv] w λe w'=>∃u,e=Ω u/\w'.ownsRow w.heap.size 3 1 u b.pieces.length ((en b ps).map (ξ κ))/\Γ w.heap.size w w':=by
 obtain⟨i0,cR,cT,aN,ba⟩:=Ag9 Oo;have HI:=ψ (ϐ cR (ϐ cT (ϐ aN ba)));obtain⟨A1,n1,c1,rfl,e1,h1,eA,r1⟩:=ai.pieces.Φ;obtain⟨A2,n2,c2,rfl,-⟩:=ai.aF.Φ;obtain⟨A3,n3,c3,rfl,-⟩:=ai.aJ.Φ;obtain⟨A4,n4,c4,rfl,-⟩:=hp.Φ;unfold ϗ at eA;have qx:n1<=3:=by have:=hv.np;omega
 have E:=ψ e1;have R1:=ψ r1;have HP:=ψ hp;have HV:=ψ hv;clear ai hp e1 r1 hv cR cT aN ba;go_enter func65,Tryz.ntmps65;go_wp2;have kk:=ψ (Bk.new w 26 #[ξ κ b.ag,ζ A1 n1 c1,ζ A2 n2 c2,ζ A3 n3 c3]);go_loopw [5,6] (λo u wr=>∃(i:Nat) (v:υ),i<=n1/\u=ξ κ i/\o=v/\wr.ownsRow (w.heap.size+1) 3 1 v i (((en b ps).take i).map (ξ κ))/\Γ (w.heap.size+1) (w.alloc (Ξ #[ξ κ b.ag,ζ A1 n1 c1,ζ A2 n2 c2,ζ A3 n3 c3] 26)) wr) (λ_ u _=>n1 - (ϙ u).toNat)
 case atStart=>exact⟨0,_,ϡ _,rfl,rfl,⟨by simp,.inl ⟨rfl,rfl⟩⟩,Ϗ _ _⟩
 case round=>
  obtain⟨i,o,hi,rfl,vv,aG,hb⟩:=hrel;obtain rfl:=vv.symm;have HO:=ψ aG;have HB:=ψ hb;have dY:=hb.size;have aI:w.heap.size+1<=wr.heap.size:=by simpa using dY
  have kb:=kk.e.below hb (by simp)
  have p1: wr.cell? ⟨w.heap.size,1,ν⟩=φ (ζ A1 n1 c1):=kb.cell 1;have st:Δ B w wr:=((Δ.refl w).alloc hB _).trans (Δ.aK hb (by omega))
  by_cases al:i<n1
  ·obtain⟨ad,x,cs,rfl,aC,hx,⟨rfl,-⟩,-,au⟩:=R1.e i al
   have nI:=HV.e.piece x (ϩ hx);have o1:=nI.lo;have o2:=nI.le;have o3:=nI.hi;have g1:=bK au st aC 0 rfl;have g2:=bK au st aC 1 rfl;have NA:(i:Int)<n1:=by omega
   obtain⟨W5,MK⟩:∃W5,W5=wr.alloc (Ξ #[ξ κ x.len.lo,ξ κ x.len.hi] 37):=⟨_,rfl⟩
   have Z5:W5.heap.size=wr.heap.size+1:=by rw[MK];simp
   have ZX:Hid (W5.ownsRow (w.heap.size+1) 3 1 o i (((en b ps).take i).map (ξ κ))):=ψ (by rw[MK];exact HO.e.alloc _)
   have mi:Hid (Γ (w.heap.size+1) wr W5):=ψ (by rw[MK];exact(Ϗ _ _).alloc aI _)
   have k5:Bk W5 wr.heap.size 37 #[ξ κ x.len.lo,ξ κ x.len.hi]:=by rw[MK];exact Bk.new _ _ _
   have u0: W5.cell? ⟨wr.heap.size,0,ν⟩=φ (ξ κ x.len.lo):=k5.cell 0;have u1: W5.cell? ⟨wr.heap.size,1,ν⟩=φ (ξ κ x.len.hi):=k5.cell 1;have hl5:=k5.lt;have CH:Hid (ύ prog 42 #[ζ A4 n4 c4,ξ κ i] W5.drew λe w'=>e=Ω (ξ κ (pn ps i:Nat))/\W5.drew=w'):=ψ (by
    have hr:Row W5.drew B 1 yc (ζ A4 n4 c4) ps:=HP.e.still (st.trans (Δ.aK (iY mi.e) (by omega))) λ_ _ h=>h
    have:=adi hr (k:=(i:Int)) (by omega) (by omega)
    rwa[Int.toNat_natCast] at this)
   have HX:=ψ hx;have v1:Ϛ.wrap (x.len.hi - x.len.lo)=x.len.hi - x.len.lo:=Aio _ (by omega)
   have v2:Ϛ.wrap (x.len.hi - x.len.lo+1)=x.len.hi - x.len.lo+1:=Aio _ (by omega)
   have v3:x.len.hi - x.len.lo+1≠0:=by omega
   have hra:=S3 nI ps i;have v4:Ϛ.wrap (x.len.lo+((pn ps i:Nat):Int).tmod (x.len.hi - x.len.lo+1))=yQ ps i x:=by
    show Ϛ.wrap (yQ ps i x)=_;exact Aio _ (by omega)
   clear hb kb aG st dY hx k5 nI au;go_wp2;rw[<-MK];clear MK;go_region_law (first
    | (go_simp;go_at_call 42;refine CH.e.mono ?_;rintro e w' ⟨rfl,rfl⟩)
    | (refine ug rfl (.tmp 21) (.tmp 35) 33 rfl (w.heap.size+1) 3 i0 (ξ κ 0) 1 8 (U Tryz.underlying33) HI.e.1 HI.e.2.1 HI.e.2.2.1 HI.e.2.2.2 rfl (by decide) _ i _ rfl (show World.ownsRow _ _ _ _ _ _ _ from ZX.e.alloc _) ⟨wr.heap.size+1,0,ν⟩ 1 1 [ξ κ (yQ ps i x)] rfl rfl ?c1 ?c2 ?c3 ?c4 ?c5 ?_
       case c1=>exact LN (Bk.cG (w:=W5) (g:=wr.heap.size+1) Z5.symm 3 _).drew
       case c2=>simp[Value.oneCell']
       case c3=>(simp only[ϗ];omega)
       case c4=>omega
       case c5=>(simp;omega)
       intro v' w1 cK dT;have gW:=ψ cK;have gV:=ψ dT;clear cK dT))
   all_goals
    go_wp2;go_roundw;case rel=>exact⟨i+1,_,by omega,by go_num,rfl,by
     rw[apn HX.e,Ahz];exact gW.e,(HB.e.trans (mi.e.trans (iY ((Ϗ _ _).alloc (by omega) _)))).grown gV.e (by simp;omega) (λk hk=>ei ZX.e k hk)⟩
    case measure=>simp[ϙ];omega
  ·obtain rfl:i=n1:=by omega
   clear hb kb dY;go_wp2;go_ret;refine⟨_,rfl,?_,iH HB.e⟩
   have e:(en b ps).take b.pieces.length=en b ps:=Agf (by rw[z7];exact ϊ _)
   have h:=HO.e;rw[<-E.e,e] at h;exact h.base (by omega)
def apt(P:Program)(w:Ψ)(base:Nat)(t ty e:TypeId)(i:TypeInfo)(size c:Nat)(ht:P.underlying t=φ (.slice e))(hi: P.info? e=φ i)
 (v:υ)(n:Nat)(xs:List υ)(aG:w.ownsRow base e size v n xs):
 (Builtin.append_ #[t,t] ty #[v,ζ ν 0 c]).run P w=.ok v w:=by
 rcases aG.2 with⟨rfl,rfl⟩ | ⟨g,cap,cur,rfl,_,_,dX,_⟩
 ·simp[Builtin.append_,run_underlying ht,sizeOf,typeInfo,hi,Builtin.lenOf,Builtin.firstCells]
 ·simp[Builtin.append_,run_underlying ht,sizeOf,typeInfo,hi,Builtin.lenOf,Builtin.firstCells,dX,storeCells]
def ahp{P:Program}{w:Ψ}{ops:Array Oper}{rest:List Oper}{o:Oper}{a:Act}{Q:Exit->Act->Ψ->Prop}(gx:o.guard=ν)(s x:Operand)(t:TypeId)
 (ho:o.op=.call {callee:=.builtin .append,args:=#[s,x],argTypes:=#[t,t]})
 (base:Nat)(e:TypeId)(i:TypeInfo)(z:υ)(size bytes:Nat)(ht:P.underlying t=φ (.slice e))(hi: P.info? e=φ i)(hz:i.zero=φ z)
 (yk:i.size=size)(ES:i.bytes=bytes)(VU:z.cells.size=size)(aI:0<size)
 (v:υ)(n:Nat)(xs:List υ)(hs:a.eval s=v)(aG:w.ownsRow base e size v n xs)
 {α:Type}{f:α->List υ}{B:Nat}(u:υ)(l:List α)(hx:a.eval x=u)(hu:Row w B size (λy cs=>cs=f y) u l)(hf:∀y,(f y).length=size)(h1:∀u∈l.flatMap f,u.oneCell'=θ)
 (TI:n+l.length<=ϗ)(abl:(n+l.length) * bytes<=140737488355328)(MO:base<=w.heap.size)
 (h:∀v' w',w'.ownsRow base e size v' (n+l.length) (xs++l.flatMap f)->w.grownBy w' v.ownBlock->wpList P ops Q rest (a.put o.dst v') w'):wpList P ops Q (o::rest) a w:=by
 obtain⟨A,c,hv,-,-,hc⟩:=id hu;subst hv;cases A with
 |none=>
  have hl:l=[]:=by
   cases l with
   |nil=>rfl
   |cons y l=>obtain⟨ad,h,-⟩:=hc (by simp);cases h
  subst hl;refine wpList_plain gx λK hK=>?_
  have bz:=apt P w base t o.type e i size c ht hi v n xs aG;have h':=h v w (by simpa using aG) ⟨rfl,rfl,rfl,ϊ _,λ_ _ _=>rfl⟩
  unfold Oper.wp;simp[execOp,ho,resolve,invoke,builtin,hs,hx,bz,Result.andThen];exact hK _ _ h'
 |some ad=>
  exact wpList_append_own w gx s x t ho base e i z size bytes ht hi hz yk ES VU aI v n xs hs aG ad l.length c (l.flatMap f) hx (zT hf l) (hu.cells hf).1 h1 TI abl MO λv' w' h2 h3 _=>h v' w' h2 h3
def fa(L:an)(ts:List (Tape×υ))(i:Nat):List (Tape×υ):=ts.mapIdx λj p=>if j<i then(xa L p.1,p.2) else p
def aem(L:an)(ts:List (Tape×υ))(i:Nat):(fa L ts i).length=ts.length:=by simp[fa]
def an0(L:an)(ts:List (Tape×υ))(i:Nat):(fa L ts i)[i]?=ts[i]?:=by
 unfold fa;rw[Ajj]
 cases ts[i]?<;>simp
def an5(L:an)(ts:List (Tape×υ)):fa L ts 0=ts:=by
 apply Aji;intro j;unfold fa;rw[Ajj]
 cases ts[j]?<;>simp
def aek(L:an)(ts:List (Tape×υ)):fa L ts ts.length=ts.map λp=>(xa L p.1,p.2):=by
 apply Aji;intro j;unfold fa;rw[Ajj,Ah9]
 cases e:ts[j]? with
 |none=>rfl
 |some p=>
  have:j<ts.length:=(ϱ.1 e).1
  simp[this]
def K8(a c:Int)(p:Tape×υ):Tape×υ:=(⟨p.1.pieces,⟨a,c⟩⟩,p.2)
def aex(a c:Int):∀(l:List (Tape×υ)) (i:Nat),i<l.length->((l.flatMap eG).set (i * 3+1) (ξ κ a)).set (i * 3+1+1) (ξ κ c)=(l.modify i (K8 a c)).flatMap eG
 | [],i,h=>by simp at h
 |p::l,0,_=>by simp[eG,K8]
 |p::l,i+1,h=>by
  have ih:=aex a c l i (by simpa using h)
  rw[List.modify_succ_cons,Aht,Aht,<-ih];have e1:(i+1) * 3+1=(eG p).length+(i * 3+1):=by simp[eG];omega
  have e2:(i+1) * 3+1+1=(eG p).length+(i * 3+1+1):=by simp[eG];omega
  rw[e2,e1,Ajk _ _ (by omega),Ajk _ _ (by omega)]
  congr 2
  ·congr 1
   omega
  ·omega
def an1{L:an}{ts:List (Tape×υ)}{i:Nat}{p:Tape×υ}(h:ts[i]?=φ p):(fa L ts i).modify i (K8 (xa L p.1).sum.lo (xa L p.1).sum.hi)=fa L ts (i+1):=by
 apply Aji;intro j;rw[List.getElem?_modify]
 unfold fa;rw[Ajj,Ajj]
 cases e:ts[j]? with
 |none=>simp
 |some q=>
  by_cases vo:i=j
  ·subst vo
   rw[h] at e;cases e;simp[K8,xa]
  ·simp[vo]
   by_cases h1:j<i
   ·rw[if_pos h1,if_pos (by omega)]
   ·rw[if_neg h1,if_neg (by omega)]
def ap0{w:Ψ}{B:Nat}{ts:List (Tape×υ)}(rS:∀p∈ts,Row w B 1 cH p.2 p.1.pieces):∀u∈ts.flatMap eG,u.oneCell'=θ:=by
 intro u hu;obtain⟨p,hp,h⟩:=Ahw.1 hu;simp only[eG,ϫ,List.not_mem_nil,or_false] at h;rcases h with rfl|rfl|rfl
 ·obtain⟨A,c,hv,-⟩:=rS p hp
  rw[hv];rfl
 ·rfl
 ·rfl
def Kept(B C:Nat)(w V:Ψ):Prop:=w.heap.size<=V.heap.size/\∀p:Addr,(p.block<B\/(C<=p.block/\p.block<w.heap.size))-> V.cell? p= w.cell? p
def apY{w W:Ψ}{b:ao}{pv bv tv v7:υ}{B:Nat}{L:an}{ts:List (Tape×υ)}(hB:B<=w.heap.size)(ai:bg w B b pv bv tv)(rS:∀p∈ts,Row w B 1 cH p.2 p.1.pieces)(il:ts.map Ajp=b.aJ)
 (h7:W.ownsRow (w.heap.size+3) 95 3 v7 ts.length ((fa L ts ts.length).flatMap eG))(hb:Γ w.heap.size w W){x0 x1 x2 x3:υ}:
 let V:=(((W.setCell ⟨w.heap.size+1,0,ν⟩ x0).setCell ⟨w.heap.size+1,1,ν⟩ x1).setCell ⟨w.heap.size+1,2,ν⟩ x2).setCell ⟨w.heap.size+1,3,ν⟩ x3
 (∀U,Kept B w.heap.size V U->bg U U.heap.size (sc b L) pv bv v7)/\Γ w.heap.size w V:=by
 intro V;have xF:Γ w.heap.size w V:=(((hb.setCell (by simp) _).setCell (by simp) _).setCell (by simp) _).setCell (by simp) _
 have o7:V.ownsRow (w.heap.size+3) 95 3 v7 ts.length ((fa L ts ts.length).flatMap eG):=eo (eo (eo (eo h7 (by simp)) (by simp)) (by simp)) (by simp)
 refine⟨λU hU=>?_,xF⟩
 have st:Δ B w U:=λp hp=>(hU.2 p (.inl hp)).trans (Δ.aK xF hB p hp)
 have aI:B<=U.heap.size:=by have:=xF.size;have:=hU.1;omega
 refine⟨(ai.pieces.still st λ_ _ h=>h).more aI,(ai.aF.still st λ_ _ h=>?_).more aI,?_⟩
 ·obtain⟨k,e1,e2,e3⟩:=h.still st
  exact⟨k,e1,e2,e3.more aI⟩
 ·have e:(sc b L).aJ=(fa L ts ts.length).map Ajp:=by
   rw[aek,Ai4];show b.aJ.map _=_;rw[<-il,Ai4];rfl
  have DN:∀p∈fa L ts ts.length,Row w B 1 cH p.2 p.1.pieces:=by
   rw[aek];intro p hm;obtain⟨q,hq,rfl⟩:=Ahx.1 hm;exact rS q hq
  have Uz:=aem L ts ts.length;rw[e];generalize fa L ts ts.length=M at *;rw[<-Uz] at o7;obtain⟨A,c,hv,h1,h2,h3⟩:=cW.vO (No:=λk=>k<w.heap.size) (R:=λp cs=>cs=eG p) o7 (λ_=>rfl) (λp hm=>rfl) (λk hk=>by omega)
  have hr:Row U U.heap.size 3 (λ(p:Tape×υ) cs=>cs=eG p) v7 M:=⟨A,c,hv,h1,h2,λhx=>by
   obtain⟨ad,ha,hb,hn,hc⟩:=h3 hx;refine⟨ad,ha,by have:=hU.1;omega,λi x hi=>?_⟩
   obtain⟨cs,r,hl,au⟩:=hc i x hi;exact⟨cs,r,hl,λj u hu=>(hU.2 _ (.inr (by rw[cq];omega))).trans (au j u hu)⟩⟩
  exact yY hr (λp hm cs hc=>⟨p.2,hc,((DN p hm).still st λ_ _ h=>h).more aI⟩)
def apZ{w:Ψ}{b:ao}{l:List Int}{pv bv tv lv:υ}{B:Nat}(hB:B<=w.heap.size)(ai:bg w B b pv bv tv)(hl:Row w w.heap.size 1 cH lv l)(hv:Valid b)(hlen:l.length=b.pieces.length)(Bm:∀n∈l,1<=n/\n<=40):
 ύ prog 76 #[η #[ξ κ b.ag,pv,bv,tv],lv] w λe w'=>∃fD,e=Ω (η #[ξ κ b.ag,pv,bv,fD])/\(∀U,Kept B w.heap.size w' U->bg U U.heap.size (sc b (fK l)) pv bv fD)/\Γ w.heap.size w w':=by
 have oz:Row w w.heap.size 1 cH lv (zn b.pieces.length (fK l)):=by rw[adO hlen hv.np.2];exact hl
 have RX:=ag9 Bm;have RP:=R9 Bm;obtain⟨L,hLd⟩:∃L,L=fK l:=⟨_,rfl⟩
 rw[<-hLd] at oz RX RP |-
 obtain⟨ts,il,pg⟩:=I1 (R':=λ(p:Tape×υ) cs=>cs=eG p/\Row w B 1 cH p.2 p.1.pieces) ai.aJ (λx cs ⟨kv,h1,h3⟩=>⟨kv,h1,h3⟩)
 have rS:∀p∈ts,Row w B 1 cH p.2 p.1.pieces:=λp hp=>by obtain⟨cs,h1,h2⟩:=pg.mem p hp;exact h2
 have qG:ts.length=b.aJ.length:=by rw[<-il,Ah8]
 have hT4:ts.length<=4:=by rw[qG];exact hv.nt
 have kH:=hv.np;have HT:Hid (∀p∈ts,(∀k∈p.1.pieces,0<=k/\k<b.pieces.length)/\p.1.pieces.length<=1000/\0<=sg L p.1.pieces/\sg L p.1.pieces<=120):=ψ λp hp=>by
  have h1:=hv.tape p.1 (by rw[<-il];exact Ahx.2 ⟨p,hp,rfl⟩)
  have h2:=T1 RP p.1.pieces;exact⟨h1.1,by omega,h2.1,by omega⟩
 have SUM:Hid (∀W,Γ w.heap.size w W->∀p∈ts,ύ prog 77 #[lv,p.2] W λe w'=>e=Ω (ξ κ (sg L p.1.pieces))/\W=w'):=ψ λW st p hp=>
  aeo (oz.still (Δ.aK st (ϊ _)) λ_ _ h=>h) (((rS p hp).more hB).still (Δ.aK st (ϊ _)) λ_ _ h=>h) (HT.e p hp).1 (HT.e p hp).2.1 RX
 have HM:=ψ (ϐ rS il);have bT:=ψ ai;have adK:Row w B 3 (λ(p:Tape×υ) cs=>cs=eG p) tv ts:=pg.still (Δ.refl w) λp cs h=>h.1
 have YZ:=ψ adK;have Yx:=ψ (ap0 rS);obtain⟨A1,n1,c1,rfl,-⟩:=ai.pieces.Φ;obtain⟨A2,n2,c2,rfl,-⟩:=ai.aF.Φ;obtain⟨A3,n3,c3,rfl,e3,-⟩:=pg.Φ;obtain⟨A4,n4,c4,rfl,-⟩:=hl.Φ;rw[e3] at hT4;have E3:=ψ e3;obtain⟨i9,DC,Vu,N7,oZ⟩:=Ag9 Oq;have nX:=ψ (ϐ DC (ϐ Vu (ϐ N7 oZ)));clear ai pg rS il qG e3 hl oz DC Vu N7 oZ adK hv hlen Bm RX RP hLd kH;go_enter func76,Tryz.ntmps76;obtain⟨W0,z8⟩:∃W0,W0=(((w.alloc (Ξ #[ξ κ b.ag,ζ A1 n1 c1,ζ A2 n2 c2,ζ A3 n3 c3] 26)).alloc (Ξ #[ξ κ 0,ζ ν 0 0,ζ ν 0 0,ζ ν 0 0] 26)).alloc (Ξ #[ξ κ b.ag,ζ A1 n1 c1,ζ A2 n2 c2,ζ A3 n3 c3] 26)):=⟨_,rfl⟩
 have Z0:W0.heap.size=w.heap.size+3:=by rw[z8];simp
 have BW:Hid (Γ w.heap.size w W0):=ψ (by rw[z8];exact(((Ϗ _ _).alloc (ϊ _) _).alloc (by simp) _).alloc (by simp;omega) _)
 have KR:Hid (Bk W0 (w.heap.size+1) 26 #[ξ κ 0,ζ ν 0 0,ζ ν 0 0,ζ ν 0 0]):=ψ (by rw[z8];exact(Bk.cG (by simp) _ _).alloc _)
 have KO:Hid (Bk W0 (w.heap.size+2) 26 #[ξ κ b.ag,ζ A1 n1 c1,ζ A2 n2 c2,ζ A3 n3 c3]):=ψ (by rw[z8];exact Bk.cG (by simp) _ _)
 have HO:Hid ((W0.alloc (Ξ #[] 95)).ownsRow (w.heap.size+3) 95 3 (ζ (φ ⟨w.heap.size+3,0,ν⟩) 0 0) 0 []):=ψ ⟨rfl,.inr ⟨w.heap.size+3,0,#[],rfl,ϊ _,by rw[<-Z0];exact heap_alloc_new W0 _,ϊ _,by unfold ϗ;omega,rfl,rfl⟩⟩
 have YY:Hid (Row (W0.alloc (Ξ #[] 95)) B 3 (λ(p:Tape×υ) cs=>cs=eG p) (ζ A3 n3 c3) ts):=ψ (YZ.e.still (Δ.aK (BW.e.alloc (by omega) _) hB) λ_ _ h=>h)
 go_wp2_with (first
  | (at_builtin
     rw[<-z8];refine ahp rfl (.tmp 9) (.tmp 11) 24 rfl (w.heap.size+3) 95 i9 (η #[ζ ν 0 0,ξ κ 0,ξ κ 0]) 3 40 (U Tryz.underlying24) nX.e.1 nX.e.2.1 nX.e.2.2.1 nX.e.2.2.2 rfl (by decide) _ 0 _ rfl HO.e (f:=eG) _ ts rfl YY.e (λ_=>rfl) Yx.e (by rw[E3.e];simp only[ϗ];omega) (by rw[E3.e];omega) (by simp;omega) ?_
     intro v' w1 cK dT;rw[Aib,Agr,E3.e] at cK;obtain⟨A9,n9,c9,rfl⟩:=j8 cK;have nG:=Be cK;subst nG;have aY:Hid (Γ (w.heap.size+3) W0 w1):=ψ (((Ϗ _ _).alloc (by omega) _).grown dT (by simp;omega) (λk hk=>ei HO.e k hk))
     have gW:=ψ cK;have ko:=ψ (KO.e.below aY.e (by omega))
     have p3:=ko.e.frozen 3;have o3: w1.cell? ⟨w.heap.size+2,3,ν⟩=φ (ζ A3 n9 c3):=ko.e.cell 3;have xT:=ko.e.lt;clear cK dT))
 obtain⟨W1,eJ⟩:∃W,W=w1.setCell ⟨w.heap.size+1+1,3,ν⟩ (ζ A9 n9 c9):=⟨_,rfl⟩
 have K1:Hid (Bk W1 (w.heap.size+2) 26 #[ξ κ b.ag,ζ A1 n1 c1,ζ A2 n2 c2,ζ A9 n9 c9]):=ψ (by rw[eJ];exact ko.e.set 3 _)
 have B1:Hid (Γ (w.heap.size+2) W0 W1):=ψ (by rw[eJ];exact(aY.e.mono (by omega)).setCell (by simp) _)
 have O1:Hid (W1.ownsRow (w.heap.size+3) 95 3 (ζ A9 n9 c9) n9 ((fa L ts 0).flatMap eG)):=ψ (by rw[eJ,an5];exact eo gW.e (by simp))
 have Z1:w.heap.size+3<=W1.heap.size:=K1.e.lt;rw[<-eJ];clear eJ o3 p3 ko aY gW xT;go_loopw [6] (λu wr=>∃(i:Nat),i<=n9/\u=ξ κ i/\Hid (wr.ownsRow (w.heap.size+3) 95 3 (ζ A9 n9 c9) n9 ((fa L ts i).flatMap eG))/\
  Hid (Bk wr (w.heap.size+2) 26 #[ξ κ b.ag,ζ A1 n1 c1,ζ A2 n2 c2,ζ A9 n9 c9])/\Hid (Γ (w.heap.size+2) W0 wr)/\w.heap.size+3<=wr.heap.size) (λu _=>n9 - (ϙ u).toNat)
 case atStart=>exact⟨0,ϡ _,rfl,O1,K1,B1,Z1⟩
 case round=>
  obtain⟨i,hi,rfl,h7,hk,hb,hz⟩:=hrel;have BB:Hid (Γ w.heap.size w wr):=ψ (BW.e.trans (hb.e.mono (by omega)))
  have q5: wr.cell? ⟨w.heap.size+1+1,3,ν⟩=φ (ζ A9 n9 c9):=hk.e.cell 3;have st:Δ B w wr:=Δ.aK BB.e hB;by_cases al:i<n9
  ·obtain⟨g9,rfl⟩:=Ww h7.e (by omega)
   have hg9:w.heap.size+3<=g9:=ei h7.e _ rfl;have aoh:g9<wr.heap.size:=vU h7.e _ rfl;obtain⟨p,hp⟩:∃p,ts[i]?=φ p:=⟨_,Af9 (by rw[E3.e];exact al)⟩
   have KY:= ϩ hp;have fY:∀(r:Nat) (u:υ),(eG p)[r]?=φ u-> wr.cell? ⟨g9,i * 3+r,ν⟩=φ u:=λr u hu=>by
    have:=vT h7.e (i * 3+r) u (GL (f:=eG) (sz:=3) (λ_=>rfl) (fa L ts i) i p r u (by rw[an0];exact hp) hu)
    rwa[nu] at this
   obtain⟨s,hs⟩:∃s,s=sg L p.1.pieces:=⟨_,rfl⟩
   have CS:Hid (ύ prog 77 #[ζ A4 n4 c4,p.2] wr λe w'=>e=Ω (ξ κ s)/\wr=w'):=ψ (by rw[hs];exact SUM.e wr BB.e p KY)
   have DZ:=(HT.e p KY).2.2;rw[<-hs] at DZ;obtain⟨a,ha⟩:∃a,a=(xa L p.1).sum.lo:=⟨_,rfl⟩
   obtain⟨c,hc⟩:∃c,c=(xa L p.1).sum.hi:=⟨_,rfl⟩
   have Di:a=min p.1.sum.lo s:=by rw[ha,hs];rfl
   have ef:c=max p.1.sum.hi s:=by rw[hc,hs];rfl
   have PUT:Hid (∀W:Ψ,W.ownsRow (w.heap.size+3) 95 3 (ζ (φ ⟨g9,0,ν⟩) n9 c9) n9 ((fa L ts i).flatMap eG)->((W.setCell ⟨g9,i * 3+1,ν⟩ (ξ κ a)).setCell ⟨g9,i * 3+1+1,ν⟩ (ξ κ c)).ownsRow (w.heap.size+3) 95 3 (ζ (φ ⟨g9,0,ν⟩) n9 c9) n9 ((fa L ts (i+1)).flatMap eG)):=ψ λW h=>by
    have:=IG (u:=ξ κ c) (k:=i * 3+1+1) (IG (u:=ξ κ a) (k:=i * 3+1) h (by omega)) (by omega)
    rw[aex a c _ i (by rw[aem,E3.e];exact al)] at this
    have e:=an1 (L:=L) hp;rw[<-ha,<-hc] at e;rwa[e] at this
   obtain⟨t,kv⟩:=p;obtain⟨A5,c5,dj,-⟩:=HM.e.1 _ KY;simp only at dj CS Di ef;subst dj;generalize t.pieces.length=m5 at *;have y0:=fY 0 _ rfl;have y1:=fY 1 _ rfl;have y2:=fY 2 _ rfl;simp only[Nat.add_zero] at y0 y1 y2;generalize t.sum.lo=lo at *;generalize t.sum.hi=vm at *;have f1:=h7.e.frozenAt (i * 3+1);have f2:=h7.e.frozenAt (i * 3+1+1);have NA:(i:Int)<n9:=by omega
   have d1:g9≠w.heap.size+1+1:=by omega
   have d2:w.heap.size+1+1≠g9:=by omega
   have ba:w.heap.size+1+1<wr.heap.size:=by omega
   clear hs ha hc hp KY fY st;go_wp2_with (first
    | (go_at_call 77
       refine CS.e.mono ?_
       rintro e w' ⟨rfl,rfl⟩))
   have KA:∀o,(wr.alloc o).drew.cell? ⟨w.heap.size+1+1,3,ν⟩=φ (ζ (φ ⟨g9,0,ν⟩) n9 c9):=λo=>(Afz wr o _ (by simp;omega)).trans q5
   refine wp_region_noPanic ?_
   refine wp_region_held_drew (S:=(λW=> W.cell? ⟨w.heap.size+1+1,3,ν⟩=φ (ζ (φ ⟨g9,0,ν⟩) n9 c9))) (by kernel_rfl) ?_ (λkz=>?_)
   ·first|exact q5|exact KA _|exact(Afz _ _ _ (by simp[Ad2];omega)).trans ((Aiv _ _ _ _ (by simp;omega)).trans ((Aiv _ _ _ _ (by simp;omega)).trans q5))
   refine Aij (i:=0) (oi:={dst:=φ 29,op:=Air 26 (.tmp 5) 3,type:=0,pos:=_,after:=_,guard:=ν}) (v:= ?dv0) rfl (by kernel_rfl) (by kernel_rfl) (by kernel_rfl) (λ_ _ _ h=>h) (Ajn ⟨by rfl,?dhy0⟩) kz ?aqo
   case dhy0=>
    intro w dn
    try dsimp only at dn
    go_simp;all_goals with_reducible rfl
   try simp only[Ail,Ajl,Ajm,ε]
   refine Aij (i:=1) (oi:={dst:=φ 30,op:=Ais 24 (.tmp 29),type:=24,pos:=_,after:=_,guard:=ν}) (v:= ?dv1) rfl (by kernel_rfl) (by kernel_rfl) (by kernel_rfl) (λ_ _ _ h=>h) (Ajn ⟨by rfl,?dhy1⟩) kz ?aqp
   case dhy1=>
    intro w dn
    try dsimp only at dn
    go_simp;all_goals with_reducible rfl
   try simp only[Ail,Ajl,Ajm,ε]
   refine Aij (i:=2) (oi:={dst:=φ 31,op:=Op.move (.tmp 6),type:=3,pos:=_,after:=_,guard:=ν}) (v:= ?dv2) rfl (by kernel_rfl) (by kernel_rfl) (by kernel_rfl) (λ_ _ _ h=>h) (Ajn ⟨by rfl,?dhy2⟩) kz ?aqy
   case dhy2=>
    intro w dn
    try dsimp only at dn
    go_simp;all_goals with_reducible rfl
   try simp only[Ail,Ajl,Ajm,ε]
   refine Aij (i:=3) (oi:={dst:=φ 32,op:=Air 26 (.tmp 5) 3,type:=0,pos:=_,after:=_,guard:=ν}) (v:= ?dv3) rfl (by kernel_rfl) (by kernel_rfl) (by kernel_rfl) (λ_ _ _ h=>h) (Ajn ⟨by rfl,?dhy3⟩) kz ?aqz
   case dhy3=>
    intro w dn
    try dsimp only at dn
    go_simp;all_goals with_reducible rfl
   try simp only[Ail,Ajl,Ajm,ε]
   refine Aij (i:=4) (oi:={dst:=φ 33,op:=Ais 24 (.tmp 32),type:=24,pos:=_,after:=_,guard:=ν}) (v:= ?dv4) rfl (by kernel_rfl) (by kernel_rfl) (by kernel_rfl) (λ_ _ _ h=>h) (Ajn ⟨by rfl,?dhy4⟩) kz ?aqA
   case dhy4=>
    intro w dn
    try dsimp only at dn
    go_simp;all_goals with_reducible rfl
   try simp only[Ail,Ajl,Ajm,ε]
   refine Aij (i:=5) (oi:={dst:=φ 34,op:=Op.move (.tmp 6),type:=3,pos:=_,after:=_,guard:=ν}) (v:= ?dv5) rfl (by kernel_rfl) (by kernel_rfl) (by kernel_rfl) (λ_ _ _ h=>h) (Ajn ⟨by rfl,?dhy5⟩) kz ?aqB
   case dhy5=>
    intro w dn
    try dsimp only at dn
    go_simp;all_goals with_reducible rfl
   try simp only[Ail,Ajl,Ajm,ε]
   refine Aij (i:=6) (oi:={dst:=φ 35,op:=Ait 24 (.tmp 33) (.tmp 34),type:=0,pos:=_,after:=_,guard:=ν}) (v:= ?dv6) rfl (by kernel_rfl) (by kernel_rfl) (by kernel_rfl) (λ_ _ _ h=>h) (Ajn ⟨by rfl,?dhy6⟩) kz ?aqC
   case dhy6=>
    intro w dn
    try dsimp only at dn
    go_simp;all_goals with_reducible rfl
   try simp only[Ail,Ajl,Ajm,ε]
   refine Aij (i:=7) (oi:={dst:=φ 36,op:=Air 95 (.tmp 35) 1,type:=0,pos:=_,after:=_,guard:=ν}) (v:= ?dv7) rfl (by kernel_rfl) (by kernel_rfl) (by kernel_rfl) (λ_ _ _ h=>h) (Ajn ⟨by rfl,?dhy7⟩) kz ?aqD
   case dhy7=>
    intro w dn
    try dsimp only at dn
    go_simp;all_goals with_reducible rfl
   try simp only[Ail,Ajl,Ajm,ε]
   refine Aij (i:=8) (oi:={dst:=φ 37,op:=Air 37 (.tmp 36) 0,type:=0,pos:=_,after:=_,guard:=ν}) (v:= ?dv8) rfl (by kernel_rfl) (by kernel_rfl) (by kernel_rfl) (λ_ _ _ h=>h) (Ajn ⟨by rfl,?dhy8⟩) kz ?aqE
   case dhy8=>
    intro w dn
    try dsimp only at dn
    go_simp;all_goals with_reducible rfl
   try simp only[Ail,Ajl,Ajm,ε]
   refine Aij (i:=10) (oi:={dst:=φ 39,op:=Op.move (.tmp 7),type:=3,pos:=_,after:=_,guard:=ν}) (v:= ?aqH) rfl (by kernel_rfl) (by kernel_rfl) (by kernel_rfl) (λ_ _ _ h=>h) (Ajn ⟨by rfl,?dhy10⟩) kz ?aqq
   case dhy10=>
    intro w dn
    try dsimp only at dn
    go_simp;all_goals with_reducible rfl
   try simp only[Ail,Ajl,Ajm,ε]
   refine Aij (i:=12) (oi:={dst:=φ 41,op:=Air 26 (.tmp 5) 3,type:=0,pos:=_,after:=_,guard:=ν}) (v:= ?aqI) rfl (by kernel_rfl) (by kernel_rfl) (by kernel_rfl) (λ_ _ _ h=>h) (Ajn ⟨by rfl,?dhy12⟩) kz ?aqr
   case dhy12=>
    intro w dn
    try dsimp only at dn
    go_simp;all_goals with_reducible rfl
   try simp only[Ail,Ajl,Ajm,ε]
   refine Aij (i:=13) (oi:={dst:=φ 42,op:=Ais 24 (.tmp 41),type:=24,pos:=_,after:=_,guard:=ν}) (v:= ?aqJ) rfl (by kernel_rfl) (by kernel_rfl) (by kernel_rfl) (λ_ _ _ h=>h) (Ajn ⟨by rfl,?dhy13⟩) kz ?aqs
   case dhy13=>
    intro w dn
    try dsimp only at dn
    go_simp;all_goals with_reducible rfl
   try simp only[Ail,Ajl,Ajm,ε]
   refine Aij (i:=14) (oi:={dst:=φ 43,op:=Op.move (.tmp 6),type:=3,pos:=_,after:=_,guard:=ν}) (v:= ?aqK) rfl (by kernel_rfl) (by kernel_rfl) (by kernel_rfl) (λ_ _ _ h=>h) (Ajn ⟨by rfl,?dhy14⟩) kz ?aqt
   case dhy14=>
    intro w dn
    try dsimp only at dn
    go_simp;all_goals with_reducible rfl
   try simp only[Ail,Ajl,Ajm,ε]
   refine Aij (i:=15) (oi:={dst:=φ 44,op:=Ait 24 (.tmp 42) (.tmp 43),type:=0,pos:=_,after:=_,guard:=ν}) (v:= ?aqL) rfl (by kernel_rfl) (by kernel_rfl) (by kernel_rfl) (λ_ _ _ h=>h) (Ajn ⟨by rfl,?dhy15⟩) kz ?aqu
   case dhy15=>
    intro w dn
    try dsimp only at dn
    go_simp;all_goals with_reducible rfl
   try simp only[Ail,Ajl,Ajm,ε]
   refine Aij (i:=16) (oi:={dst:=φ 45,op:=Air 95 (.tmp 44) 1,type:=0,pos:=_,after:=_,guard:=ν}) (v:= ?aqM) rfl (by kernel_rfl) (by kernel_rfl) (by kernel_rfl) (λ_ _ _ h=>h) (Ajn ⟨by rfl,?dhy16⟩) kz ?aqv
   case dhy16=>
    intro w dn
    try dsimp only at dn
    go_simp;all_goals with_reducible rfl
   try simp only[Ail,Ajl,Ajm,ε]
   refine Aij (i:=17) (oi:={dst:=φ 46,op:=Air 37 (.tmp 45) 1,type:=0,pos:=_,after:=_,guard:=ν}) (v:= ?aqN) rfl (by kernel_rfl) (by kernel_rfl) (by kernel_rfl) (λ_ _ _ h=>h) (Ajn ⟨by rfl,?dhy17⟩) kz ?aqw
   case dhy17=>
    intro w dn
    try dsimp only at dn
    go_simp;all_goals with_reducible rfl
   try simp only[Ail,Ajl,Ajm,ε]
   refine Aij (i:=19) (oi:={dst:=φ 48,op:=Op.move (.tmp 7),type:=3,pos:=_,after:=_,guard:=ν}) (v:= ?aqO) rfl (by kernel_rfl) (by kernel_rfl) (by kernel_rfl) (λ_ _ _ h=>h) (Ajn ⟨by rfl,?dhy19⟩) kz ?aqx
   case dhy19=>
    intro w dn
    try dsimp only at dn
    go_simp;all_goals with_reducible rfl
   try simp only[Ail,Ajl,Ajm,ε]
   refine Aik (rs:=[9,18]) (by kernel_rfl) (by simp) ?_
   refine Aim (o:={dst:=φ 38,op:=Ais 3 (.tmp 37),type:=3,pos:=_,after:=_,guard:=ν}) rfl (λK hK=>?_) (Aim (o:={dst:=φ 47,op:=Ais 3 (.tmp 46),type:=3,pos:=_,after:=_,guard:=ν}) rfl (λK hK=>?_) Ain)
   go_simp
   try go_wp2_with fail
   refine hK.out _ _ ?_ (λBt=>?_)
   ·first|exact q5|exact KA _|exact(Afz _ _ _ (by simp[Ad2];omega)).trans ((Aiv _ _ _ _ (by simp;omega)).trans ((Aiv _ _ _ _ (by simp;omega)).trans q5))
   clear hK K kz
   try simp only[Ail,Ajl,Ajm,ε]
   refine Aij (i:=11) (oi:={dst:=φ 40,op:=Aiu {callee:=.builtin .min,args:=#[.tmp 38,.tmp 39],argTypes:=#[3,3]},type:=3,pos:=_,after:=_,guard:=ν}) (v:= ?aq2) rfl (by kernel_rfl) (by kernel_rfl) (by kernel_rfl) (λ_ _ _ h=>h) (Ajn ⟨by rfl,?ehy11⟩) Bt ?aqY
   case ehy11=>
    intro w dn
    try dsimp only at dn
    go_simp;all_goals with_reducible rfl
   try simp only[Ail,Ajl,Ajm,ε]
   refine Aik (rs:=[18]) (by kernel_rfl) (by simp) ?_
   refine Aim (o:={dst:=φ 47,op:=Ais 3 (.tmp 46),type:=3,pos:=_,after:=_,guard:=ν}) rfl (λK hK=>?_) Ain
   go_simp
   try go_wp2_with fail
   refine hK.out _ _ ?_ (λBM=>?_)
   ·first|exact q5|exact KA _|exact(Afz _ _ _ (by simp[Ad2];omega)).trans ((Aiv _ _ _ _ (by simp;omega)).trans ((Aiv _ _ _ _ (by simp;omega)).trans q5))
   clear hK K Bt
   try simp only[Ail,Ajl,Ajm,ε]
   refine Aij (i:=20) (oi:={dst:=φ 49,op:=Aiu {callee:=.builtin .max,args:=#[.tmp 47,.tmp 48],argTypes:=#[3,3]},type:=3,pos:=_,after:=_,guard:=ν}) (v:= ?aq3) rfl (by kernel_rfl) (by kernel_rfl) (by kernel_rfl) (λ_ _ _ h=>h) (Ajn ⟨by rfl,?ehy20⟩) BM ?aqZ
   case ehy20=>
    intro w dn
    try dsimp only at dn
    go_simp;all_goals with_reducible rfl
   try simp only[Ail,Ajl,Ajm,ε]
   refine Aik (rs:=[21]) (by kernel_rfl) (by simp) ?_
   refine Aim (o:={dst:=φ 50,op:=Aiu {callee:=.value (.func 67),args:=#[.tmp 40,.tmp 49],argTypes:=#[3,3]},type:=37,pos:=_,after:=_,guard:=ν}) rfl (λK hK=>?_) Ain
   go_simp
   go_at_call 67
   refine(B8 _ _ _).mono ?_
   rintro e w' ⟨rfl,rfl⟩
   try go_wp2_with fail
   refine hK.out _ _ ?_ (λzV=>?_)
   ·first|exact q5|exact KA _|exact(Afz _ _ _ (by simp[Ad2];omega)).trans ((Aiv _ _ _ _ (by simp;omega)).trans ((Aiv _ _ _ _ (by simp;omega)).trans q5))
   clear hK K BM
   try simp only[Ail,Ajl,Ajm,ε]
   refine Aij (i:=22) (oi:={dst:=φ 51,op:=Ait 24 (.tmp 30) (.tmp 31),type:=0,pos:=_,after:=_,guard:=ν}) (v:= ?aq4) rfl (by kernel_rfl) (by kernel_rfl) (by kernel_rfl) (λ_ _ _ h=>h) (Ajn ⟨by rfl,?ehy22⟩) zV ?aq0
   case ehy22=>
    intro w dn
    try dsimp only at dn
    go_simp;all_goals with_reducible rfl
   try simp only[Ail,Ajl,Ajm,ε]
   refine Aij (i:=23) (oi:={dst:=φ 52,op:=Air 95 (.tmp 51) 1,type:=0,pos:=_,after:=_,guard:=ν}) (v:= ?aq5) rfl (by kernel_rfl) (by kernel_rfl) (by kernel_rfl) (λ_ _ _ h=>h) (Ajn ⟨by rfl,?ehy23⟩) zV ?aq1
   case ehy23=>
    intro w dn
    try dsimp only at dn
    go_simp;all_goals with_reducible rfl
   try simp only[Ail,Ajl,Ajm,ε]
   refine Aik (rs:=[24]) (by kernel_rfl) (by simp) ?_
   refine Aim (o:={dst:=ν,op:=Op.store 37 (.tmp 52) (.tmp 50),type:=0,pos:=_,after:=_,guard:=ν}) rfl (λK hK=>?_) Ain
   go_simp
   try go_wp2_with fail
   refine hK.out _ _ ?_ (λhh6=>?_)
   ·first|exact q5|exact KA _|exact(Afz _ _ _ (by simp[Ad2];omega)).trans ((Aiv _ _ _ _ (by simp;omega)).trans ((Aiv _ _ _ _ (by simp;omega)).trans q5))
   clear hK K zV
   try simp only[Ail,Ajl,Ajm,ε]
   refine wpAnyH_done (by kernel_rfl) (NoPanic.normal ?_) _
   rotate_left
   go_simp
   try go_wp2_with fail
   refine hK.out _ _ ?_ (λBt=>?_)
   ·first|exact q5|exact KA _|exact(Afz _ _ _ (by simp[Ad2];omega)).trans ((Aiv _ _ _ _ (by simp;omega)).trans ((Aiv _ _ _ _ (by simp;omega)).trans q5))
   clear hK K kz
   try simp only[Ail,Ajl,Ajm,ε]
   refine Aij (i:=20) (oi:={dst:=φ 49,op:=Aiu {callee:=.builtin .max,args:=#[.tmp 47,.tmp 48],argTypes:=#[3,3]},type:=3,pos:=_,after:=_,guard:=ν}) (v:= ?arc) rfl (by kernel_rfl) (by kernel_rfl) (by kernel_rfl) (λ_ _ _ h=>h) (Ajn ⟨by rfl,?fhy20⟩) Bt ?aq7
   case fhy20=>
    intro w dn
    try dsimp only at dn
    go_simp;all_goals with_reducible rfl
   try simp only[Ail,Ajl,Ajm,ε]
   refine Aik (rs:=[9]) (by kernel_rfl) (by simp) ?_
   refine Aim (o:={dst:=φ 38,op:=Ais 3 (.tmp 37),type:=3,pos:=_,after:=_,guard:=ν}) rfl (λK hK=>?_) Ain
   go_simp
   try go_wp2_with fail
   refine hK.out _ _ ?_ (λBM=>?_)
   ·first|exact q5|exact KA _|exact(Afz _ _ _ (by simp[Ad2];omega)).trans ((Aiv _ _ _ _ (by simp;omega)).trans ((Aiv _ _ _ _ (by simp;omega)).trans q5))
   clear hK K Bt
   try simp only[Ail,Ajl,Ajm,ε]
   refine Aij (i:=11) (oi:={dst:=φ 40,op:=Aiu {callee:=.builtin .min,args:=#[.tmp 38,.tmp 39],argTypes:=#[3,3]},type:=3,pos:=_,after:=_,guard:=ν}) (v:= ?arb) rfl (by kernel_rfl) (by kernel_rfl) (by kernel_rfl) (λ_ _ _ h=>h) (Ajn ⟨by rfl,?fhy11⟩) BM ?aq6
   case fhy11=>
    intro w dn
    try dsimp only at dn
    go_simp;all_goals with_reducible rfl
   try simp only[Ail,Ajl,Ajm,ε]
   refine Aik (rs:=[21]) (by kernel_rfl) (by simp) ?_
   refine Aim (o:={dst:=φ 50,op:=Aiu {callee:=.value (.func 67),args:=#[.tmp 40,.tmp 49],argTypes:=#[3,3]},type:=37,pos:=_,after:=_,guard:=ν}) rfl (λK hK=>?_) Ain
   go_simp
   go_at_call 67
   refine(B8 _ _ _).mono ?_
   rintro e w' ⟨rfl,rfl⟩
   try go_wp2_with fail
   refine hK.out _ _ ?_ (λzV=>?_)
   ·first|exact q5|exact KA _|exact(Afz _ _ _ (by simp[Ad2];omega)).trans ((Aiv _ _ _ _ (by simp;omega)).trans ((Aiv _ _ _ _ (by simp;omega)).trans q5))
   clear hK K BM
   try simp only[Ail,Ajl,Ajm,ε]
   refine Aij (i:=22) (oi:={dst:=φ 51,op:=Ait 24 (.tmp 30) (.tmp 31),type:=0,pos:=_,after:=_,guard:=ν}) (v:= ?ard) rfl (by kernel_rfl) (by kernel_rfl) (by kernel_rfl) (λ_ _ _ h=>h) (Ajn ⟨by rfl,?fhy22⟩) zV ?aq8
   case fhy22=>
    intro w dn
    try dsimp only at dn
    go_simp;all_goals with_reducible rfl
   try simp only[Ail,Ajl,Ajm,ε]
   refine Aij (i:=23) (oi:={dst:=φ 52,op:=Air 95 (.tmp 51) 1,type:=0,pos:=_,after:=_,guard:=ν}) (v:= ?are) rfl (by kernel_rfl) (by kernel_rfl) (by kernel_rfl) (λ_ _ _ h=>h) (Ajn ⟨by rfl,?fhy23⟩) zV ?aq9
   case fhy23=>
    intro w dn
    try dsimp only at dn
    go_simp;all_goals with_reducible rfl
   try simp only[Ail,Ajl,Ajm,ε]
   refine Aik (rs:=[24]) (by kernel_rfl) (by simp) ?_
   refine Aim (o:={dst:=ν,op:=Op.store 37 (.tmp 52) (.tmp 50),type:=0,pos:=_,after:=_,guard:=ν}) rfl (λK hK=>?_) Ain
   go_simp
   try go_wp2_with fail
   refine hK.out _ _ ?_ (λhh6=>?_)
   ·first|exact q5|exact KA _|exact(Afz _ _ _ (by simp[Ad2];omega)).trans ((Aiv _ _ _ _ (by simp;omega)).trans ((Aiv _ _ _ _ (by simp;omega)).trans q5))
   clear hK K zV
   try simp only[Ail,Ajl,Ajm,ε]
   refine wpAnyH_done (by kernel_rfl) (NoPanic.normal ?_) _
   all_goals
    go_wp2;go_roundw;case rel=>exact⟨i+1,by omega,by go_num,ψ (by
     have h:=PUT.e wr h7.e;rw[Di,ef] at h;exact World.ownsRow.alloc h _),ψ (Bk.drew (((hk.e.cu (p:=⟨g9,i * 3+1,ν⟩) (show w.heap.size+2≠g9 by omega) _).cu (p:=⟨g9,i * 3+1+1,ν⟩) (show w.heap.size+2≠g9 by omega) _).alloc _)),ψ (iY (((hb.e.setCell (by simp;omega) _).setCell (by simp;omega) _).alloc (by simp[Ad2];omega) _)),by simp;omega⟩
    case measure=>simp[ϙ];omega
  ·obtain rfl:i=n9:=by omega
   have q0:=hk.e.cell 0;have q1:=hk.e.cell 1;have q2:=hk.e.cell 2;have vW:=KR.e.below hb.e (by omega)
   have p0:=vW.cell 0;have p1:=vW.cell 1;have p2:=vW.cell 2;have p3:=vW.cell 3;have f0:=vW.frozen 0;have f1:=vW.frozen 1;have f2:=vW.frozen 2;have f3:=vW.frozen 3;have rV:w.heap.size+1<wr.heap.size:=vW.lt;have qz:=((((vW.set 0 (ξ κ b.ag)).set 1 (ζ A1 n1 c1)).set 2 (ζ A2 n2 c2)).set 3 (ζ A9 i c9));have y0:=qz.cell 0;have y1:=qz.cell 1;have y2:=qz.cell 2;have y3:=qz.cell 3;clear qz vW st;go_wp2;refine Ahb (v:=η #[ξ κ b.ag,ζ A1 n1 c1,ζ A2 n2 c2,ζ A9 i c9]) (by simp[results,Tryz.results76,go_sem,y0,y1,y2,y3]) rfl ⟨_,rfl,?_⟩
   have Nj:=apY (v7:=ζ A9 i c9) hB bT.e HM.e.1 HM.e.2 (by rw[E3.e];exact h7.e) BB.e (L:=L) (x0:=ξ κ b.ag) (x1:=ζ A1 n1 c1) (x2:=ζ A2 n2 c2) (x3:=ζ A9 i c9)
   exact Nj
def hasB(l:List Int)(n:Int):Bool:=decide (n∈l)
def aih{l:List Int}{lv:υ}{n:Int}{w:Ψ}{B:Nat}(hl:Row w B 1 cH lv l)(h3:l.length<=1000):
 ύ prog 79 #[lv,ξ κ n] w λe w'=>e=Ω (.bool (hasB l n))/\w=w':=by
 obtain⟨A,m,c,rfl,e1,h1,eA,r1⟩:=hl.Φ;unfold ϗ at eA;have hm:m<=1000:=by omega
 have E:=ψ e1;have R1:=ψ r1;clear hl e1 r1 h3;go_enter func79,Tryz.ntmps79;go_wp2;go_loopw [5] (λu wr=>∃i:Nat,i<=m/\u=ξ κ i/\w=wr/\(∀j,j<i->l[j]?≠φ n)) (λu _=>m - (ϙ u).toNat)
 case atStart=>exact⟨0,ϡ _,rfl,rfl,λj hj=>by omega⟩
 case round=>
  obtain⟨i,hi,rfl,rfl,bj⟩:=hrel;by_cases al:i<m
  ·obtain⟨ad,x,cs,rfl,aC,hx,rfl,-,au⟩:=R1.e i al
   have g0:=au 0 _ rfl;simp only[Agx,Nat.add_zero] at g0;have NA:(i:Int)<m:=by omega
   have HX:=ψ (ϐ hx bj);clear hx au bj;by_cases Ib:x=n
   ·subst Ib
    go_wp2;go_ret;exact⟨b9 (by unfold hasB;rw[decide_eq_true_iff.2 (ϩ HX.e.1)]),rfl⟩
   ·go_wp2
    go_roundw;case rel=>exact⟨i+1,by omega,by go_num,trivial,λj hj=>by
     by_cases h:j=i
     ·subst h;rw[HX.e.1];simpa using Ib
     ·exact HX.e.2 j (by omega)⟩
    case measure=>simp[ϙ];omega
  ·obtain rfl:i=m:=by omega
   have HN:=ψ bj;clear bj;go_wp2;go_ret;refine⟨b9 ?_,rfl⟩
   unfold hasB;rw[eq_comm,decide_eq_false_iff_not];intro mB;obtain⟨j,hj⟩:=Ah0 mB
   exact HN.e j (by have:=(ϱ.1 hj).1;have:=E.e;omega) hj
end Go.Tw
