import Derived.Test.YtfifdjajcogccaaGreatDoorZ02
import Derived.Laws.AppendOwnNone
set_option linter.all false
set_option maxHeartbeats 64000000
set_option maxRecDepth 100000
open And renaming intro -> Ϗ
open Array renaming ext_getElem? -> ĸ, getElem?_eq_none -> Ô
open Bool renaming false_eq_true -> Ì, or_eq_true -> Ail, and_eq_true -> Ϫ, or_eq_false_iff -> Aim, and_eq_false_iff -> Ain
open Go renaming maxLen -> ϕ, Calls -> ύ
open Go.IntKind renaming i64 -> ϗ
open Go.Lib renaming compareInt -> Aio, compactUpTo -> Aip
open Go.RowKit renaming intOf -> ϙ
open Go.RowKit.Below renaming refl -> ώ
open Go.Value renaming int -> ϛ
open Go.World renaming cell?_setCell_far -> Aiq
open Int renaming ofNat -> Ċ, le_refl -> ś, le_trans -> Ait
open List renaming flatMap_cons -> ğ, set_cons_succ -> Û, map_cons -> ď, getElem?_eq_some_iff -> ϩ, length_map -> Ġ, mem_of_getElem? -> ϡ, mem_map -> Ĭ, getElem?_eq_getElem -> Ä, mem_append -> È, drop_eq_getElem_cons -> Aiw, drop_eq_nil_of_le -> Aix, range -> Ϯ, range_succ -> Ś, mergeSort_perm -> Aiy, pairwise_mergeSort -> Aiz, foldl_nil -> Ai0, exists_of_findSome?_eq_some -> ŧ, findSome?_eq_some_iff -> Ai1, getElem?_append_right -> Ÿ, getElem?_range -> Ai2, take_add_one -> Ai3, length_take -> Ai4, getElem?_take_of_lt -> Ai5, mem_cons -> ϥ, filter_cons_of_pos -> Ai6, filter_cons_of_neg -> Ai7, getElem_of_mem -> Ai8, pairwise_iff_getElem -> Ai9, pairwise_append -> Aja, pairwise_singleton -> Ajb, mem_singleton -> Ã, append_nil -> Ť, take_length -> Ajc, any_eq_true -> Ajd, exists_mem_of_ne_nil -> Aje, take_zero -> ú, any_eq_false -> Ajf, getElem?_of_mem -> Ź, take_succ_cons -> ù, drop_succ_cons -> ý, length_eq_zero_iff -> Ajg, filter_eq_nil_iff -> Ajh, mem_append_left -> Aji, mem_append_right -> Ajj, map_append -> Ŧ, sum_append -> Ajk, sum_cons -> Ajl, mem_cons_self -> Ajm, mem_cons_of_mem -> Ajn
open Nat renaming le_refl -> ϊ, le_of_lt -> é, le_of_eq -> ÿ, zero_le -> Ϡ, mul_one -> Ķ, le_trans -> ϣ, sub_self -> Ajo, lt_succ_iff_lt_or_eq -> ε
open Or renaming inr -> Đ
open Prod renaming fst -> ġ
open Bool renaming true -> θ, false -> χ
open Go renaming Value -> υ, undef -> ω, World -> Ψ
open Go.Ending renaming returned -> Ω
open Go.IntKind renaming i64 -> κ
open Go.Lib renaming hid -> ψ
open Go.Obj renaming cells -> Ξ
open Go.RowKit renaming Below -> Γ, Below -> Γ
open Go.Value renaming slice -> ζ, tuple -> μ, agg -> η, int -> ξ
open Option renaming some -> φ, none -> ν
variable{α β:Type}{o:Go.Obj}{x:Go.Tw.aP}{b:Go.Tw.an}{a k lo aw fr p:Int}{L l:List Go.Tw.Span}{ys:List Int}{xs:List υ}{n B m i rb c j N t f:Nat}{w w6:Ψ}{pv bv tv v u pO:υ}
namespace Go.Tw
variable [Go.Tw.aJ]
open Go Go.Proofs Go.RowKit
def fG(F:Act->Ψ->Prop):Exit->Act->Ψ->Prop
 | .normal,a,w=>F a w
 |_,_,_=>False
def fG.imp{F:Act->Ψ->Prop}{Q:Exit->Act->Ψ->Prop}(h:∀a w,F a w->Q .normal a w):∀e a w,fG F e a w->Q e a w:=λe a w hf=>by
 cases e<;>first|exact h a w hf|exact(hf:False).elim
def xU(No:Nat->Prop)(g:Nat)(bv tv:υ)(k:Nat):Prop:=bv.ownBlock=φ k\/tv.ownBlock=φ k\/k=g+1\/No k
structure wu(w:Ψ)(No:Nat->Prop)(b:an)(pv bv tv:υ)(bs:List (aP×υ))(ts:List (Tape×υ)):Prop where
 p:de w No 4 Piece.R pv b.pieces
 bo:de w No 3 (λp cs=>cs=j5 p) bv bs
 t:de w No 3 (λp cs=>cs=iC p) tv ts
 vy:bs.map ġ=b.aF
 wa:ts.map ġ=b.aM
 kn:∀p∈bs,p.1.name.size<=ϕ/\de w No 2 Span.R p.2 p.1.aU
 tp:∀p∈ts,de w No 1 cH p.2 p.1.pieces
structure CI(No:Nat->Prop)(b:an)(w W:Ψ)(g s1 s2:Nat)(pv bv tv:υ)(bs:List (aP×υ))(ts:List (Tape×υ)):Prop where
 box:Bk W g 26 #[ξ κ b.ab,pv,bv,tv]
 res:∃u0 u1 u2 u3,Bk W (g+1) 26 #[u0,u1,u2,u3]
 p:W.ownsRow (g+2) 72 4 pv b.pieces.length (b.pieces.flatMap Cv)
 bo:W.ownsRow s1 59 3 bv bs.length (bs.flatMap j5)
 t:W.ownsRow s2 95 3 tv ts.length (ts.flatMap iC)
 vy:bs.map ġ=b.aF
 wa:ts.map ġ=b.aM
 kn:∀p∈bs,de W (xU No g bv tv) 2 Span.R p.2 p.1.aU
 tp:∀p∈ts,de W (xU No g bv tv) 1 cH p.2 p.1.pieces
 below:Γ g w W
 gz:g=w.heap.size
 g1:g+2<=s1
 g2:s1<=s2
 pl:∀k,pv.ownBlock=φ k->k<s1
 bl:∀k,bv.ownBlock=φ k->k<s2
def CI.grown{No:Nat->Prop}{b:an}{w W W':Ψ}{g s1 s2:Nat}{pv bv tv:υ}{bs:List (aP×υ)}{ts:List (Tape×υ)}(h:CI No b w W g s1 s2 pv bv tv bs ts)(hg:W.grownBy W' ν):CI No b w W' g s1 s2 pv bv tv bs ts where
 box:=h.box.grown hg (by simp)
 res:=by obtain⟨u0,u1,u2,u3,hr⟩:=h.res;exact⟨u0,u1,u2,u3,hr.grown hg (by simp)⟩
 p:=Ky h.p hg (by simp)
 bo:=Ky h.bo hg (by simp)
 t:=Ky h.t hg (by simp)
 vy:=h.vy
 wa:=h.wa
 kn p hp:=(h.kn p hp).grown hg (by simp)
 tp p hp:=(h.tp p hp).grown hg (by simp)
 below:=h.below.grown hg (by have:=h.box.lt;omega) (by simp)
 gz:=h.gz
 g1:=h.g1
 g2:=h.g2
 pl:=h.pl
 bl:=h.bl
def ab5{x:aP}{kv pO:υ}:∀ {bs:List (aP×υ)} {i:Nat},bs[i]?=φ (x,kv)->(bs.flatMap j5).set (i * 3+2) pO=(bs.set i (x,pO)).flatMap j5
 | [],i,h=>by simp at h
 |a::l,0,h=>by simp at h;subst h;simp[j5]
 |a::l,i+1,h=>by
  have e:(i+1) * 3+2=(i * 3+2)+1+1+1:=by omega
  have ih:=ab5 (pO:=pO) (bs:=l) (i:=i) (by simpa using h)
  rw[e,ğ];simp only[j5,List.cons_append,List.nil_append,Û,ğ];congr 3
def ab6{x:Tape}{kv pO:υ}:∀ {ts:List (Tape×υ)} {i:Nat},ts[i]?=φ (x,kv)->(ts.flatMap iC).set (i * 3) pO=(ts.set i (x,pO)).flatMap iC
 | [],i,h=>by simp at h
 |a::l,0,h=>by simp at h;subst h;simp[iC]
 |a::l,i+1,h=>by
  have e:(i+1) * 3=(i * 3)+1+1+1:=by omega
  have ih:=ab6 (pO:=pO) (ts:=l) (i:=i) (by simpa using h)
  rw[e,ğ];simp only[iC,List.cons_append,List.nil_append,Û,ğ];congr 3
def TB{α β:Type}:∀ {l:List (α×β)} {i:Nat} {x:α} {y y':β},l[i]?=φ (x,y)->(l.set i (x,y')).map ġ=l.map ġ
 | [],i,x,y,y',h=>by simp at h
 |a::l,0,x,y,y',h=>by simp at h;subst h;simp
 |a::l,i+1,x,y,y',h=>by
  rw[Û,ď,TB (l:=l) (y:=y) (by simpa using h),ď]
def mem_set{l:List α}{a x:α}(h:x∈l.set i a):x∈l\/x=a:=List.mem_or_eq_of_mem_set h
section
variable {No:Nat->Prop}{b:an}{w W:Ψ}{g s1 s2:Nat}{pv bv tv:υ}{bs:List (aP×υ)}{ts:List (Tape×υ)}
def CI.arx{kv:υ}(h:CI No b w W g s1 s2 pv (ζ (φ ⟨rb,0,ν⟩) n c) tv bs ts)(hx:bs[i]?=φ (x,kv))(hk:de W (xU No g (ζ (φ ⟨rb,0,ν⟩) n c) tv) 2 Span.R pO x.aU):
 CI No b w (W.setCell ⟨rb,i * 3+2,ν⟩ pO) g s1 s2 pv (ζ (φ ⟨rb,0,ν⟩) n c) tv (bs.set i (x,pO)) ts:=by
 have hn:n=bs.length:=by
  rcases h.bo.2 with⟨h0,_⟩ | ⟨g',Di,cur,h1,_⟩
  ·cases h0
  ·injection h1
 have ag:=kY h.bo rb rfl;have ak:=h.bl rb rfl;have g1:=h.g1;have hi:=(ϩ.1 hx).1
 have hG:=Bs W ⟨rb,i * 3+2,ν⟩ pO;have hN:∀k,φ rb=φ k->xU No g (ζ (φ ⟨rb,0,ν⟩) n c) tv k:=λk e=>Or.inl e
 refine⟨h.box.fS (by simp;omega) _,(by obtain⟨u0,u1,u2,u3,hr⟩:=h.res;exact⟨u0,u1,u2,u3,hr.fS (by simp;omega) _⟩),rD h.p (λk e=>by have:=h.pl k e;simp;omega),?_,rD h.t (λk e=>by have:=kY h.t k e;simp;omega),?_,h.wa,?_,λp hp=>(h.tp p hp).grown hG hN,h.below.setCell (by simp;omega) _,h.gz,h.g1,h.g2,h.pl,h.bl⟩
 ·have:=h.bo
  rw[<-hn] at this;rw[List.length_set,<-hn,<-ab5 hx];exact NK this (by omega)
 ·rw[TB hx];exact h.vy
 ·intro p hp
  rcases mem_set hp with hp|rfl
  ·exact(h.kn p hp).grown hG hN
  ·exact hk.grown hG hN
def CI.arz{x:Tape}{kv:υ}(h:CI No b w W g s1 s2 pv bv (ζ (φ ⟨rb,0,ν⟩) n c) bs ts)(hx:ts[i]?=φ (x,kv))(hk:de W (xU No g bv (ζ (φ ⟨rb,0,ν⟩) n c)) 1 cH pO x.pieces):
 CI No b w (W.setCell ⟨rb,i * 3,ν⟩ pO) g s1 s2 pv bv (ζ (φ ⟨rb,0,ν⟩) n c) bs (ts.set i (x,pO)):=by
 have hn:n=ts.length:=by
  rcases h.t.2 with⟨h0,_⟩ | ⟨g',Di,cur,h1,_⟩
  ·cases h0
  ·injection h1
 have ag:=kY h.t rb rfl;have g1:=h.g1;have g2:=h.g2;have hi:=(ϩ.1 hx).1
 have hG:=Bs W ⟨rb,i * 3,ν⟩ pO;have hN:∀k,φ rb=φ k->xU No g bv (ζ (φ ⟨rb,0,ν⟩) n c) k:=λk e=>Đ (Or.inl e)
 refine⟨h.box.fS (by simp;omega) _,(by obtain⟨u0,u1,u2,u3,hr⟩:=h.res;exact⟨u0,u1,u2,u3,hr.fS (by simp;omega) _⟩),rD h.p (λk e=>by have:=h.pl k e;simp;omega),rD h.bo (λk e=>by have:=h.bl k e;simp;omega),?_,h.vy,?_,λp hp=>(h.kn p hp).grown hG hN,?_,h.below.setCell (by simp;omega) _,h.gz,h.g1,h.g2,h.pl,h.bl⟩
 ·have:=h.t
  rw[<-hn] at this;rw[List.length_set,<-hn,<-ab6 hx];exact NK this (by omega)
 ·rw[TB hx];exact h.wa
 ·intro p hp
  rcases mem_set hp with hp|rfl
  ·exact(h.tp p hp).grown hG hN
  ·exact hk.grown hG hN
def Bk.drew{w:Ψ}{g:Nat}{t:TypeId}{cs:Array υ}(h:Bk w g t cs):Bk w.drew g t cs:=h
def CI.start{W0 w3 w4 W:Ψ}{q1 q2 q3:υ}(h3:Γ W0.heap.size W0 w3)(h4:Γ w3.heap.size w3 w4)(h5:Γ w4.heap.size w4 W)(hz:w.heap.size+2<=W0.heap.size)
 (kb:Bk W w.heap.size 26 #[ξ κ b.ab,q1,q2,q3])(kr:Bk W (w.heap.size+1) 26 #[ξ κ 0,ζ ν 0 0,ζ ν 0 0,ζ ν 0 0])
 (o9:w3.ownsRow W0.heap.size 72 4 pv b.pieces.length (b.pieces.flatMap Cv))(xy:w4.ownsRow w3.heap.size 59 3 bv bs.length (bs.flatMap j5))(GH:W.ownsRow w4.heap.size 95 3 tv ts.length (ts.flatMap iC))
 (kV:bs.map ġ=b.aF)(oH:ts.map ġ=b.aM)(hb:∀p∈bs,de w No 2 Span.R p.2 p.1.aU)(ht:∀p∈ts,de w No 1 cH p.2 p.1.pieces)(DF:∀k,No k->k<w.heap.size)(bd:Γ w.heap.size w W0):
 CI No b w (((W.setCell ⟨w.heap.size,1,ν⟩ pv).setCell ⟨w.heap.size,2,ν⟩ bv).setCell ⟨w.heap.size,3,ν⟩ tv) w.heap.size w3.heap.size w4.heap.size pv bv tv bs ts:=by
 have e3:=h3.size;have e4:=h4.size;have e5:=h5.size;have bW:Γ w.heap.size w W:=((bd.trans (h3.mono (by omega))).trans (h4.mono (by omega))).trans (h5.mono (by omega))
 have bF:Γ w.heap.size w (((W.setCell ⟨w.heap.size,1,ν⟩ pv).setCell ⟨w.heap.size,2,ν⟩ bv).setCell ⟨w.heap.size,3,ν⟩ tv):=((bW.setCell (ϊ _) _).setCell (ϊ _) _).setCell (ϊ _) _;have l9:=Cu o9;have l12:=Cu xy;have g9:=kY o9;have g12:=kY xy;have g15:=kY GH;have hN:∀k,xU No w.heap.size bv tv k->No k\/w.heap.size<=k:=λk hk=>by
  rcases hk with hk|hk|hk|hk
  ·have:=g12 k hk;omega
  ·have:=g15 k hk;omega
  ·omega
  ·exact Or.inl hk
 have p9:W.ownsRow W0.heap.size 72 4 pv b.pieces.length (b.pieces.flatMap Cv):=xz (xz o9 h4 (ϊ _)) h5 (ϊ _);have KE:W.ownsRow w3.heap.size 59 3 bv bs.length (bs.flatMap j5):=xz xy h5 (ϊ _);refine⟨?_,⟨_,_,_,_,((kr.fS (by simp) _).fS (by simp) _).fS (by simp) _⟩,?_,?_,?_,kV,oH,λp hp=>(hb p hp).below bF hN,λp hp=>(ht p hp).below bF hN,bF,rfl,by omega,by omega,l9,l12⟩
 ·exact((kb.set 1 pv).set 2 bv).set 3 tv
 ·exact(rD (rD (rD p9 (λk e=>by have:=g9 k e;simp;omega)) (λk e=>by have:=g9 k e;simp;omega)) (λk e=>by have:=g9 k e;simp;omega)).base hz
 ·exact rD (rD (rD KE (λk e=>by have:=g12 k e;simp;omega)) (λk e=>by have:=g12 k e;simp;omega)) (λk e=>by have:=g12 k e;simp;omega)
 ·exact rD (rD (rD GH (λk e=>by have:=g15 k e;simp;omega)) (λk e=>by have:=g15 k e;simp;omega)) (λk e=>by have:=g15 k e;simp;omega)
def CI.LU{p:aP×υ}(h:CI No b w W g s1 s2 pv (ζ (φ ⟨rb,0,ν⟩) n c) tv bs ts)(hx:bs[i]?=φ p)(hu:(j5 p)[j]?=φ u): W.cell? ⟨rb,i * 3+j,ν⟩=φ u:=by
 have hn:=GK h.bo;have h2:=h.bo;rw[<-hn] at h2;have:=Kx h2 _ _ (L9 (f:=j5) (sz:=3) (λ_=>rfl) bs i _ j u hx hu)
 rwa[uG] at this
def CI.LV{p:Tape×υ}(h:CI No b w W g s1 s2 pv bv (ζ (φ ⟨rb,0,ν⟩) n c) bs ts)(hx:ts[i]?=φ p)(hu:(iC p)[j]?=φ u): W.cell? ⟨rb,i * 3+j,ν⟩=φ u:=by
 have hn:=GK h.t;have h2:=h.t;rw[<-hn] at h2;have:=Kx h2 _ _ (L9 (f:=iC) (sz:=3) (λ_=>rfl) ts i _ j u hx hu)
 rwa[uG] at this
def CI.aiB(h:CI No b w W g s1 s2 pv (ζ (φ ⟨rb,0,ν⟩) n c) tv bs ts)(i:Nat): W.frozen? ⟨rb,i,ν⟩=χ:=by
 rcases h.bo.2 with⟨h0,_⟩ | ⟨g',Di,cur,h1,_,h3,_⟩
 ·cases h0
 ·injection h1 with h1;injection h1 with h1;injection h1 with h1;subst h1
  rw[Go.Sim.Ds (a:=⟨rb,i,ν⟩) h3];rfl
def CI.aiC(h:CI No b w W g s1 s2 pv bv (ζ (φ ⟨rb,0,ν⟩) n c) bs ts)(i:Nat): W.frozen? ⟨rb,i,ν⟩=χ:=by
 rcases h.t.2 with⟨h0,_⟩ | ⟨g',Di,cur,h1,_,h3,_⟩
 ·cases h0
 ·injection h1 with h1;injection h1 with h1;injection h1 with h1;subst h1
  rw[Go.Sim.Ds (a:=⟨rb,i,ν⟩) h3];rfl
def CI.Of(h:CI No b w W g s1 s2 pv bv tv bs ts)(hi:i<4):CI No b w (W.setCell ⟨g+1,i,ν⟩ u) g s1 s2 pv bv tv bs ts:=by
 have g1:=h.g1;have g2:=h.g2;have hG:=Bs W ⟨g+1,i,ν⟩ u;have hN:∀k,φ (g+1)=φ k->xU No g bv tv k:=λk e=>Đ (Đ (Or.inl (by injection e with e;exact e.symm)))
 refine⟨h.box.fS (by simp) _,?_,rD h.p (λk e=>by have:=kY h.p k e;simp;omega),rD h.bo (λk e=>by have:=kY h.bo k e;simp;omega),rD h.t (λk e=>by have:=kY h.t k e;simp;omega),h.vy,h.wa,λp hp=>(h.kn p hp).grown hG hN,λp hp=>(h.tp p hp).grown hG hN,h.below.setCell (by simp) _,h.gz,h.g1,h.g2,h.pl,h.bl⟩
 obtain⟨u0,u1,u2,u3,hr⟩:=h.res;have:=hr.set i u;match i,hi with
 |0,_=>exact⟨u,u1,u2,u3,this⟩
 |1,_=>exact⟨u0,u,u2,u3,this⟩
 |2,_=>exact⟨u0,u1,u,u3,this⟩
 |3,_=>exact⟨u0,u1,u2,u,this⟩
def EO{w:Ψ}{sz:Nat}{R':α×β->List υ->Prop}{R:α->List υ->Prop}{ps:List (α×β)}(h:Row w B sz R' v ps)(hR:∀p∈ps,∀cs,R' p cs->R p.1 cs):Row w B sz R v (ps.map ġ):=by
 obtain⟨A,c,hv,h1,h2,h3⟩:=h;refine⟨A,c,by rw[Ġ];exact hv,by rw[Ġ];exact h1,h2,λau=>?_⟩
 obtain⟨ad,ha,hb,hc⟩:=h3 (by intro e;rw[e] at au;exact au rfl)
 refine⟨ad,ha,hb,λi x hi=>?_⟩
 rw[List.getElem?_map] at hi
 cases e:ps[i]? with
 |none=>rw[e] at hi;cases hi
 |some p=>
  rw[e] at hi;simp at hi;subst hi
  obtain⟨cs,r,hl,aq⟩:=hc i p e;exact⟨cs,hR p (ϡ e) cs r,hl,aq⟩
def CI.afi(h:CI No b w W g s1 s2 pv bv tv bs ts)(hp:∀p∈b.pieces,p.name.size<=ϕ)(hx:∀x∈b.aF,x.name.size<=ϕ)(DF:∀k,No k->k<g):wu W No b pv bv tv bs ts:=by
 have g1:=h.g1;have g2:=h.g2;refine⟨de.Cp h.p (λ_=>rfl) (λp hm=>⟨rfl,hp p hm⟩) (λk hk=>by have:=DF k hk;omega),de.Cp h.bo (λ_=>rfl) (λp hm=>rfl) (λk hk=>by have:=DF k hk;omega),de.Cp h.t (λ_=>rfl) (λp hm=>rfl) (λk hk=>by have:=DF k hk;omega),h.vy,h.wa,λp hm=>⟨hx p.1 ?_,(h.kn p hm).weaken λk hk=>Đ (Đ (Đ hk))⟩,λp hm=>(h.tp p hm).weaken λk hk=>Đ (Đ (Đ hk))⟩
 rw[<-h.vy];exact Ĭ.2 ⟨p,hm,rfl⟩
def wu.grown{W':Ψ}{row:Option Nat}(h:wu W No b pv bv tv bs ts)(hg:W.grownBy W' row)(hr:∀k,row=φ k->No k):wu W' No b pv bv tv bs ts:=
 ⟨h.p.grown hg hr,h.bo.grown hg hr,h.t.grown hg hr,h.vy,h.wa,λp hp=>⟨(h.kn p hp).1,(h.kn p hp).2.grown hg hr⟩,λp hp=>(h.tp p hp).grown hg hr⟩
def wu.book(h:wu W No b pv bv tv bs ts):bq W W.heap.size b pv bv tv:=by
 refine⟨h.p.row,?_,?_⟩
 ·rw[<-h.vy]
  exact EO h.bo.row (λp hm cs hc=>⟨p.2,hc,(h.kn p hm).1,(h.kn p hm).2.row⟩)
 ·rw[<-h.wa]
  exact EO h.t.row (λp hm cs hc=>⟨p.2,hc,(h.tp p hm).row⟩)
def bq.AK{B:Nat}(h:bq W B b pv bv tv)(hB:B<=W.heap.size)(hN:∀k,No k->B<=k):∃bs ts,wu W No b pv bv tv bs ts:=by
 obtain⟨bs,kV,qj⟩:=NY (R':=λ(p:aP×υ) cs=>cs=j5 p/\p.1.name.size<=ϕ/\Row W B 2 Span.R p.2 p.1.aU) h.aF (λx cs ⟨kv,h1,h2,h3⟩=>⟨kv,h1,h2,h3⟩)
 obtain⟨ts,oH,vP⟩:=NY (R':=λ(p:Tape×υ) cs=>cs=iC p/\Row W B 1 cH p.2 p.1.pieces) h.aM (λx cs ⟨kv,h1,h3⟩=>⟨kv,h1,h3⟩)
 have uP:∀p∈bs,p.1.name.size<=ϕ/\Row W B 2 Span.R p.2 p.1.aU:=λp hp=>by obtain⟨cs,h1,h2⟩:=qj.mem p hp;exact h2
 have yF:∀p∈ts,Row W B 1 cH p.2 p.1.pieces:=λp hp=>by obtain⟨cs,h1,h2⟩:=vP.mem p hp;exact h2
 exact⟨bs,ts,h.pieces.AK hB hN,(qj.still (Δ.refl W) λ_ _ h=>h.1).AK hB hN,(vP.still (Δ.refl W) λ_ _ h=>h.1).AK hB hN,kV,oH,λp hp=>⟨(uP p hp).1,(uP p hp).2.AK hB hN⟩,λp hp=>(yF p hp).AK hB hN⟩
end
def apP(x:Piece):∀u∈Cv x,u.oneCell'=θ:=by simp[Cv,Value.oneCell']
def al5(x:Int):∀u∈ [ξ κ x],u.oneCell'=θ:=by simp[Value.oneCell']
def asj(x:Span):∀u∈Span.vs x,u.oneCell'=θ:=by simp[Span.vs,Value.oneCell']
def VX(v:υ):Prop:=∃A n c,v=ζ A n c
def vV{base:Nat}{e:TypeId}{sz:Nat}(h:w.ownsRow base e sz v n xs):VX v:=qx h
def copied{No:Nat->Prop}{bs:List (aP×υ)}{ts:List (Tape×υ)}(hN:wu w No b pv bv tv bs ts)(DF:∀k,No k->k<w.heap.size)(hv:Valid b):
 ύ prog 136 #[η #[ξ κ b.ab,pv,bv,tv]] w λe w'=>∃oN oz mK vx xC,e=Ω (η #[ξ κ b.ab,oN,oz,mK])/\wu w' No b oN oz mK vx xC/\Γ w.heap.size w w':=by
 have ai:=hN.book;have HP:Hid (Row w w.heap.size 4 (λx cs=>cs=Cv x) pv b.pieces):=ψ (ai.pieces.still (Δ.refl w) λ_ _ h=>h.1)
 have kV:=hN.vy;have oH:=hN.wa;have uP:∀p∈bs,de w No 2 Span.R p.2 p.1.aU:=λp hp=>(hN.kn p hp).2
 have yF:∀p∈ts,de w No 1 cH p.2 p.1.pieces:=hN.tp
 have HPO:Hid (∀p∈b.pieces,p.name.size<=ϕ):=ψ (λp hp=>by obtain⟨cs,h1,h2⟩:=ai.pieces.mem p hp;exact h2)
 have HXO:Hid (∀x∈b.aF,x.name.size<=ϕ):=ψ (λp hp=>by obtain⟨cs,kv,h1,h2,h3⟩:=ai.aF.mem p hp;exact h2)
 have xO:Hid (Row w w.heap.size 3 (λp cs=>cs=j5 p) bv bs):=ψ hN.bo.row
 have HTR:Hid (Row w w.heap.size 3 (λp cs=>cs=iC p) tv ts):=ψ hN.t.row
 have zz:=ψ DF;have hB:w.heap.size<=w.heap.size:=ϊ _;have Jl:∀p∈bs,∀u∈j5 p,u.oneCell'=θ:=λp hp u hu=>by
  obtain⟨A,c,e,_⟩:=(uP p hp);simp[j5] at hu;rcases hu with rfl|rfl|rfl
  ·rfl
  ·rfl
  ·rw[e];rfl
 have ZY:∀p∈ts,∀u∈iC p,u.oneCell'=θ:=λp hp u hu=>by
  obtain⟨A,c,e,_⟩:=yF p hp;simp[iC] at hu;rcases hu with rfl|rfl|rfl
  ·rw[e];rfl
  ·rfl
  ·rfl
 have nv:bs.length=b.aF.length:=by rw[<-kV,Ġ]
 have Cd:ts.length=b.aM.length:=by rw[<-oH,Ġ]
 have C1:Hid (∀w',Δ w.heap.size w w'->w.heap.size<=w'.heap.size->ύ prog 155 #[pv] w' λe bB=>∃v',e=Ω v'/\bB.ownsRow w'.heap.size 72 4 v' b.pieces.length (b.pieces.flatMap Cv)/\Γ w'.heap.size w' bB):=
  ψ λw' hs hz=>agb (HP.e.still hs λ_ _ h=>h) hz (λ_=>rfl) (λp _=>apP p) (by have:=hv.np;omega)
 have C2:Hid (∀w',Δ w.heap.size w w'->w.heap.size<=w'.heap.size->ύ prog 135 #[bv] w' λe bB=>∃v',e=Ω v'/\bB.ownsRow w'.heap.size 59 3 v' bs.length (bs.flatMap j5)/\Γ w'.heap.size w' bB):=
  ψ λw' hs hz=>Xc (xO.e.still hs λ_ _ h=>h) hz (λ_=>rfl) Jl (by have:=hv.nb;omega)
 have C3:Hid (∀w',Δ w.heap.size w w'->w.heap.size<=w'.heap.size->ύ prog 158 #[tv] w' λe bB=>∃v',e=Ω v'/\bB.ownsRow w'.heap.size 95 3 v' ts.length (ts.flatMap iC)/\Γ w'.heap.size w' bB):=
  ψ λw' hs hz=>agi (HTR.e.still hs λ_ _ h=>h) hz (λ_=>rfl) ZY (by have:=hv.nt;omega)
 have HM:=ψ (Ϗ uP (Ϗ yF (Ϗ kV (Ϗ oH (Ϗ nv Cd)))));obtain⟨A1,n1,c1,rfl,-⟩:=ai.pieces.Φ;obtain⟨A2,n2,c2,rfl,-⟩:=ai.aF.Φ;obtain⟨A3,n3,c3,rfl,-⟩:=ai.aM.Φ;have HV:=ψ hv;clear ai hv uP yF Jl ZY kV oH nv Cd hN DF;go_enter func136,Tryz.ntmps136;go_wp2;obtain⟨W0,vC⟩:∃W0,W0=((w.alloc (Ξ #[ξ κ b.ab,ζ A1 n1 c1,ζ A2 n2 c2,ζ A3 n3 c3] 26)).alloc (Ξ #[ξ κ 0,ζ ν 0 0,ζ ν 0 0,ζ ν 0 0] 26)):=⟨_,rfl⟩
 rw[<-vC];have kb:Bk W0 w.heap.size 26 #[ξ κ b.ab,ζ A1 n1 c1,ζ A2 n2 c2,ζ A3 n3 c3]:=by rw[vC];exact(Bk.new w _ _).alloc _
 have kr:Bk W0 (w.heap.size+1) 26 #[ξ κ 0,ζ ν 0 0,ζ ν 0 0,ζ ν 0 0]:=by rw[vC];exact Bk.cD (by simp) _ _
 have bw:Γ w.heap.size w W0:=by rw[vC];exact(((ώ _ _).alloc (ϊ _) _).alloc (by simp) _)
 have dp:W0.heap.size=w.heap.size+2:=by rw[vC];simp
 have KB:=ψ (Ϗ kb kr);have BW:=ψ bw;have k1:=kb.cell 1;have k2:=kb.cell 2;have k3:=kb.cell 3;clear vC kb kr bw;have KD:Hid (Bk W0.drew w.heap.size 26 #[ξ κ b.ab,ζ A1 n1 c1,ζ A2 n2 c2,ζ A3 n3 c3]):=ψ KB.e.1;have BD:Hid (Γ w.heap.size w W0.drew):=ψ (oT BW.e);have ZD:w.heap.size<W0.drew.heap.size:=KD.e.lt;have SB:Hid (∀w',Γ w.heap.size w w'->Δ w.heap.size w w'/\w.heap.size<=w'.heap.size):=ψ λw' h=>⟨Δ.aN h hB,by have:=h.size;omega⟩
 refine Code.wp_mono (Q:=fG λa W=>∃A9 n9 c9 sB oK c12 wj n15 c15,a={tmps:=#[Value.agg #[ϛ ϗ b.ab,Value.slice A1 n1 c1,Value.slice A2 n2 c2,Value.slice A3 n3 c3],Value.pointer (φ {block:=w.heap.size,off:=0}),Value.pointer (φ {block:=w.heap.size+1,off:=0}),ω,ω,ω,ω,Value.pointer (φ {block:=w.heap.size,off:=1}),Value.slice A1 n1 c1,Value.slice A9 n9 c9,Value.pointer (φ {block:=w.heap.size,off:=2}),Value.slice A2 n2 c2,Value.slice sB oK c12,Value.pointer (φ {block:=w.heap.size,off:=3}),Value.slice A3 n3 c3,Value.slice wj n15 c15,Value.pointer (φ {block:=w.heap.size,off:=1}),Value.pointer (φ {block:=w.heap.size,off:=2}),Value.pointer (φ {block:=w.heap.size,off:=3}),ω,ω,ω,ω,ω,ω,ω,ω,ω,ω,ω,ω,ω,ω,ω,ω,ω,ω,ω,ω,ω,ω,ω,ω,ω,ω,ω,ω,ω,ω,ω,ω,ω,ω,ω],defers:=[]}/\Hid (∃s1 s2,CI No b w W w.heap.size s1 s2 (ζ A9 n9 c9) (ζ sB oK c12) (ζ wj n15 c15) bs ts)) ?post ?region
 case region=>
  go_region_with (first
   | (go_at_call 155
      refine(C1.e _ ?h1 ?h2).mono ?_
      case h1=>exact(SB.e _ BD.e).1
      case h2=>exact(SB.e _ BD.e).2
      rintro e w3 ⟨v9,rfl,o9,bM⟩;have k1: w3.cell? ⟨w.heap.size,1,ν⟩=φ (ζ A1 n1 c1):=(KD.e.below bM ZD).cell 1;have k2: w3.cell? ⟨w.heap.size,2,ν⟩=φ (ζ A2 n2 c2):=(KD.e.below bM ZD).cell 2;have k3: w3.cell? ⟨w.heap.size,3,ν⟩=φ (ζ A3 n3 c3):=(KD.e.below bM ZD).cell 3;have mC:=ψ bM;have O9:=ψ o9;obtain⟨A9,n9,c9,rfl⟩:=vV o9;clear bM o9)
   | (go_at_call 135
      refine(C2.e _ ?h1 ?h2).mono ?_
      case h1=>exact(SB.e _ (BD.e.trans (mC.e.mono (é ZD)))).1
      case h2=>exact(SB.e _ (BD.e.trans (mC.e.mono (é ZD)))).2
      rintro e w4 ⟨v12,rfl,xy,cx⟩;have k3: w4.cell? ⟨w.heap.size,3,ν⟩=φ (ζ A3 n3 c3):=((KD.e.below mC.e ZD).below cx (by have:=mC.e.size;omega)).cell 3
      have pX:=ψ cx;have Fg:=ψ xy;obtain⟨sB,oK,c12,rfl⟩:=vV xy;clear cx xy)
   | (go_at_call 158
      refine(C3.e _ ?h1 ?h2).mono ?_
      case h1=>exact(SB.e _ ((BD.e.trans (mC.e.mono (é ZD))).trans (pX.e.mono (by have:=mC.e.size;omega)))).1
      case h2=>exact(SB.e _ ((BD.e.trans (mC.e.mono (é ZD))).trans (pX.e.mono (by have:=mC.e.size;omega)))).2
      rintro e w5 ⟨jD,rfl,GH,mF⟩;have AY:Hid (Bk w5 w.heap.size 26 #[ξ κ b.ab,ζ A1 n1 c1,ζ A2 n2 c2,ζ A3 n3 c3]):=ψ (((KD.e.below mC.e ZD).below pX.e (by have:=mC.e.size;omega)).below mF (by have:=mC.e.size;have:=pX.e.size;omega))
      have z5:w.heap.size<w5.heap.size:=AY.e.lt;have f1: w5.frozen? ⟨w.heap.size,1,ν⟩=χ:=AY.e.frozen 1;have f2: w5.frozen? ⟨w.heap.size,2,ν⟩=χ:=AY.e.frozen 2;have f3: w5.frozen? ⟨w.heap.size,3,ν⟩=χ:=AY.e.frozen 3;have k1: w5.cell? ⟨w.heap.size,1,ν⟩=φ (ζ A1 n1 c1):=AY.e.cell 1;have k2: w5.cell? ⟨w.heap.size,2,ν⟩=φ (ζ A2 n2 c2):=AY.e.cell 2;have k3: w5.cell? ⟨w.heap.size,3,ν⟩=φ (ζ A3 n3 c3):=AY.e.cell 3;have sC:=ψ mF;have O15:=ψ GH;obtain⟨wj,n15,c15,rfl⟩:=vV GH;clear mF GH))
  all_goals
   show ∃_,_
   refine⟨_,_,_,_,_,_,_,_,_,rfl,ψ ⟨w3.heap.size,w4.heap.size,?_⟩⟩
   have e3:=mC.e.size;have e4:=pX.e.size;have hd0:w.heap.size+2<=W0.drew.heap.size:=ÿ dp.symm;refine CI.start (W:=w5) mC.e pX.e sC.e hd0 AY.e (((KB.e.2.drew.below mC.e (by omega)).below pX.e (by omega)).below sC.e (by omega)) O9.e Fg.e O15.e HM.e.2.2.1 HM.e.2.2.2.1 HM.e.1 HM.e.2.1 zz.e BD.e
 case post=>
  clear C1 C2 C3 KB KD BD BW HP k1 k2 k3 SB;refine fG.imp ?_
  rintro a W ⟨A9,n9,c9,sB,oK,c12,wj,n15,c15,rfl,s1,s2,HC⟩;have Zc:oK=bs.length:=GK HC.bo;have Zd:n15=ts.length:=GK HC.t;have au5:oK<=3:=by have:=HV.e.nb;have:=HM.e.2.2.2.2.1;omega
  have au7:n15<=4:=by have:=HV.e.nt;have:=HM.e.2.2.2.2.2;omega
  have k2: W.cell? ⟨w.heap.size,2,ν⟩=φ (ζ sB oK c12):=HC.box.cell 2;have auz:oK<=c12/\c12<=2 ^ 63 - 1:=abo HC.bo;have auA:n15<=c15/\c15<=2 ^ 63 - 1:=abo HC.t;have HL:=ψ (Ϗ Zc Zd);clear Zc Zd;have HC:=ψ HC;rename_i Pk;clear Pk ZD dp;go_wp2;clear k2;go_loopw [22] (λu wr=>∃i:Nat,i<=oK/\u=ξ κ i/\Hid (∃vx,CI No b w wr w.heap.size s1 s2 (ζ A9 n9 c9) (ζ sB oK c12) (ζ wj n15 c15) vx ts)) (λu _=>oK - (ϙ u).toNat)
  case atStart=>exact⟨0,Ϡ _,rfl,ψ ⟨bs,HC.e⟩⟩
  case round=>
   obtain⟨i,hi,rfl,vx,hC⟩:=hrel;by_cases aj:i<oK
   ·obtain⟨rb,rfl⟩:=abr hC.bo (by omega)
    have Aa:oK=vx.length:=GK hC.bo;obtain⟨⟨x,kv⟩,hx⟩:∃p,vx[i]?=φ p:=⟨_,Ä (by omega)⟩
    have cM:=hC.kn _ (ϡ hx);simp only at cM;have hxs:x.aU.length<=3:=by
     have:x∈b.aF:=by rw[<-hC.vy];exact Ĭ.2 ⟨_,ϡ hx,rfl⟩
     exact(HV.e.bm x this).aU
    obtain⟨kn,z7⟩:∃k,k=x.aU:=⟨_,rfl⟩
    rw[<-z7] at cM hxs;obtain⟨m5,yz⟩:∃m,m=kn.length:=⟨_,rfl⟩
    obtain⟨A5,c5,rfl,-⟩:=id cM;rw[<-yz] at cM hxs hx;have g0: wr.cell? ⟨rb,i * 3,ν⟩=φ (.string x.name):=hC.LU (j:=0) hx rfl;have g1: wr.cell? ⟨rb,i * 3+1,ν⟩=φ (ξ κ x.aw):=hC.LU (j:=1) hx rfl;have g2: wr.cell? ⟨rb,i * 3+2,ν⟩=φ (ζ A5 m5 c5):=hC.LU (j:=2) hx rfl;have sS:rb<wr.heap.size:=Cu hC.bo rb rfl;have DX:w.heap.size<rb:=by have:=kY hC.bo rb rfl;have:=hC.g1;omega
    have HX:=ψ (Ϗ hx (Ϗ z7 yz));have Is:=ψ cM;have xP:=ψ hC;clear hx cM hC z7 yz Aa;go_wp2;have uK:=xP.e.grown (W':=(wr.alloc (Ξ #[.string x.name,ξ κ x.aw,ζ A5 m5 c5] 59)).drew) (wV wr _ ν);have Pp:=ψ uK;have Kf:(wr.alloc (Ξ #[.string x.name,ξ κ x.aw,ζ A5 m5 c5] 59)).drew.cell? ⟨w.heap.size,2,ν⟩=φ (ζ (φ ⟨rb,0,ν⟩) oK c12):=uK.box.cell 2;have Jf:(wr.alloc (Ξ #[.string x.name,ξ κ x.aw,ζ A5 m5 c5] 59)).drew.cell? ⟨wr.heap.size,2,ν⟩=φ (ζ A5 m5 c5):=(Bk.new wr _ _).cell 2;have aE:Hid (ύ prog 179 #[ζ A5 m5 c5] (wr.alloc (Ξ #[.string x.name,ξ κ x.aw,ζ A5 m5 c5] 59)).drew λe w'=>∃v',e=Ω v'/\
     de w' (xU No w.heap.size (ζ (φ ⟨rb,0,ν⟩) oK c12) (ζ wj n15 c15)) 2 Span.R v' kn/\Γ (wr.alloc (Ξ #[.string x.name,ξ κ x.aw,ζ A5 m5 c5] 59)).drew.heap.size (wr.alloc (Ξ #[.string x.name,ξ κ x.aw,ζ A5 m5 c5] 59)).drew w'):=ψ (by
     have hk:=Is.e.grown (w':=(wr.alloc (Ξ #[.string x.name,ξ κ x.aw,ζ A5 m5 c5] 59)).drew) (wV wr _ ν) (by simp)
     obtain⟨r0,r1,r2,r3,rB⟩:=uK.res;refine(age hk.row (ϊ _) (λ_=>rfl) (λp _=>asj p) (by rw[<-HX.e.2.2];omega)).mono ?_
     rintro e w' ⟨v',rfl,ho,hb⟩;refine⟨v',rfl,de.Cp ho (λ_=>rfl) (λ_ _=>rfl) (λk hk=>?_),hb⟩
     rcases hk with hk|hk|hk|hk
     ·exact Cu uK.bo k hk
     ·exact Cu uK.t k hk
     ·rw[hk];exact rB.lt
     ·have:=zz.e k hk;have:=rB.lt;omega)
    clear uK;go_region_held3 (λw'=> w'.cell? ⟨w.heap.size,2,ν⟩=φ (ζ (φ ⟨rb,0,ν⟩) oK c12)/\ w'.cell? ⟨wr.heap.size,2,ν⟩=φ (ζ A5 m5 c5))
     (first|exact⟨Kf,Jf⟩ |exact⟨sT,ak⟩ |exact⟨yJ _,gW _⟩)
     (first
       | (go_at_call 179
          refine aE.e.mono ?_
          rintro e w5 ⟨v9,rfl,r9,sL⟩;obtain⟨A7,c7,rfl,-⟩:=id r9;have sT: w5.cell? ⟨w.heap.size,2,ν⟩=φ (ζ (φ ⟨rb,0,ν⟩) oK c12):=(sL.cell (by simp;omega)).trans Kf
          have ak: w5.cell? ⟨wr.heap.size,2,ν⟩=φ (ζ A5 m5 c5):=(sL.cell (by simp)).trans Jf
          have dh:=Pp.e.grown (py sL (ϊ _) ν);have hg: w5.cell? ⟨rb,i * 3+2,ν⟩=φ (ζ A5 m5 c5):=dh.LU (j:=2) HX.e.1 rfl;have hf: w5.frozen? ⟨rb,i * 3+2,ν⟩=χ:=dh.aiB _;have yJ:∀u,(w5.setCell ⟨rb,i * 3+2,ν⟩ u).cell? ⟨w.heap.size,2,ν⟩=φ (ζ (φ ⟨rb,0,ν⟩) oK c12):=λu=>(Aiq _ _ _ _ (by simp;omega)).trans sT
          have gW:∀u,(w5.setCell ⟨rb,i * 3+2,ν⟩ u).cell? ⟨wr.heap.size,2,ν⟩=φ (ζ A5 m5 c5):=λu=>(Aiq _ _ _ _ (by simp;omega)).trans ak
          have rO:=ψ (Ϗ r9 dh);clear sL r9 dh))
    go_wp2;go_roundw;case rel=>exact⟨i+1,by omega,by go_num,ψ ⟨_,rO.e.2.arx HX.e.1 (by rw[<-HX.e.2.1];exact rO.e.1)⟩⟩
    case measure=>simp[ϙ];omega
   ·obtain rfl:i=oK:=by omega
    have Pl:=ψ hC;obtain⟨wb,rfl⟩:∃wb:Ψ,wb=wr:=⟨_,rfl⟩
    have k3: wb.cell? ⟨w.heap.size,3,ν⟩=φ (ζ wj n15 c15):=hC.box.cell 3;clear hC;go_wp2;clear k3;go_loopw [39] (λu wr=>∃k:Nat,k<=n15/\u=ξ κ k/\Hid (∃xC,CI No b w wr w.heap.size s1 s2 (ζ A9 n9 c9) (ζ sB i c12) (ζ wj n15 c15) vx xC)) (λu _=>n15 - (ϙ u).toNat)
    case atStart=>exact⟨0,Ϡ _,rfl,ψ ⟨ts,Pl.e⟩⟩
    case round=>
     obtain⟨k,hk,rfl,xC,hC⟩:=hrel;by_cases aj:k<n15
     ·obtain⟨rb,rfl⟩:=abr hC.t (by omega)
      have Aa:n15=xC.length:=GK hC.t;obtain⟨⟨x,kv⟩,hx⟩:∃p,xC[k]?=φ p:=⟨_,Ä (by omega)⟩
      have cM:=hC.tp _ (ϡ hx);simp only at cM;have hxs:x.pieces.length<=3:=by
       have:x∈b.aM:=by rw[<-hC.wa];exact Ĭ.2 ⟨_,ϡ hx,rfl⟩
       have:=(HV.e.tape x this).2;have:=HV.e.np;omega
      obtain⟨kn,z7⟩:∃k,k=x.pieces:=⟨_,rfl⟩
      rw[<-z7] at cM hxs;obtain⟨m5,yz⟩:∃m,m=kn.length:=⟨_,rfl⟩
      obtain⟨A5,c5,rfl,-⟩:=id cM;rw[<-yz] at cM hxs hx;have g0: wr.cell? ⟨rb,k * 3,ν⟩=φ (ζ A5 m5 c5):=hC.LV (j:=0) hx rfl;have g1: wr.cell? ⟨rb,k * 3+1,ν⟩=φ (ξ κ x.sum.lo):=hC.LV (j:=1) hx rfl;have g2: wr.cell? ⟨rb,k * 3+2,ν⟩=φ (ξ κ x.sum.hi):=hC.LV (j:=2) hx rfl;have sS:rb<wr.heap.size:=Cu hC.t rb rfl;have DX:w.heap.size<rb:=by have:=kY hC.t rb rfl;have:=hC.g1;have:=hC.g2;omega
      have HX:=ψ (Ϗ hx (Ϗ z7 yz));have Is:=ψ cM;have xP:=ψ hC;clear hx cM hC z7 yz Aa;go_wp2;have uK:=xP.e.grown (W':=(wr.alloc (Ξ #[ζ A5 m5 c5,ξ κ x.sum.lo,ξ κ x.sum.hi] 95)).drew) (wV wr _ ν);have Pp:=ψ uK;have Kf:(wr.alloc (Ξ #[ζ A5 m5 c5,ξ κ x.sum.lo,ξ κ x.sum.hi] 95)).drew.cell? ⟨w.heap.size,3,ν⟩=φ (ζ (φ ⟨rb,0,ν⟩) n15 c15):=uK.box.cell 3;have Jf:(wr.alloc (Ξ #[ζ A5 m5 c5,ξ κ x.sum.lo,ξ κ x.sum.hi] 95)).drew.cell? ⟨wr.heap.size,0,ν⟩=φ (ζ A5 m5 c5):=(Bk.new wr _ _).cell 0;have aE:Hid (ύ prog 180 #[ζ A5 m5 c5] (wr.alloc (Ξ #[ζ A5 m5 c5,ξ κ x.sum.lo,ξ κ x.sum.hi] 95)).drew λe w'=>∃v',e=Ω v'/\
               de w' (xU No w.heap.size (ζ sB i c12) (ζ (φ ⟨rb,0,ν⟩) n15 c15)) 1 cH v' kn/\Γ (wr.alloc (Ξ #[ζ A5 m5 c5,ξ κ x.sum.lo,ξ κ x.sum.hi] 95)).drew.heap.size (wr.alloc (Ξ #[ζ A5 m5 c5,ξ κ x.sum.lo,ξ κ x.sum.hi] 95)).drew w'):=ψ (by
       have hk:=Is.e.grown (w':=(wr.alloc (Ξ #[ζ A5 m5 c5,ξ κ x.sum.lo,ξ κ x.sum.hi] 95)).drew) (wV wr _ ν) (by simp)
       obtain⟨r0,r1,r2,r3,rB⟩:=uK.res;refine(af8 (f:=λn=> [ξ κ n]) hk.row (ϊ _) (λ_=>rfl) (λp _=>al5 p) (by rw[<-HX.e.2.2];omega)).mono ?_
       rintro e w' ⟨v',rfl,ho,hb⟩;refine⟨v',rfl,de.Cp ho (λ_=>rfl) (λ_ _=>rfl) (λk hk=>?_),hb⟩
       rcases hk with hk|hk|hk|hk
       ·exact Cu uK.bo k hk
       ·exact Cu uK.t k hk
       ·rw[hk];exact rB.lt
       ·have:=zz.e k hk;have:=rB.lt;omega)
      clear uK;go_region_held3 (λw'=> w'.cell? ⟨w.heap.size,3,ν⟩=φ (ζ (φ ⟨rb,0,ν⟩) n15 c15)/\ w'.cell? ⟨wr.heap.size,0,ν⟩=φ (ζ A5 m5 c5))
       (first|exact⟨Kf,Jf⟩ |exact⟨sT,ak⟩ |exact⟨yJ _,gW _⟩)
       (first
               | (go_at_call 180
                  refine aE.e.mono ?_
                  rintro e w5 ⟨v9,rfl,r9,sL⟩;obtain⟨A7,c7,rfl,-⟩:=id r9;have sT: w5.cell? ⟨w.heap.size,3,ν⟩=φ (ζ (φ ⟨rb,0,ν⟩) n15 c15):=(sL.cell (by simp;omega)).trans Kf
                  have ak: w5.cell? ⟨wr.heap.size,0,ν⟩=φ (ζ A5 m5 c5):=(sL.cell (by simp)).trans Jf
                  have dh:=Pp.e.grown (py sL (ϊ _) ν);have hg: w5.cell? ⟨rb,k * 3,ν⟩=φ (ζ A5 m5 c5):=dh.LV (j:=0) HX.e.1 rfl;have hf: w5.frozen? ⟨rb,k * 3,ν⟩=χ:=dh.aiC _;have yJ:∀u,(w5.setCell ⟨rb,k * 3,ν⟩ u).cell? ⟨w.heap.size,3,ν⟩=φ (ζ (φ ⟨rb,0,ν⟩) n15 c15):=λu=>(Aiq _ _ _ _ (by simp;omega)).trans sT
                  have gW:∀u,(w5.setCell ⟨rb,k * 3,ν⟩ u).cell? ⟨wr.heap.size,0,ν⟩=φ (ζ A5 m5 c5):=λu=>(Aiq _ _ _ _ (by simp;omega)).trans ak
                  have rO:=ψ (Ϗ r9 dh);clear sL r9 dh))
      go_wp2;go_roundw;case rel=>exact⟨k+1,by omega,by go_num,ψ ⟨_,rO.e.2.arz HX.e.1 (by rw[<-HX.e.2.1];exact rO.e.1)⟩⟩
      case measure=>simp[ϙ];omega
     ·obtain rfl:k=n15:=by omega
      have q0:=hC.box.cell 0;have q1:=hC.box.cell 1;have q2:=hC.box.cell 2;have q3:=hC.box.cell 3;obtain⟨r0,r1,r2,r3,rB⟩:=hC.res;have p0:=rB.cell 0;have p1:=rB.cell 1;have p2:=rB.cell 2;have p3:=rB.cell 3;have f0:=rB.frozen 0;have f1:=rB.frozen 1;have f2:=rB.frozen 2;have f3:=rB.frozen 3;have qT:w.heap.size+1<wr.heap.size:=rB.lt;have xP:=ψ hC;clear hC;have xm:=((((rB.set 0 (ξ κ b.ab)).set 1 (ζ A9 n9 c9)).set 2 (ζ sB i c12)).set 3 (ζ wj k c15));have y0:=xm.cell 0;have y1:=xm.cell 1;have y2:=xm.cell 2;have y3:=xm.cell 3;have VD:=ψ ((((xP.e.Of (i:=0) (u:=ξ κ b.ab) (by omega)).Of (i:=1) (u:=ζ A9 n9 c9) (by omega)).Of (i:=2) (u:=ζ sB i c12) (by omega)).Of (i:=3) (u:=ζ wj k c15) (by omega))
      clear rB xm;go_wp2;refine bodyPost_ret (v:=η #[ξ κ b.ab,ζ A9 n9 c9,ζ sB i c12,ζ wj k c15]) (by simp[results,Tryz.results136,go_sem,y0,y1,y2,y3]) rfl ⟨_,_,_,_,_,rfl,VD.e.afi HPO.e HXO.e zz.e,VD.e.below⟩
def AD{P:Program}{ops:Array Oper}{o:Oper}{a:Act}{w:Ψ}{K:Act->Ψ->Prop}{Q:Exit->Act->Ψ->Prop}{E:Prop}(hg:o.guard=ν)(s x:Operand)(t:TypeId)
 (ho:o.op=.call {callee:=.builtin .append,args:=#[s,x],argTypes:=#[t,t]})
 (base:Nat)(e:TypeId)(i:TypeInfo)(z:υ)(size bytes:Nat)(ht:P.underlying t=φ (.slice e))(hi: P.info? e=φ i)(hz:i.zero=φ z)
 (Eh:i.size=size)(Ry:i.bytes=bytes)(hzs:z.cells.size=size)(aL:0<size)
 (v:υ)(n:Nat)(xs:List υ)(hs:a.eval s=v)(aK:w.ownsRow base e size v n xs)
 (ad:Addr)(m c:Nat)(news:List υ)(hx:a.eval x=ζ (φ ad) m c)(hl:news.length=m * size)(MR:∀j u,news[j]?=φ u-> w.cell? (ad.add j)=φ u)(h1:∀u∈news,u.oneCell'=θ)
 (Yh:n+m<=ϕ)(ajJ:(n+m) * bytes<=140737488355328)(Rq:base<=w.heap.size)
 (h:∀v' w',w'.ownsRow base e size v' (n+m) (xs++news)->w.grownBy w' v.ownBlock->K (a.put o.dst v') w'):if Region.wanted o (yielded ops a.tmps)=θ then Oper.wp P o a w K Q else E:=by
 have hw:Region.wanted o (yielded ops a.tmps)=θ:=by simp[Region.wanted,hg]
 rw[if_pos hw];exact wp_append_own w s x t ho base e i z size bytes ht hi hz Eh Ry hzs aL v n xs hs aK ad m c news hx hl MR h1 Yh ajJ Rq λv' w' h2 h3 _=>h v' w' h2 h3
def kZ(b:an)(x:aP):an:={b with aF:=b.aF++ [x]}
def aeG{w1:Ψ}{bs:List (aP×υ)}{kv vg:υ}(hB:B<=w.heap.size)(ai:bq w B b pv bv tv)(Nb:x.name.size<=ϕ)(J6:Row w B 2 Span.R kv x.aU)
 (uP:∀p∈bs,p.1.name.size<=ϕ/\Row w B 2 Span.R p.2 p.1.aU)(kV:bs.map ġ=b.aF)(h1:Γ w.heap.size w w1)(h6:Γ w1.heap.size w1 w6)(hz:w.heap.size+3<=w1.heap.size)
 (o:w6.ownsRow w1.heap.size 59 3 vg (bs.length+1) (bs.flatMap j5++ [.string x.name,ξ κ x.aw,kv]))
 (kb:Bk w1 w.heap.size 26 #[ξ κ b.ab,pv,bv,tv])(kr:Bk w1 (w.heap.size+2) 26 #[ξ κ 0,ζ ν 0 0,ζ ν 0 0,ζ ν 0 0]):
 (∃vx xC,wu (w6.setCell ⟨w.heap.size,2,ν⟩ vg) (λk=>k=w.heap.size+2) (kZ b x) pv vg tv vx xC)/\Bk (w6.setCell ⟨w.heap.size,2,ν⟩ vg) w.heap.size 26 #[ξ κ b.ab,pv,vg,tv]/\
 Bk (w6.setCell ⟨w.heap.size,2,ν⟩ vg) (w.heap.size+2) 26 #[ξ κ 0,ζ ν 0 0,ζ ν 0 0,ζ ν 0 0]/\Γ w.heap.size w (w6.setCell ⟨w.heap.size,2,ν⟩ vg)/\VX vg:=by
 have e6:=h6.size;have bW:Γ w.heap.size w (w6.setCell ⟨w.heap.size,2,ν⟩ vg):=(h1.trans (h6.mono (by omega))).setCell (ϊ _) _
 have o':(w6.setCell ⟨w.heap.size,2,ν⟩ vg).ownsRow w1.heap.size 59 3 vg (bs++ [(x,kv)]).length ((bs++ [(x,kv)]).flatMap j5):=by
  have:=sZ (u:=vg) (p:=⟨w.heap.size,2,ν⟩) o (by simp<;>omega)
  simpa [j5] using this
 have hN:∀k,k=w.heap.size+2->(λk=>w.heap.size<=k) k\/w.heap.size<=k:=λk hk=>Đ (by omega)
 obtain⟨bs0,ts,hn⟩:=ai.AK (No:=λk=>w.heap.size<=k) hB (λk hk=>by omega)
 refine⟨⟨bs++ [(x,kv)],ts,hn.p.below bW hN,de.Cp o' (λ_=>rfl) (λp hm=>rfl) (λk hk=>by omega),hn.t.below bW hN,by simp[kZ,kV],hn.wa,λp hm=>?_,λp hm=>(hn.tp p hm).below bW hN⟩,(kb.below h6 (by omega)).set 2 vg,(kr.below h6 (by omega)).fS (by simp) _,bW,vV o⟩
 rcases È.1 hm with hm|hm
 ·exact⟨(uP p hm).1,((uP p hm).2.AK (No:=λk=>w.heap.size<=k) hB (λk hk=>by omega)).below bW hN⟩
 ·simp at hm;subst hm
  exact⟨Nb,(J6.AK (No:=λk=>w.heap.size<=k) hB (λk hk=>by omega)).below bW hN⟩
def aeH{kv:υ}(hB:B<=w.heap.size)(ai:bq w B b pv bv tv)(Nb:x.name.size<=ϕ)(J6:Row w B 2 Span.R kv x.aU)(h0:dg b=0)(h1:dg (kZ b x)=0):
 ύ prog 53 #[η #[ξ κ b.ab,pv,bv,tv],η #[.string x.name,ξ κ x.aw,kv]] w λe w'=>∃oN oz mK,e=Ω (μ #[η #[ξ κ b.ab,oN,oz,mK],ξ κ 0])/\bq w' w'.heap.size (kZ b x) oN oz mK/\Γ w.heap.size w w':=by
 obtain⟨bs,kV,qj⟩:=NY (R':=λ(p:aP×υ) cs=>cs=j5 p/\p.1.name.size<=ϕ/\Row w B 2 Span.R p.2 p.1.aU) ai.aF (λx cs ⟨kv,h1,h2,h3⟩=>⟨kv,h1,h2,h3⟩)
 have uP:∀p∈bs,p.1.name.size<=ϕ/\Row w B 2 Span.R p.2 p.1.aU:=λp hp=>by obtain⟨cs,h1,h2⟩:=qj.mem p hp;exact h2
 have xO:Hid (Row w B 3 (λp cs=>cs=j5 p) bv bs):=ψ (qj.still (Δ.refl w) λ_ _ h=>h.1)
 have Jl:∀p∈bs,∀u∈j5 p,u.oneCell'=θ:=λp hp u hu=>by
  obtain⟨A,c,e,_⟩:=(uP p hp).2;simp[j5] at hu;rcases hu with rfl|rfl|rfl
  ·rfl
  ·rfl
  ·rw[e];rfl
 have nv:bs.length=b.aF.length:=by rw[<-kV,Ġ]
 have hv:=oc h0;have Gb:bs.length<=3:=by rw[nv];exact hv.nb
 have C2:Hid (∀w',Δ B w w'->B<=w'.heap.size->ύ prog 135 #[bv] w' λe bB=>∃v',e=Ω v'/\bB.ownsRow w'.heap.size 59 3 v' bs.length (bs.flatMap j5)/\Γ w'.heap.size w' bB):=
  ψ λw' hs hz=>Xc (xO.e.still hs λ_ _ h=>h) hz (λ_=>rfl) Jl (by omega)
 have HM:=ψ (Ϗ uP (Ϗ kV nv));have bV:=ψ ai;have HH:=ψ (Ϗ h0 (Ϗ h1 (Ϗ Nb J6)));obtain⟨A1,n1,c1,rfl,-⟩:=ai.pieces.Φ;obtain⟨A2,n2,c2,rfl,-⟩:=ai.aF.Φ;obtain⟨A3,n3,c3,rfl,-⟩:=ai.aM.Φ;obtain⟨A4,n4,c4,rfl,-⟩:=J6.Φ;obtain⟨i0,di,dp,aS,bu⟩:=info_parts aap;have cP:=ψ (Ϗ di (Ϗ dp (Ϗ aS bu)));clear ai qj uP Jl kV nv hv h0 h1 Nb J6 di dp aS bu;go_enter func53,Tryz.ntmps53;go_wp2_with (first
  | (go_at_call 68;refine(yb (bV.e.still ((((Δ.refl w).alloc hB _).alloc (by simp<;>omega) _).alloc (by simp<;>omega) _)) (by simp<;>omega) HH.e.1).mono ?_;rintro e w1 ⟨rfl,ag⟩
     have kb:Bk w1 w.heap.size 26 #[ξ κ b.ab,ζ A1 n1 c1,ζ A2 n2 c2,ζ A3 n3 c3]:=(((Bk.new w _ _).alloc _).alloc _).below ag (by simp<;>omega)
     have kx:Bk w1 (w.heap.size+1) 59 #[.string x.name,ξ κ x.aw,ζ A4 n4 c4]:=((Bk.cD (by simp<;>omega) _ _).alloc _).below ag (by simp<;>omega)
     have kr:Bk w1 (w.heap.size+2) 26 #[ξ κ 0,ζ ν 0 0,ζ ν 0 0,ζ ν 0 0]:=(Bk.cD (by simp<;>omega) _ _).below ag (by simp)
     have a8:Hid (Γ w.heap.size w w1):=ψ (((((ώ _ _).alloc (ϊ _) _).alloc (by simp) _).alloc (by simp<;>omega) _).trans (ag.mono (by simp<;>omega)))
     have HK:=ψ (Ϗ kb (Ϗ kx kr));clear kb kx kr ag))
 have k2: w1.cell? ⟨w.heap.size,2,ν⟩=φ (ζ A2 n2 c2):=HK.e.1.cell 2;have x0: w1.cell? ⟨w.heap.size+1,0,ν⟩=φ (.string x.name):=HK.e.2.1.cell 0;have x1: w1.cell? ⟨w.heap.size+1,1,ν⟩=φ (ξ κ x.aw):=HK.e.2.1.cell 1;have x2: w1.cell? ⟨w.heap.size+1,2,ν⟩=φ (ζ A4 n4 c4):=HK.e.2.1.cell 2;have hz:w.heap.size+3<=w1.heap.size:=HK.e.2.2.lt;have qp:w.heap.size<w1.heap.size:=by omega
 have akC:w.heap.size<=w1.heap.size:=by omega
 have akD:w.heap.size+1<w1.heap.size:=by omega
 have akE:w.heap.size+1<=w1.heap.size:=by omega
 have XD:Hid (Γ w1.heap.size w1 w1.drew):=ψ (oT (ώ _ _));have XA:Hid (∀o,Γ w1.heap.size w1 (w1.drew.alloc o)):=ψ λo=>(oT (ώ _ _)).alloc (ϊ _) o
 have SB:Hid (∀w',Γ w1.heap.size w1 w'->Δ B w w'/\B<=w'.heap.size):=ψ λw' h=>⟨Δ.aN (a8.e.trans (h.mono (by omega))) hB,by have:=h.size;omega⟩
 refine Code.wp_mono (Q:=fG λa W=>∃sB oK c12 v18 CV n19 c19,a={tmps:=#[Value.agg #[ξ κ b.ab,ζ A1 n1 c1,ζ A2 n2 c2,ζ A3 n3 c3],Value.agg #[.string x.name,ξ κ x.aw,ζ A4 n4 c4],Value.pointer (φ {block:=w.heap.size,off:=0}),Value.pointer (φ {block:=w.heap.size+1,off:=0}),Value.pointer (φ {block:=w.heap.size+1+1,off:=0}),ξ κ 0,ξ κ 0,ω,Value.agg #[ξ κ b.ab,ζ A1 n1 c1,ζ A2 n2 c2,ζ A3 n3 c3],ξ κ 0,ξ κ 0,.bool χ,ω,ω,Value.pointer (φ {block:=w.heap.size,off:=2}),ζ A2 n2 c2,ζ sB oK c12,Value.agg #[.string x.name,ξ κ x.aw,ζ A4 n4 c4],v18,ζ CV n19 c19,Value.pointer (φ {block:=w.heap.size,off:=2}),ω,ω,ω,ω,ω,ω,ω,ω],defers:=[]}/\Hid ((∃vx xC,wu W (λk=>k=w.heap.size+2) (kZ b x) (ζ A1 n1 c1) (ζ CV n19 c19) (ζ A3 n3 c3) vx xC)/\Bk W w.heap.size 26 #[ξ κ b.ab,ζ A1 n1 c1,ζ CV n19 c19,ζ A3 n3 c3]/\
  Bk W (w.heap.size+2) 26 #[ξ κ 0,ζ ν 0 0,ζ ν 0 0,ζ ν 0 0]/\Γ w.heap.size w W)) ?post ?region
 case region=>
  go_region_law (first
   | (go_simp
      go_at_call 135
      refine(C2.e _ ?h1 ?h2).mono ?_
      case h1=>first|exact(SB.e _ XD.e).1|exact(SB.e _ (XA.e _)).1
      case h2=>first|exact(SB.e _ XD.e).2|exact(SB.e _ (XA.e _)).2
      rintro e w3 ⟨v12,rfl,xy,bM⟩;have mC:Hid (Γ w1.heap.size w1 w3):=ψ (by first|exact XD.e.trans bM|exact(XA.e _).trans (bM.mono (by simp)))
      have Fg:Hid (w3.ownsRow w1.heap.size 59 3 v12 bs.length (bs.flatMap j5)):=ψ (xy.base (by simp))
      have yl:=HK.e.2.1.below mC.e (by omega)
      have x0: w3.cell? ⟨w.heap.size+1,0,ν⟩=φ (.string x.name):=yl.cell 0;have x1: w3.cell? ⟨w.heap.size+1,1,ν⟩=φ (ξ κ x.aw):=yl.cell 1;have x2: w3.cell? ⟨w.heap.size+1,2,ν⟩=φ (ζ A4 n4 c4):=yl.cell 2;have pN:w1.heap.size<=w3.heap.size:=mC.e.size
      try(have HZ:Hid (∀(j:Nat) (u:υ),[Value.string x.name,ξ κ x.aw,ζ A4 n4 c4][j]?=φ u-> w3.cell? ((⟨w1.heap.size,0,ν⟩:Addr).add j)=φ u):=ψ (λj u hu=>by
       rw[uG];have:=((Bk.new w1.drew 59 #[.string x.name,ξ κ x.aw,ζ A4 n4 c4]).below bM (by simp)).cell j
       simpa using this.trans (by simpa using hu)))
      obtain⟨sB,oK,c12,rfl⟩:=vV xy;clear bM xy yl)
   | (refine AD rfl (.tmp 16) (.tmp 18) 23 rfl w1.heap.size 59 i0 (η #[.string {data:=#[]},ξ κ 0,ζ ν 0 0]) 3 48 (U Tryz.underlying23) cP.e.1 cP.e.2.1 cP.e.2.2.1 cP.e.2.2.2 rfl (by decide) _ bs.length (bs.flatMap j5) rfl Fg.e ⟨w1.heap.size,0,ν⟩ 1 1 [.string x.name,ξ κ x.aw,ζ A4 n4 c4] rfl rfl HZ.e ?c2 ?c3 ?c4 pN ?_
      case c2=>simp[Value.oneCell']
      case c3=>(simp only[ϕ];omega)
      case c4=>omega
      intro v' w6 aK pz;have HO:=ψ aK;have DW:Γ w1.heap.size w1 w6:=mC.e.grown pz pN (λk hk=>kY Fg.e k hk)
      have oj:=ψ DW;have ny:=HK.e.1.below DW (by omega)
      have q2: w6.cell? ⟨w.heap.size,2,ν⟩=φ (ζ A2 n2 c2):=ny.cell 2;have f2: w6.frozen? ⟨w.heap.size,2,ν⟩=χ:=ny.frozen 2;obtain⟨CV,n19,c19,rfl⟩:=vV aK;clear aK pz DW ny)
   | (refine AD rfl (.tmp 16) (.tmp 18) 23 rfl w1.heap.size 59 i0 (η #[.string {data:=#[]},ξ κ 0,ζ ν 0 0]) 3 48 (U Tryz.underlying23) cP.e.1 cP.e.2.1 cP.e.2.2.1 cP.e.2.2.2 rfl (by decide) _ bs.length (bs.flatMap j5) rfl (Fg.e.alloc _) ⟨w3.heap.size,0,ν⟩ 1 1 [.string x.name,ξ κ x.aw,ζ A4 n4 c4] rfl rfl ?c1 ?c2 ?c3 ?c4 ?c5 ?_
      case c1=>(intro j u hu;rw[uG];have:=(Bk.new w3 59 #[.string x.name,ξ κ x.aw,ζ A4 n4 c4]).cell j;simpa using this.trans (by simpa using hu))
      case c2=>simp[Value.oneCell']
      case c3=>(simp only[ϕ];omega)
      case c4=>omega
      case c5=>(simp<;>omega)
      intro v' w6 aK pz;have HO:=ψ aK;have DW:Γ w1.heap.size w1 w6:=(mC.e.alloc pN _).grown pz (by simp<;>omega) (λk hk=>kY Fg.e k hk)
      have oj:=ψ DW;have ny:=HK.e.1.below DW (by omega)
      have q2: w6.cell? ⟨w.heap.size,2,ν⟩=φ (ζ A2 n2 c2):=ny.cell 2;have f2: w6.frozen? ⟨w.heap.size,2,ν⟩=χ:=ny.frozen 2;obtain⟨CV,n19,c19,rfl⟩:=vV aK;clear aK pz DW ny))
  all_goals
   have MN:=aeG hB bV.e HH.e.2.2.1 HH.e.2.2.2 HM.e.1 HM.e.2.1 a8.e oj.e hz HO.e HK.e.1 HK.e.2.2;show ∃_,_
   exact⟨_,_,_,_,_,_,_,rfl,ψ ⟨MN.1,MN.2.1,MN.2.2.1,MN.2.2.2.1⟩⟩
 case post=>
  clear C2 cP k2 x0 x1 x2 XD XA SB qp akC akD akE hz HK xO Gb;refine fG.imp ?_
  rintro a W ⟨sB,oK,c12,v18,CV,n19,c19,rfl,⟨vx,xC,hp⟩,ny,tJ,nv⟩;have k0:=ny.cell 0;have k1:=ny.cell 1;have k2:=ny.cell 2;have k3:=ny.cell 3;have HP:=ψ hp;have HK:=ψ (Ϗ ny (Ϗ tJ nv));have oC:w.heap.size<W.heap.size:=ny.lt;have Yi:=ψ (yb hp.book (ϊ _) HH.e.2.1);have B9:(kZ b x).ab=b.ab:=rfl;rw[B9] at Yi;clear hp ny tJ nv B9;go_wp2_with (first
   | (go_at_call 68
      refine Yi.e.mono ?_
      rintro e w7 ⟨rfl,tG⟩;have JA:=HK.e.1.below tG oC;have k0: w7.cell? ⟨w.heap.size,0,ν⟩=φ (ξ κ b.ab):=JA.cell 0;have k1: w7.cell? ⟨w.heap.size,1,ν⟩=φ (ζ A1 n1 c1):=JA.cell 1;have k2: w7.cell? ⟨w.heap.size,2,ν⟩=φ (ζ CV n19 c19):=JA.cell 2;have k3: w7.cell? ⟨w.heap.size,3,ν⟩=φ (ζ A3 n3 c3):=JA.cell 3;have PK:=ψ (HK.e.2.1.below tG HK.e.2.1.lt);have Qi:=(copied (w:=w7) (HP.e.grown (py tG (ϊ _) ν) nofun) (λk hk=>by have:=PK.e.lt;omega) (oc HH.e.2.1))
      have B9:(kZ b x).ab=b.ab:=rfl;rw[B9] at Qi;have adj:=ψ Qi;clear Qi B9;have VB:=ψ tG;clear tG JA)
   | (go_at_call 136
      refine adj.e.mono ?_
      rintro e w8 ⟨p8,b8,t8,bs8,ts8,rfl,Rx,F6⟩;have My:=Rx.book;have xv:=PK.e.below F6 PK.e.lt;have r0:=xv.cell 0;have r1:=xv.cell 1;have r2:=xv.cell 2;have r3:=xv.cell 3;have f0:=xv.frozen 0;have f1:=xv.frozen 1;have f2:=xv.frozen 2;have f3:=xv.frozen 3;have hz8:w.heap.size+2<w8.heap.size:=xv.lt;obtain⟨OT,TI,Ql,rfl,-⟩:=My.pieces.Φ;obtain⟨OU,TJ,Qm,rfl,-⟩:=My.aF.Φ;obtain⟨OV,TK,Qn,rfl,-⟩:=My.aM.Φ;have HB8:=ψ F6;have VF:=ψ (Ϗ Rx xv);clear F6 My Rx xv))
  have akm:Bk w8 (w.heap.size+1+1) 26 #[ξ κ 0,ζ ν 0 0,ζ ν 0 0,ζ ν 0 0]:=VF.e.2;have Ed:=((((akm.set 0 (ξ κ b.ab)).set 1 (ζ OT TI Ql)).set 2 (ζ OU TJ Qm)).set 3 (ζ OV TK Qn));have y0:=Ed.cell 0;have y1:=Ed.cell 1;have y2:=Ed.cell 2;have y3:=Ed.cell 3;have hG:=λ(V:Ψ) (i:Nat) (u:υ)=>Bs V ⟨w.heap.size+2,i,ν⟩ u
  have br:∀k,φ (w.heap.size+2)=φ k->(λk=>k=w.heap.size+2) k:=λk e=>by injection e with e;exact e.symm
  have RQ:=((((VF.e.1.grown (hG _ 0 (ξ κ b.ab)) br).grown (hG _ 1 (ζ OT TI Ql)) br).grown (hG _ 2 (ζ OU TJ Qm)) br).grown (hG _ 3 (ζ OV TK Qn)) br);have uO:Γ w.heap.size w w8:=(HK.e.2.2.trans (VB.e.mono (é oC))).trans (HB8.e.mono (by have:=VB.e.size;omega))
  refine bodyPost_ret (v:=μ #[η #[ξ κ b.ab,ζ OT TI Ql,ζ OU TJ Qm,ζ OV TK Qn],ξ κ 0]) (by simp[results,Tryz.results53,go_sem,y0,y1,y2,y3]) rfl ⟨_,_,_,rfl,RQ.book,?_⟩
  exact(((uO.setCell (by simp<;>omega) _).setCell (by simp<;>omega) _).setCell (by simp<;>omega) _).setCell (by simp<;>omega) _
def wS:List Int->List Int->Int
 | [],[]=>0
 | [],_::_=> -1
 |_::_,[]=>1
 |x::xs,y::ys=>if Aio x y=0 then wS xs ys else Aio x y
def FF{xs:List Int}(hv:Row w B 1 cH v xs)(hu:Row w B 1 cH u ys)(hB:B<=w.heap.size):
 ύ prog 139 #[v,u] w λe w'=>e=Ω (ξ κ (wS xs ys))/\w=w':=by
 obtain⟨A1,n1,c1,rfl,e1,h1,jx,r1⟩:=hv.Φ;obtain⟨A2,n2,c2,rfl,e2,h2,ie,r2⟩:=hu.Φ;unfold ϕ at jx ie;have R1:=ψ r1;have R2:=ψ r2;have E:=ψ (Ϗ e1 e2);clear r1 r2 e1 e2 hv hu;have aE:Hid (∀(x y:Int) (w:Ψ),ύ Tw.prog 181 #[ξ κ x,ξ κ y] w λe w'=>e=Ω (ξ κ (Aio x y))/\w'=w):=ψ (λx y w=>Sh.cmp_Compare_int x y w)
 go_enter func139,Tryz.ntmps139;go_wp2;go_loopw [11] (λk wr=>wr=w/\∃i:Nat,i<=n1/\i<=n2/\k=ξ κ i/\Hid (wS xs ys=wS (xs.drop i) (ys.drop i))) (λk _=>n1 - (ϙ k).toNat)
 case atStart=>exact⟨rfl,0,Ϡ _,Ϡ _,rfl,ψ rfl⟩
 case round=>
  obtain⟨rfl,i,hi,BN,rfl,hc⟩:=hrel;by_cases aj:i<n1
  ·obtain⟨ad,x,cs,rn,aD,hx,rfl,-,aq⟩:=R1.e i aj
   subst rn;have g0: wr.cell? (ad.add (i * 1))=φ (ξ κ x):=cA aq (Δ.refl wr) aD rfl;rw[Ķ] at g0;have Jr:xs.drop i=x::xs.drop (i+1):=(Aiw (ϩ.1 hx).1).trans (by rw[(ϩ.1 hx).2])
   have E8:=ψ Jr;clear Jr hx aq;by_cases akF:i<n2
   ·obtain⟨cI,y,qf,IS,nu,hy,rfl,-,oB⟩:=R2.e i akF
    subst IS;have g1: wr.cell? (cI.add (i * 1))=φ (ξ κ y):=cA oB (Δ.refl wr) nu rfl;rw[Ķ] at g1;have BH:ys.drop i=y::ys.drop (i+1):=(Aiw (ϩ.1 hy).1).trans (by rw[(ϩ.1 hy).2])
    have AU:=ψ BH;clear BH hy oB;have avd:((n2:Int)<=(i:Int))=False:=by simp;omega
    obtain⟨c,dh⟩:∃c,c=Aio x y:=⟨_,rfl⟩
    have CL:=ψ (aE.e x y wr);rw[<-dh] at CL;have xP:=ψ dh;clear dh;by_cases qk:c=0
    ·have hb:(c !=0)=χ:=by simp[qk]
     go_wp2_with (first
      | (go_at_call 181;refine CL.e.mono ?_;rintro e w1 ⟨rfl,rfl⟩))
     go_roundw;case rel=>exact⟨trivial,i+1,by omega,by omega,by go_num,ψ (by rw[hc.e,E8.e,AU.e,wS,<-xP.e,if_pos qk])⟩
     case measure=>simp[ϙ];omega
    ·have hb:(c !=0)=θ:=by simp[qk]
     go_wp2_with (first
      | (go_at_call 181;refine CL.e.mono ?_;rintro e w1 ⟨rfl,rfl⟩))
     go_ret;exact⟨bj (by rw[hc.e,E8.e,AU.e,wS,<-xP.e,if_neg qk]),rfl⟩
   ·obtain rfl:i=n2:=by omega
    have BH:ys.drop i=[]:=Aix (ÿ E.e.2);have AU:=ψ BH;clear BH;go_wp2;go_ret;exact⟨bj (by rw[hc.e,E8.e,AU.e,wS]),rfl⟩
  ·obtain rfl:i=n1:=by omega
   have Jr:xs.drop i=[]:=Aix (ÿ E.e.1);have E8:=ψ Jr;clear Jr;by_cases hl:i<n2
   ·obtain⟨y,ys',hy⟩:∃y ys',ys.drop i=y::ys':=⟨_,_,Aiw (by rw[E.e.2];exact hl)⟩
    have AU:=ψ hy;clear hy;go_wp2;go_ret;exact⟨bj (by rw[hc.e,E8.e,AU.e,wS]),rfl⟩
   ·have BH:ys.drop i=[]:=Aix (by rw[E.e.2];omega)
    have AU:=ψ BH;clear BH;go_wp2;go_ret;exact⟨bj (by rw[hc.e,E8.e,AU.e,wS]),rfl⟩
def abp{b1 b2 e1 e2 s1 s2 n1 n2:Nat}{v1 v2:υ}{x1 x2:List υ}(h1:w.ownsRow b1 e1 s1 v1 n1 x1)(h2:w.ownsRow b2 e2 s2 v2 n2 x2)(au:e1≠e2):∀k,v1.ownBlock=φ k->v2.ownBlock≠φ k:=by
 intro k hk dq;rcases h1.2 with⟨h0,_⟩ | ⟨g,cap,cur,a1,a2,a3,_⟩
 ·rw[h0] at hk;cases hk
 ·rcases h2.2 with⟨h0,_⟩ | ⟨g',Di,auf,c1,c2,c3,_⟩
  ·rw[h0] at dq;cases dq
  ·rw[a1] at hk;rw[c1] at dq
   injection hk with hk;injection dq with dq
   simp only at hk dq;subst hk;subst dq
   rw[a3] at c3;injection c3 with c3;injection c3 with _ c3
   exact au c3
def fH(m:Nat)(n:Nat):List Nat:=(Ϯ n).filter (λi=>m.testBit i)
def Nf(h:m.testBit n=θ):fH m (n+1)=fH m n++ [n]:=by simp[fH,Ś,h]
def Nd(h:m.testBit n=χ):fH m (n+1)=fH m n:=by simp[fH,Ś,h]
def mU(l:List α)(m n:Nat):List α:=(fH m n).filterMap (λi=>l[i]?)
def abv{l:List α}{x:α}(h:m.testBit n=θ)(hx:l[n]?=φ x):mU l m (n+1)=mU l m n++ [x]:=by
 unfold mU;rw[Nf h,List.filterMap_append];simp[hx]
def abu{l:List α}(h:m.testBit n=χ):mU l m (n+1)=mU l m n:=by unfold mU;rw[Nd h]
def sX(b:an)(m:Nat):an:={b with aM:=mU b.aM m b.aM.length}
def apL(f:α->β)(l:List α)(m n:Nat):mU (l.map f) m n=(mU l m n).map f:=by
 unfold mU;rw[List.map_filterMap];congr 1;funext i;simp
def TX{α:Type}(l:List α)(m:Nat):∀n,n<=l.length->(mU l m n).length=(fH m n).length
 |0,_=>by simp[mU,fH]
 |n+1,h=>by
  have ih:=TX l m n (by omega)
  cases hb:m.testBit n with
  |true=>rw[abv hb (Ä (by omega)),Nf hb];simp[ih]
  |false=>rw[abu hb,Nd hb];exact ih
def si(m n:Nat):List υ:=(fH m n).map λk:Nat=>ξ κ (k:Int)
def Ka(m:Nat)(n:Nat):(fH m n).length<=n:=by
 unfold fH;refine ϣ (List.length_filter_le _ _) (by simp)
structure OI(w W:Ψ)(g z:Nat)(ab pv bv c7 v6 v7:υ)(el:Array υ)(n6 n7:Nat)(x6 x7:List υ):Prop where
 o6:W.ownsRow (g+3) 3 1 v6 n6 x6
 o7:W.ownsRow (g+3) 95 3 v7 n7 x7
 kr:Bk W (g+1) 117 #[ξ κ 0,ζ ν 0 0,ζ ν 0 0,ζ ν 0 0]
 kk:Bk W (g+2) 117 #[ab,pv,bv,c7]
 ke:Bk W z 95 el
 hb:Γ g w W
section
variable {w W W':Ψ}{g z n6 n7 m:Nat}{ab pv bv c7 v6 v7 v':υ}{el:Array υ}{x6 x7 ys:List υ}
def OI.alloc(h:OI w W g z ab pv bv c7 v6 v7 el n6 n7 x6 x7)(o:Obj):OI w (W.alloc o) g z ab pv bv c7 v6 v7 el n6 n7 x6 x7:=
 ⟨World.ownsRow.alloc h.o6 o,World.ownsRow.alloc h.o7 o,h.kr.alloc o,h.kk.alloc o,h.ke.alloc o,h.hb.alloc (by have:=h.kr.lt;omega) o⟩
def OI.Wk(h:OI w W g z ab pv bv c7 v6 v7 el n6 n7 x6 x7)(ho:W'.ownsRow (g+3) 3 1 v' m ys)(hg:W.grownBy W' v6.ownBlock):OI w W' g z ab pv bv c7 v' v7 el m n7 ys x7:=by
 have qm:=kY h.o6;refine⟨ho,Ky h.o7 hg (λk hk e=>abp h.o6 h.o7 (by decide) k e hk),h.kr.grown hg (λe=>by have:=qm _ e.symm;omega),h.kk.grown hg (λe=>by have:=qm _ e.symm;omega),h.ke.grown hg (λe=>?_),h.hb.grown hg (by have:=h.kr.lt;omega) (λk hk=>by have:=qm k hk;omega)⟩
 rcases h.o6.2 with⟨h0,_⟩ | ⟨k,cap,cur,a1,a2,a3,_⟩
 ·rw[h0] at e;cases e
 ·rw[a1] at e;injection e with e
  have zZ:=h.ke;unfold Bk at zZ;rw[e] at zZ;simp only at zZ;rw[a3] at zZ;injection zZ with zZ;injection zZ with _ zZ
  exact absurd zZ (by decide)
def OI.Wl(h:OI w W g z ab pv bv c7 v6 v7 el n6 n7 x6 x7)(ho:W'.ownsRow (g+3) 95 3 v' m ys)(hg:W.grownBy W' v7.ownBlock):
 W'.ownsRow (g+3) 3 1 v6 n6 x6/\W'.ownsRow (g+3) 95 3 v' m ys/\Bk W' (g+1) 117 #[ξ κ 0,ζ ν 0 0,ζ ν 0 0,ζ ν 0 0]/\Bk W' (g+2) 117 #[ab,pv,bv,c7]/\Γ g w W':=by
 have qm:=kY h.o7;exact⟨Ky h.o6 hg (λk hk e=>abp h.o6 h.o7 (by decide) k hk e),ho,h.kr.grown hg (λe=>by have:=qm _ e.symm;omega),h.kk.grown hg (λe=>by have:=qm _ e.symm;omega),h.hb.grown hg (by have:=h.kr.lt;omega) (λk hk=>by have:=qm k hk;omega)⟩
def Qs{w:Ψ}{g:Nat}{a b c:υ}(h:Bk w g t #[a,b,c]):∀(j:Nat) (u:υ),[a,b,c][j]?=φ u-> w.cell? ((⟨g,0,ν⟩:Addr).add j)=φ u:=by
 intro j u hu;rw[uG];exact(h.cell j).trans (by simpa using hu)
def Qr{w:Ψ}{g:Nat}{a:υ}(h:Bk w g t #[a]):∀(j:Nat) (u:υ),[a][j]?=φ u-> w.cell? ((⟨g,0,ν⟩:Addr).add j)=φ u:=by
 intro j u hu;rw[uG];exact(h.cell j).trans (by simpa using hu)
def ri{w:Ψ}{b e s g:Nat}{cs:Array υ}(h:Bk w g t cs)(ho:w.ownsRow b e s v n xs)(au:t≠e)(hk:φ g=v.ownBlock):False:=by
 rcases ho.2 with⟨h0,_⟩ | ⟨k,cap,cur,a1,a2,a3,_⟩
 ·rw[h0] at hk;cases hk
 ·rw[a1] at hk;injection hk with hk
  unfold Bk at h;rw[hk] at h;simp only at h;rw[a3] at h;injection h with h;injection h with _ h
  exact au h.symm
def alC{w V:Ψ}{g z n6 n7:Nat}{ab pv bv c7 v6 v7 a b c:υ}{el:Array υ}{x6 x7:List υ}(uz:OI w V.drew g z ab pv bv c7 v6 v7 el n6 n7 x6 x7)
 (pz:((V.drew.alloc o).alloc (Ξ #[a,b,c] 95)).grownBy w6 v6.ownBlock):Bk w6 (V.heap.size+1) 95 #[a,b,c]:=
 (Bk.cD (g:=V.heap.size+1) (w:=V.drew.alloc o) (by simp) 95 #[a,b,c]).grown pz (λe=>ri (Bk.cD (g:=V.heap.size+1) (w:=V.drew.alloc o) (by simp) 95 #[a,b,c]) ((uz.alloc o).alloc _).o6 (by decide) e)
def aly{w V:Ψ}{g z n6 n7:Nat}{ab pv bv c7 v6 v7 a b c:υ}{el:Array υ}{x6 x7:List υ}(uz:OI w V.drew g z ab pv bv c7 v6 v7 el n6 n7 x6 x7)
 (pz:((V.drew.alloc (Ξ #[a,b,c] 95)).alloc o).grownBy w6 v6.ownBlock):Bk w6 V.heap.size 95 #[a,b,c]:=
 ((Bk.new V.drew 95 #[a,b,c]).alloc o).grown pz (λe=>ri ((Bk.new V.drew 95 #[a,b,c]).alloc o) ((uz.alloc _).alloc o).o6 (by decide) e)
def apc{W:Ψ}(h:W.ownsRow (g+3) 3 1 v6 n6 x6/\W.ownsRow (g+3) 95 3 v' m ys/\Bk W (g+1) 117 #[ξ κ 0,ζ ν 0 0,ζ ν 0 0,ζ ν 0 0]/\Bk W (g+2) 117 #[ab,pv,bv,c7]/\Γ g w W):
 let V:=W.setCell ⟨g+2,3,ν⟩ v'
 V.ownsRow (g+3) 3 1 v6 n6 x6/\V.ownsRow (g+3) 95 3 v' m ys/\Bk V (g+1) 117 #[ξ κ 0,ζ ν 0 0,ζ ν 0 0,ζ ν 0 0]/\Bk V (g+2) 117 #[ab,pv,bv,v']/\Γ g w V:=by
 intro V;exact⟨sZ h.1 (by simp),sZ h.2.1 (by simp),h.2.2.1.fS (by simp) _,h.2.2.2.1.set 3 v',h.2.2.2.2.setCell (by simp) _⟩
end
def api{W:Ψ}{v6 v7:υ}{ts:List (Tape×υ)}(hB:B<=w.heap.size)(ai:bq w B b pv bv tv)(yF:∀p∈ts,Row w B 1 cH p.2 p.1.pieces)(oH:ts.map ġ=b.aM)(hn:n=ts.length)
 (h6:W.ownsRow (w.heap.size+3) 3 1 v6 (fH m n).length (si m n))(h7:W.ownsRow (w.heap.size+3) 95 3 v7 (fH m n).length ((mU ts m n).flatMap iC))(hb:Γ w.heap.size w W){x0 x1 x2 x3:υ}:
 let V:=(((W.setCell ⟨w.heap.size+1,0,ν⟩ x0).setCell ⟨w.heap.size+1,1,ν⟩ x1).setCell ⟨w.heap.size+1,2,ν⟩ x2).setCell ⟨w.heap.size+1,3,ν⟩ x3
 bq V V.heap.size (sX b m) pv bv v7/\de V (λk=>k<w.heap.size) 1 cH v6 ((fH m b.aM.length).map Ċ)/\Γ w.heap.size w V:=by
 intro V;have hl:b.aM.length=n:=by rw[<-oH,Ġ,hn]
 have DN:Γ w.heap.size w V:=(((hb.setCell (by simp) _).setCell (by simp) _).setCell (by simp) _).setCell (by simp) _
 have st:Δ B w V:=Δ.aN DN hB;have aL:B<=V.heap.size:=by have:=DN.size;omega
 have o6:V.ownsRow (w.heap.size+3) 3 1 v6 (fH m n).length (si m n):=sZ (sZ (sZ (sZ h6 (by simp)) (by simp)) (by simp)) (by simp)
 have o7:V.ownsRow (w.heap.size+3) 95 3 v7 (fH m n).length ((mU ts m n).flatMap iC):=sZ (sZ (sZ (sZ h7 (by simp)) (by simp)) (by simp)) (by simp)
 refine⟨⟨(ai.pieces.still st λ_ _ h=>h).more aL,(ai.aF.still st λ_ _ h=>?_).more aL,?_⟩,?_,DN⟩
 ·obtain⟨k,e1,e2,e3⟩:=h.still st
  exact⟨k,e1,e2,e3.more aL⟩
 ·rw[<-TX ts m n (by omega)] at o7
  have:=tX (R:=λp cs=>cs=iC p) o7 (λ_=>rfl) (λp hm=>rfl)
  have e:(sX b m).aM=(mU ts m n).map ġ:=by
   show mU b.aM m b.aM.length=_;rw[hl,<-oH,apL]
  rw[e];refine EO this (λp hm cs hc=>⟨p.2,hc,((yF p ?_).still st λ_ _ h=>h).more aL⟩)
  unfold mU at hm;obtain⟨k,_,hk⟩:=List.mem_filterMap.1 hm;exact ϡ hk
 ·rw[hl]
  have e:(si m n)=((fH m n).map Ċ).flatMap (λk=> [ξ κ k]):=by
   unfold si;rw[XO,List.map_map];rfl
  rw[e] at o6;have hlen:(fH m n).length=((fH m n).map Ċ).length:=by simp
  rw[hlen] at o6;exact de.Cp o6 (λ_=>rfl) (λ_ _=>rfl) (λk hk=>by omega)
def ae9:∀(m:Fin 16) (i:Fin 4),(bits BinOp.and ϗ ((m.val:Int) / 2 ^ i.val) 1==1)=m.val.testBit i.val:=by decide+kernel
def only{w:Ψ}{b:an}{pv bv tv:υ}{B m:Nat}(hB:B<=w.heap.size)(ai:bq w B b pv bv tv)(hv:b.aM.length<=4)(hm:m<16):
 ύ prog 138 #[η #[ξ κ b.ab,pv,bv,tv],ξ κ m] w λe w'=>∃mK iv,e=Ω (μ #[η #[ξ κ b.ab,pv,bv,mK],iv])/\bq w' w'.heap.size (sX b m) pv bv mK/\
  de w' (λk=>k<w.heap.size) 1 cH iv ((fH m b.aM.length).map Ċ)/\Γ w.heap.size w w':=by
 obtain⟨ts,oH,vP⟩:=NY (R':=λ(p:Tape×υ) cs=>cs=iC p/\Row w B 1 cH p.2 p.1.pieces) ai.aM (λx cs ⟨kv,h1,h3⟩=>⟨kv,h1,h3⟩)
 have yF:∀p∈ts,Row w B 1 cH p.2 p.1.pieces:=λp hp=>by obtain⟨cs,h1,h2⟩:=vP.mem p hp;exact h2
 have Cd:ts.length=b.aM.length:=by rw[<-oH,Ġ]
 have HM:=ψ (Ϗ yF (Ϗ oH Cd));have bV:=ψ ai;obtain⟨A1,n1,c1,rfl,-⟩:=ai.pieces.Φ;obtain⟨A2,n2,c2,rfl,-⟩:=ai.aF.Φ;obtain⟨A3,n3,c3,rfl,e3,h3,Bv,r3⟩:=vP.Φ;have R3:=ψ r3;have sc:n3<=4:=by omega
 have E3:=ψ e3;unfold ϕ at Bv;clear ai vP yF oH Cd r3 e3 hv;go_enter func138,Tryz.ntmps138;go_wp2;have L0:Hid (Bk (((w.alloc (Ξ #[ξ κ b.ab,ζ A1 n1 c1,ζ A2 n2 c2,ζ A3 n3 c3] 117)).alloc (Ξ #[ξ κ 0,ζ ν 0 0,ζ ν 0 0,ζ ν 0 0] 117)).alloc (Ξ #[ξ κ b.ab,ζ A1 n1 c1,ζ A2 n2 c2,ζ ν 0 0] 117)) (w.heap.size+2) 117 #[ξ κ b.ab,ζ A1 n1 c1,ζ A2 n2 c2,ζ ν 0 0]):=ψ (Bk.cD (by simp) _ _)
 go_loopw [6,17] (λv6 u wr=>∃(i:Nat) (v7:υ),i<=n3/\u=ξ κ i/\Hid (wr.ownsRow (w.heap.size+3) 3 1 v6 (fH m i).length (si m i))/\Hid (wr.ownsRow (w.heap.size+3) 95 3 v7 (fH m i).length ((mU ts m i).flatMap iC))/\
  Hid (Bk wr (w.heap.size+1) 117 #[ξ κ 0,ζ ν 0 0,ζ ν 0 0,ζ ν 0 0])/\Hid (Bk wr (w.heap.size+2) 117 #[ξ κ b.ab,ζ A1 n1 c1,ζ A2 n2 c2,v7])/\Hid (Γ w.heap.size w wr)) (λ_ u _=>n3 - (ϙ u).toNat)
 case atStart=>exact⟨0,_,Ϡ _,rfl,ψ ⟨rfl,.inl ⟨rfl,rfl⟩⟩,ψ ⟨rfl,.inl ⟨rfl,rfl⟩⟩,ψ ((Bk.cD (by simp) _ _).alloc _),L0,ψ ((((ώ _ _).alloc (ϊ _) _).alloc (by simp) _).alloc (by simp<;>omega) _)⟩
 case round=>
  obtain⟨i,v7,hi,rfl,h6,h7,hr,hk,hb⟩:=hrel;obtain⟨A6,n6,c6,rfl⟩:=vV h6.e;obtain⟨A7,n7,c7,rfl⟩:=vV h7.e;by_cases aj:i<n3
  ·obtain⟨ad,x,cs,rn,aD,hx,⟨rfl,SZ⟩,-,aq⟩:=R3.e i aj
   subst rn;have st:Δ B w wr:=Δ.aN hb.e hB;obtain⟨x,kv⟩:=x;simp only at SZ;obtain⟨m5,yz⟩:∃k,k=x.pieces.length:=⟨_,rfl⟩
   obtain⟨A5,c5,rfl,-⟩:=id SZ;rw[<-yz] at hx aq;clear SZ yz;have g0:=cA aq st aD rfl;have g1:=bH aq st aD 0 rfl;have g2:=bH aq st aD 1 rfl;have aL:=hb.e.size;have Bx:(ad.add (i * 3)).block<wr.heap.size:=by rw[cq];omega
   have Mx:=ae9 ⟨m,hm⟩ ⟨i,by omega⟩
   simp only at Mx;have HX:=ψ hx;have zx:=ψ (Ϗ h6.e (Ϗ h7.e (Ϗ hr.e (Ϗ hk.e hb.e))));clear hx aq st;cases Bz:m.testBit i with
   |false=>
    rw[Bz] at Mx;go_wp2;go_roundw;case rel=>exact⟨i+1,_,by omega,by go_num,ψ (by unfold si;rw[Nd Bz];exact h6.e.alloc _),ψ (by rw[Nd Bz,abu Bz];exact h7.e.alloc _),ψ (hr.e.alloc _),ψ (hk.e.alloc _),ψ (hb.e.alloc aL _)⟩
    case measure=>simp[ϙ];omega
   |true=>
    rw[Bz] at Mx;go_wp2;obtain⟨i3,nw,pN,nY,bM⟩:=info_parts aao;obtain⟨i9,Jx,hz9,SG,sL⟩:=info_parts S4;have uw:=ψ (Ϗ nw (Ϗ pN (Ϗ nY bM)));have ux:=ψ (Ϗ Jx (Ϗ hz9 (Ϗ SG sL)));clear nw pN nY bM Jx hz9 SG sL h6 h7 hr hk hb g0 g1 g2 Bx Mx;have uV:OI w (wr.alloc (Ξ #[ζ A5 m5 c5,ξ κ x.sum.lo,ξ κ x.sum.hi] 95)) w.heap.size wr.heap.size (ξ κ b.ab) (ζ A1 n1 c1) (ζ A2 n2 c2) (ζ A7 n7 c7) (ζ A6 n6 c6) (ζ A7 n7 c7) #[ζ A5 m5 c5,ξ κ x.sum.lo,ξ κ x.sum.hi] (fH m i).length (fH m i).length (si m i) ((mU ts m i).flatMap iC):=
     ⟨zx.e.1.alloc _,zx.e.2.1.alloc _,zx.e.2.2.1.alloc _,zx.e.2.2.2.1.alloc _,Bk.new wr _ _,zx.e.2.2.2.2.alloc aL _⟩
    have hzV:(wr.alloc (Ξ #[ζ A5 m5 c5,ξ κ x.sum.lo,ξ κ x.sum.hi] 95)).heap.size=wr.heap.size+1:=by simp
    generalize (wr.alloc (Ξ #[ζ A5 m5 c5,ξ κ x.sum.lo,ξ κ x.sum.hi] 95))=V at uV hzV |-
    have uz:Hid (OI w V.drew w.heap.size wr.heap.size (ξ κ b.ab) (ζ A1 n1 c1) (ζ A2 n2 c2) (ζ A7 n7 c7) (ζ A6 n6 c6) (ζ A7 n7 c7) #[ζ A5 m5 c5,ξ κ x.sum.lo,ξ κ x.sum.hi] (fH m i).length (fH m i).length (si m i) ((mU ts m i).flatMap iC)):=ψ ⟨uV.o6,uV.o7,uV.kr,uV.kk,uV.ke,oT uV.hb⟩;have q7: V.cell? ⟨w.heap.size+2,3,ν⟩=φ (ζ A7 n7 c7):=uV.kk.cell 3;have e0: V.cell? ⟨wr.heap.size,0,ν⟩=φ (ζ A5 m5 c5):=uV.ke.cell 0;have e1: V.cell? ⟨wr.heap.size,1,ν⟩=φ (ξ κ x.sum.lo):=uV.ke.cell 1;have e2: V.cell? ⟨wr.heap.size,2,ν⟩=φ (ξ κ x.sum.hi):=uV.ke.cell 2;have DZ:=uV.kk.lt;have akp:w.heap.size+2<=V.heap.size:=by omega
    have akq:w.heap.size+2<V.heap.size+1:=by omega
    have akr:w.heap.size+2<=V.heap.size+1:=by omega
    have RP:wr.heap.size<V.heap.size:=by omega
    have aj3:wr.heap.size<=V.heap.size:=by omega
    have aj5:wr.heap.size<V.heap.size+1:=by omega
    have aj6:wr.heap.size<=V.heap.size+1:=by omega
    have alF:w.heap.size+3<=V.heap.size:=DZ;have yu:(fH m i).length<=4:=by have:=Ka m i;omega
    obtain⟨nl,Gf⟩:∃k,k=(fH m i).length:=⟨_,rfl⟩
    rw[<-Gf] at uz yu;have VO:=ψ Gf;clear uV zx hzV aL Gf;refine Code.wp_mono (Q:=fG λa W=>∃Ii n61 IL Ij Ko IM v29 v35,a={tmps:=#[Value.agg #[ϛ ϗ b.ab,Value.slice A1 n1 c1,Value.slice A2 n2 c2,Value.slice (φ ad) n3 c3],ϛ ϗ (m:Int),Value.pointer (φ {block:=w.heap.size,off:=0}),ω,Value.pointer (φ {block:=w.heap.size+1,off:=0}),Value.slice ν 0 0,Value.slice Ii n61 IL,Value.pointer (φ {block:=w.heap.size+1+1,off:=0}),ϛ ϗ (i:Int),Value.pointer (φ {block:=wr.heap.size,off:=0}),Value.agg #[ϛ ϗ b.ab,Value.slice A1 n1 c1,Value.slice A2 n2 c2,Value.slice (φ ad) n3 c3],Value.pointer (φ {block:=w.heap.size+1+1,off:=0}),Value.pointer (φ {block:=w.heap.size+1+1,off:=3}),Value.pointer (φ {block:=w.heap.size,off:=0}),Value.pointer (φ {block:=w.heap.size,off:=3}),Value.slice (φ ad) n3 c3,ϛ ϗ (n3:Int),ϛ ϗ (i:Int),Value.bool θ,ϛ ϗ (i:Int),Value.pointer (φ (ad.add (i * 3))),Value.agg #[Value.slice A5 m5 c5,ϛ ϗ x.sum.lo,ϛ ϗ x.sum.hi],ϛ ϗ (m:Int),ϛ ϗ (i:Int),ϛ ϗ ((m:Int) / 2 ^ i),ϛ ϗ (bits BinOp.and ϗ ((m:Int) / 2 ^ i) 1),Value.bool θ,Value.slice A6 n6 c6,ϛ ϗ (i:Int),v29,Value.slice Ii n61 IL,Value.pointer (φ {block:=w.heap.size+1+1,off:=0}),Value.pointer (φ {block:=w.heap.size+1+1,off:=3}),Value.slice A7 n7 c7,Value.agg #[Value.slice A5 m5 c5,ϛ ϗ x.sum.lo,ϛ ϗ x.sum.hi],v35,Value.slice Ij Ko IM,Value.pointer (φ {block:=w.heap.size+1+1,off:=0}),Value.pointer (φ {block:=w.heap.size+1+1,off:=3}),u39,ω,ω],defers:=[]}/\
     Hid (W.ownsRow (w.heap.size+3) 3 1 (ζ Ii n61 IL) (nl+1) (si m i++ [ξ κ i])/\W.ownsRow (w.heap.size+3) 95 3 (ζ Ij Ko IM) (nl+1) ((mU ts m i).flatMap iC++ [ζ A5 m5 c5,ξ κ x.sum.lo,ξ κ x.sum.hi])/\
      Bk W (w.heap.size+1) 117 #[ξ κ 0,ζ ν 0 0,ζ ν 0 0,ζ ν 0 0]/\Bk W (w.heap.size+2) 117 #[ξ κ b.ab,ζ A1 n1 c1,ζ A2 n2 c2,ζ Ij Ko IM]/\Γ w.heap.size w W)) ?post ?region
    case region=>
     go_region_law (first
      | (first
              |refine AD rfl (.tmp 27) (.tmp 29) 33 rfl (w.heap.size+3) 3 i3 (ξ κ 0) 1 8 (U Tryz.underlying33) uw.e.1 uw.e.2.1 uw.e.2.2.1 uw.e.2.2.2 rfl (by decide) _ nl (si m i) rfl (uz.e.alloc _).o6 ⟨V.heap.size,0,ν⟩ 1 1 [ξ κ i] rfl rfl ?c1 ?c2 ?c3 ?c4 ?c5 ?_
              |refine AD rfl (.tmp 27) (.tmp 29) 33 rfl (w.heap.size+3) 3 i3 (ξ κ 0) 1 8 (U Tryz.underlying33) uw.e.1 uw.e.2.1 uw.e.2.2.1 uw.e.2.2.2 rfl (by decide) _ nl (si m i) rfl ((uz.e.alloc _).alloc _).o6 ⟨V.heap.size,0,ν⟩ 1 1 [ξ κ i] rfl rfl ?c1 ?c2 ?c3 ?c4 ?c5 ?_
              |refine AD rfl (.tmp 27) (.tmp 29) 33 rfl (w.heap.size+3) 3 i3 (ξ κ 0) 1 8 (U Tryz.underlying33) uw.e.1 uw.e.2.1 uw.e.2.2.1 uw.e.2.2.2 rfl (by decide) _ nl (si m i) rfl ((uz.e.alloc _).alloc _).o6 ⟨V.heap.size+1,0,ν⟩ 1 1 [ξ κ i] rfl rfl ?c1 ?c2 ?c3 ?c4 ?c5 ?_
         case c1=>first|exact Qr (Bk.new V.drew 3 _) |exact Qr ((Bk.new V.drew 3 _).alloc _) |exact Qr (Bk.cD (w:=V.drew.alloc _) (by simp) 3 _)
         case c2=>simp[Value.oneCell']
         case c3=>(simp only[ϕ];omega)
         case c4=>omega
         case c5=>first| (simp;done) | (simp;omega)
         intro v6 w6 aK pz;have wH:Hid (OI w w6 w.heap.size wr.heap.size (ξ κ b.ab) (ζ A1 n1 c1) (ζ A2 n2 c2) (ζ A7 n7 c7) v6 (ζ A7 n7 c7) #[ζ A5 m5 c5,ξ κ x.sum.lo,ξ κ x.sum.hi] (nl+1) nl (si m i++ [ξ κ i]) ((mU ts m i).flatMap iC)):=ψ (by first|exact(uz.e.alloc _).Wk aK pz|exact((uz.e.alloc _).alloc _).Wk aK pz)
         have q7: w6.cell? ⟨w.heap.size+2,3,ν⟩=φ (ζ A7 n7 c7):=wH.e.kk.cell 3;have e0: w6.cell? ⟨wr.heap.size,0,ν⟩=φ (ζ A5 m5 c5):=wH.e.ke.cell 0;have e1: w6.cell? ⟨wr.heap.size,1,ν⟩=φ (ξ κ x.sum.lo):=wH.e.ke.cell 1;have e2: w6.cell? ⟨wr.heap.size,2,ν⟩=φ (ξ κ x.sum.hi):=wH.e.ke.cell 2;have hk6:w.heap.size+2<w6.heap.size:=wH.e.kk.lt;have he6:wr.heap.size<w6.heap.size:=wH.e.ke.lt;have auU:w.heap.size+2<=w6.heap.size:=by omega
         have auI:wr.heap.size<=w6.heap.size:=by omega
         try(have HZ:Hid (Bk w6 (V.heap.size+1) 95 #[ζ A5 m5 c5,ξ κ x.sum.lo,ξ κ x.sum.hi]):=ψ (alC uz.e pz))
         try(have HY:Hid (Bk w6 V.heap.size 95 #[ζ A5 m5 c5,ξ κ x.sum.lo,ξ κ x.sum.hi]):=ψ (aly uz.e pz))
         obtain⟨Ii,n61,IL,rfl⟩:=vV aK;clear aK pz)
      | (first
              |refine AD rfl (.tmp 33) (.tmp 35) 24 rfl (w.heap.size+3) 95 i9 (η #[ζ ν 0 0,ξ κ 0,ξ κ 0]) 3 40 (U Tryz.underlying24) ux.e.1 ux.e.2.1 ux.e.2.2.1 ux.e.2.2.2 rfl (by decide) _ nl ((mU ts m i).flatMap iC) rfl (wH.e.alloc _).o7 ⟨w6.heap.size,0,ν⟩ 1 1 [ζ A5 m5 c5,ξ κ x.sum.lo,ξ κ x.sum.hi] rfl rfl ?c1 ?c2 ?c3 ?c4 ?c5 ?_
              |refine AD rfl (.tmp 33) (.tmp 35) 24 rfl (w.heap.size+3) 95 i9 (η #[ζ ν 0 0,ξ κ 0,ξ κ 0]) 3 40 (U Tryz.underlying24) ux.e.1 ux.e.2.1 ux.e.2.2.1 ux.e.2.2.2 rfl (by decide) _ nl ((mU ts m i).flatMap iC) rfl wH.e.o7 ⟨V.heap.size+1,0,ν⟩ 1 1 [ζ A5 m5 c5,ξ κ x.sum.lo,ξ κ x.sum.hi] rfl rfl ?c1 ?c2 ?c3 ?c4 ?c5 ?_
              |refine AD rfl (.tmp 33) (.tmp 35) 24 rfl (w.heap.size+3) 95 i9 (η #[ζ ν 0 0,ξ κ 0,ξ κ 0]) 3 40 (U Tryz.underlying24) ux.e.1 ux.e.2.1 ux.e.2.2.1 ux.e.2.2.2 rfl (by decide) _ nl ((mU ts m i).flatMap iC) rfl wH.e.o7 ⟨V.heap.size,0,ν⟩ 1 1 [ζ A5 m5 c5,ξ κ x.sum.lo,ξ κ x.sum.hi] rfl rfl ?c1 ?c2 ?c3 ?c4 ?c5 ?_
         case c1=>first|exact Qs (Bk.new w6 95 _) |exact Qs HZ.e|exact Qs HY.e
         case c2=>simp[Value.oneCell']
         case c3=>(simp only[ϕ];omega)
         case c4=>omega
         case c5=>first|omega| (simp;omega)
         intro v7 w7 aK pz;have PC:Hid (w7.ownsRow (w.heap.size+3) 3 1 _ (nl+1) (si m i++ [ξ κ i])/\w7.ownsRow (w.heap.size+3) 95 3 v7 (nl+1) ((mU ts m i).flatMap iC++ [ζ A5 m5 c5,ξ κ x.sum.lo,ξ κ x.sum.hi])/\Bk w7 (w.heap.size+1) 117 #[ξ κ 0,ζ ν 0 0,ζ ν 0 0,ζ ν 0 0]/\Bk w7 (w.heap.size+2) 117 #[ξ κ b.ab,ζ A1 n1 c1,ζ A2 n2 c2,ζ A7 n7 c7]/\Γ w.heap.size w w7):=ψ (by first|exact(wH.e.alloc _).Wl aK pz|exact wH.e.Wl aK pz)
         have q3: w7.cell? ⟨w.heap.size+2,3,ν⟩=φ (ζ A7 n7 c7):=PC.e.2.2.2.1.cell 3;have f3: w7.frozen? ⟨w.heap.size+2,3,ν⟩=χ:=PC.e.2.2.2.1.frozen 3;obtain⟨Ij,Ko,IM,rfl⟩:=vV aK;clear aK pz))
     all_goals
      show ∃_,_
      exact⟨_,_,_,_,_,_,_,_,rfl,ψ (apc PC.e)⟩
    case post=>
     clear uz q7 e0 e1 e2 DZ akp akq akr RP aj3 aj5 aj6 alF uw ux;refine fG.imp ?_
     rintro a W ⟨Ii,n61,IL,Ij,Ko,IM,v29,v35,rfl,hW⟩;have HW:=ψ hW;clear hW;go_wp2;go_roundw;case rel=>exact⟨i+1,_,by omega,by go_num,ψ (by unfold si;rw[Nf Bz];have:=HW.e.1;rw[VO.e] at this;simpa [si] using this),ψ (by rw[Nf Bz,abv Bz HX.e];have:=HW.e.2.1;rw[VO.e] at this;simpa [iC] using this),ψ HW.e.2.2.1,ψ HW.e.2.2.2.1,ψ HW.e.2.2.2.2⟩
     case measure=>simp[ϙ];omega
  ·obtain rfl:i=n3:=by omega
   have q0:=hk.e.cell 0;have q1:=hk.e.cell 1;have q2:=hk.e.cell 2;have q3:=hk.e.cell 3;have p0:=hr.e.cell 0;have p1:=hr.e.cell 1;have p2:=hr.e.cell 2;have p3:=hr.e.cell 3;have f0:=hr.e.frozen 0;have f1:=hr.e.frozen 1;have f2:=hr.e.frozen 2;have f3:=hr.e.frozen 3;have qT:w.heap.size+1<wr.heap.size:=hr.e.lt;have xm:=((((hr.e.set 0 (ξ κ b.ab)).set 1 (ζ A1 n1 c1)).set 2 (ζ A2 n2 c2)).set 3 (ζ A7 n7 c7));have y0:=xm.cell 0;have y1:=xm.cell 1;have y2:=xm.cell 2;have y3:=xm.cell 3;clear xm;go_wp2;refine bodyPost_ret (v:=μ #[η #[ξ κ b.ab,ζ A1 n1 c1,ζ A2 n2 c2,ζ A7 n7 c7],ζ A6 n6 c6]) (by simp[results,Tryz.results138,go_sem,y0,y1,y2,y3]) rfl ⟨_,_,rfl,?_⟩
   exact api hB bV.e HM.e.1 HM.e.2.1 (by rw[E3.e]) h6.e h7.e hb.e
def Df(b:an)(m:Nat)(cur:List Int):Bool:=
 let l:=(fH m b.aM.length).map Ċ
 (decide (l.length<cur.length) || (decide (l.length=cur.length) && decide (wS l cur<0))) && decide ((aH (sX b m)).length=0)
def pL(b:an):Nat->List Int
 |0=>(fH (2 ^ b.aM.length - 1) b.aM.length).map Ċ
 |m+1=>if Df b m (pL b m) then(fH m b.aM.length).map Ċ else pL b m
def Fz(b:an):List Int:=if(aH b).length=0 then pL b (2 ^ b.aM.length) else []
def EH(h:Valid b):Valid (sX b m):=by
 have sP:∀t∈(sX b m).aM,t∈b.aM:=λt ht=>by
  have:t∈mU b.aM m b.aM.length:=ht;unfold mU at this;obtain⟨k,_,hk⟩:=List.mem_filterMap.1 this;exact ϡ hk
 refine⟨h.ab,h.np,h.piece,h.nb,h.bm,?_,λt ht=>h.tape t (sP t ht)⟩
 have:(sX b m).aM.length=(fH m b.aM.length).length:=TX b.aM m _ (ϊ _);rw[this];exact ϣ (Ka _ _) h.nt
def amc{K:Act->Ψ->Prop}{a:Act}(F:Ψ->Prop)(h:∀W,F W->K a W)(hw:F w):K a w:=h w hw
def Xa(h:Df b m (pL b m)=θ):pL b (m+1)=(fH m b.aM.length).map Ċ:=by
 show(if Df b m (pL b m) then(fH m b.aM.length).map Ċ else pL b m)=_
 rw[if_pos h]
def LY(h:Df b m (pL b m)=χ):pL b (m+1)=pL b m:=by
 show(if Df b m (pL b m) then(fH m b.aM.length).map Ċ else pL b m)=_
 rw[h];rfl
def W9(b:an):∀m,(pL b m).length<=b.aM.length
 |0=>by simp[pL];exact Ka _ _
 |m+1=>by
  unfold pL;split
  ·simp;exact Ka _ _
  ·exact W9 b m
def afV(hB:B<=w.heap.size)(ai:bq w B b pv bv tv)(h0:dg b=0):
 ύ prog 56 #[η #[ξ κ b.ab,pv,bv,tv]] w λe w'=>∃v,e=Ω (μ #[v,ξ κ 0])/\Row w' w'.heap.size 1 cH v (Fz b)/\Γ w.heap.size w w':=by
 have st:Δ B w (w.alloc (Ξ #[ξ κ b.ab,pv,bv,tv] 26)):=(Δ.refl w).alloc hB _;have aE:=ψ (yb (ai.still st) (by simp<;>omega) h0)
 have bV:=ψ ai;have hv:=oc h0;have HV:=ψ hv;have ajy:=IB hv;have D7:=hv.nt;obtain⟨A1,n1,c1,rfl,-⟩:=ai.pieces.Φ;obtain⟨A2,n2,c2,rfl,-⟩:=ai.aF.Φ;obtain⟨A3,n3,c3,rfl,e3,h3,Bv,-⟩:=ai.aM.Φ;rw[e3] at D7;have E3:=ψ e3;unfold ϕ at Bv;obtain⟨na,BU⟩:∃n,n=(aH b).length:=⟨_,rfl⟩
 rw[<-BU] at ajy;by_cases yC:0<na
 ·have Iu:=ψ BU
  have mZ:Fz b=[]:=by unfold Fz;rw[if_neg (by have:=Iu.e;omega)]
  have AT:=ψ mZ;clear BU mZ;go_enter func56,Tryz.ntmps56;go_wp2_with (first
   | (go_at_call 68;refine aE.e.mono ?_;rintro e w1 ⟨rfl,ag⟩
      have kb:Bk w1 w.heap.size 26 #[ξ κ b.ab,ζ A1 n1 c1,ζ A2 n2 c2,ζ A3 n3 c3]:=(Bk.new w _ _).below ag (by simp)
      have k0:=kb.cell 0;have k1:=kb.cell 1;have k2:=kb.cell 2;have k3:=kb.cell 3;have a8:Hid (Γ w.heap.size w w1):=ψ ((((ώ _ _).alloc (ϊ _) _)).trans (ag.mono (by simp)))
      have KB:=ψ kb;have aS:w.heap.size<w1.heap.size:=kb.lt;have O3:Hid (∀w',Γ w1.heap.size w1 w'->ύ prog 96 #[η #[ξ κ b.ab,ζ A1 n1 c1,ζ A2 n2 c2,ζ A3 n3 c3]] w' λe bB=>∃v,e=Ω v/\kR bB w'.heap.size v (aH b)/\Γ w'.heap.size w' bB):=ψ λw' hw=>by
       have st:Δ B w w':=Δ.aN (a8.e.trans (hw.mono (by omega))) hB
       exact all (by have:=hw.size;omega) (bV.e.still st) HV.e
      clear kb ag)
   | (go_at_call 96
      refine(O3.e _ ((ώ _ _).alloc (ϊ _) _)).mono ?_
      rintro e w2 ⟨sv,rfl,aK,ak⟩;obtain⟨A9,n9,c9,rfl,dj,tK,j8,o3⟩:=aK.row.Φ;have e9:n9=na:=by rw[<-dj];exact Iu.e.symm
      subst e9;have fR:=ψ ak;clear ak aK dj o3))
  go_ret2
  exact⟨_,rfl,by rw[AT.e];exact Row.nil,a8.e.trans ((((ώ _ _).alloc (ϊ _) _).trans (fR.e.mono (by simp))).mono (by omega))⟩
 obtain rfl:na=0:=by omega
 have Iu:=ψ BU;clear ai st hv h0 BU e3;obtain⟨mp,yA⟩:∃mp,2 ^ n3=mp+1:=⟨2 ^ n3 - 1,by have:0<2 ^ n3:=Nat.two_pow_pos n3;omega⟩
 have hp:((2:Int) ^ n3)=(mp:Int)+1:=by
  have h1:((2:Int) ^ n3)=((2 ^ n3:Nat):Int):=by simp
  rw[h1,yA];simp
 have akH:mp<16:=by
  have:2 ^ n3<=2 ^ 4:=Nat.pow_le_pow_right (by omega) D7
  omega
 have El:ϗ.wrap ((mp:Int)+1)=(mp:Int)+1:=by rw[IntWalk.i64_left];exact IntWalk.wrap64_in _ (by omega)
 have iw:ϗ.wrap (mp:Int)=(mp:Int):=by rw[IntWalk.i64_left];exact IntWalk.wrap64_in _ (by omega)
 have hw3:ϗ.wrap ((mp:Int)+1 - 1)=(mp:Int):=by rw[Int.add_sub_cancel];exact iw
 have VN:=ψ yA;clear yA;go_enter func56,Tryz.ntmps56;go_wp2_with (first
  | (go_at_call 68;refine aE.e.mono ?_;rintro e w1 ⟨rfl,ag⟩
     have kb:Bk w1 w.heap.size 26 #[ξ κ b.ab,ζ A1 n1 c1,ζ A2 n2 c2,ζ A3 n3 c3]:=(Bk.new w _ _).below ag (by simp)
     have k0:=kb.cell 0;have k1:=kb.cell 1;have k2:=kb.cell 2;have k3:=kb.cell 3;have a8:Hid (Γ w.heap.size w w1):=ψ ((((ώ _ _).alloc (ϊ _) _)).trans (ag.mono (by simp)))
     have KB:=ψ kb;have aS:w.heap.size<w1.heap.size:=kb.lt;have O3:Hid (∀w',Γ w1.heap.size w1 w'->ύ prog 96 #[η #[ξ κ b.ab,ζ A1 n1 c1,ζ A2 n2 c2,ζ A3 n3 c3]] w' λe bB=>∃v,e=Ω v/\kR bB w'.heap.size v (aH b)/\Γ w'.heap.size w' bB):=ψ λw' hw=>by
      have st:Δ B w w':=Δ.aN (a8.e.trans (hw.mono (by omega))) hB
      exact all (by have:=hw.size;omega) (bV.e.still st) HV.e
     clear kb ag)
  | (go_at_call 96
     refine(O3.e _ ((ώ _ _).alloc (ϊ _) _)).mono ?_
     rintro e w2 ⟨sv,rfl,aK,ak⟩;obtain⟨A9,n9,c9,rfl,dj,tK,j8,o3⟩:=aK.row.Φ;have e9:n9=0:=by rw[<-dj,<-Iu.e]
     subst e9;have fR:=ψ ak;have sT:Bk w2 w.heap.size 26 #[ξ κ b.ab,ζ A1 n1 c1,ζ A2 n2 c2,ζ A3 n3 c3]:=(KB.e.alloc _).below ak (by simp<;>omega)
     have yJ:Bk w2 w1.heap.size 117 #[ξ κ b.ab,ζ A1 n1 c1,ζ A2 n2 c2,ζ A3 n3 c3]:=(Bk.new _ _ _).below ak (by simp)
     have q3: w2.cell? ⟨w.heap.size,3,ν⟩=φ (ζ A3 n3 c3):=sT.cell 3;have k0:=yJ.cell 0;have k1:=yJ.cell 1;have k2:=yJ.cell 2;have k3:=yJ.cell 3;have Dc:=ψ (Ϗ sT yJ);clear ak aK dj o3 sT yJ))
 have KS:∀w',Hid (Γ w2.heap.size w2 w')-> w'.cell? ⟨w.heap.size,3,ν⟩=φ (ζ A3 n3 c3)/\ w'.cell? ⟨w1.heap.size,0,ν⟩=φ (ξ κ b.ab)/\ w'.cell? ⟨w1.heap.size,1,ν⟩=φ (ζ A1 n1 c1)/\ w'.cell? ⟨w1.heap.size,2,ν⟩=φ (ζ A2 n2 c2)/\ w'.cell? ⟨w1.heap.size,3,ν⟩=φ (ζ A3 n3 c3)/\Hid (Γ w2.heap.size w2 w'):=λw' h=>
  ⟨(h.e.cell Dc.e.1.lt).trans q3,(h.e.cell Dc.e.2.lt).trans k0,(h.e.cell Dc.e.2.lt).trans k1,(h.e.cell Dc.e.2.lt).trans k2,(h.e.cell Dc.e.2.lt).trans k3,h⟩
 have HD:Hid (Γ w2.heap.size w2 w2.drew):=ψ (oT (ώ _ _));have Vm:Hid (∀(m:Nat) (w':Ψ),m<16->Γ w2.heap.size w2 w'->ύ prog 138 #[η #[ξ κ b.ab,ζ A1 n1 c1,ζ A2 n2 c2,ζ A3 n3 c3],ξ κ m] w' λe bB=>∃mK iv,e=Ω (μ #[η #[ξ κ b.ab,ζ A1 n1 c1,ζ A2 n2 c2,mK],iv])/\bq bB bB.heap.size (sX b m) (ζ A1 n1 c1) (ζ A2 n2 c2) mK/\
  de bB (λk=>k<w'.heap.size) 1 cH iv ((fH m b.aM.length).map Ċ)/\Γ w'.heap.size w' bB):=ψ λm w' hm hw=>by
  have st:Δ B w w':=Δ.aN ((a8.e.trans ((((ώ _ _).alloc (ϊ _) _).trans (fR.e.mono (by simp))).mono (by omega))).trans (hw.mono (by have:=Dc.e.1.lt;omega))) hB
  exact only (by have:=hw.size;have:=fR.e.size;have:=a8.e.size;simp at *;omega) (bV.e.still st) HV.e.nt hm
 clear q3 k0 k1 k2 k3;go_region_held3 (λw'=> w'.cell? ⟨w.heap.size,3,ν⟩=φ (ζ A3 n3 c3)/\ w'.cell? ⟨w1.heap.size,0,ν⟩=φ (ξ κ b.ab)/\ w'.cell? ⟨w1.heap.size,1,ν⟩=φ (ζ A1 n1 c1)/\ w'.cell? ⟨w1.heap.size,2,ν⟩=φ (ζ A2 n2 c2)/\ w'.cell? ⟨w1.heap.size,3,ν⟩=φ (ζ A3 n3 c3)/\Hid (Γ w2.heap.size w2 w'))
  (first
    |exact KS _ HD|exact KS _ (ψ (HD.e.alloc (ϊ _) _)) |exact KS _ uy|exact KS _ (ψ (uy.e.alloc (uy.e.size) _))
    |exact KS _ (ψ ((((uy.e.setCell (ϊ _) _).setCell (ϊ _) _).setCell (ϊ _) _).setCell (ϊ _) _))
    |exact KS _ (ψ (((((uy.e.alloc (uy.e.size) _).setCell uy.e.size _).setCell uy.e.size _).setCell uy.e.size _).setCell uy.e.size _)))
  (first
    | (go_at_call 138
       refine(Vm.e mp _ akH ?hx).mono ?_
       case hx=>first|exact HD.e|exact HD.e.alloc (ϊ _) _
       rintro e w3 ⟨t6v,i7v,rfl,bM,Gn,MA⟩;have uy:Hid (Γ w2.heap.size w2 w3):=ψ (by first|exact HD.e.trans MA|exact(HD.e.alloc (ϊ _) _).trans (MA.mono (by simp)))
       obtain⟨pg,n31,pn,rfl,-⟩:=bM.aM.Φ;obtain⟨Vh,n32,WV,rfl,-⟩:=id Gn.row.Φ
       try(
        have yG:Bk w3 w2.heap.size 117 #[ξ κ 0,ζ ν 0 0,ζ ν 0 0,ζ ν 0 0]:=(Bk.new w2.drew _ _).below MA (by simp)
        have z0: w3.cell? ⟨w2.heap.size,0,ν⟩=φ (ξ κ 0):=yG.cell 0;have z1: w3.cell? ⟨w2.heap.size,1,ν⟩=φ (ζ ν 0 0):=yG.cell 1;have z2: w3.cell? ⟨w2.heap.size,2,ν⟩=φ (ζ ν 0 0):=yG.cell 2;have z3: w3.cell? ⟨w2.heap.size,3,ν⟩=φ (ζ ν 0 0):=yG.cell 3;have y0:=yG.frozen 0;have y1:=yG.frozen 1;have y2:=yG.frozen 2;have y3:=yG.frozen 3;have HRN:Hid (de w3 (λk=>k=w2.heap.size) 1 cH (ζ Vh n32 WV) ((fH mp b.aM.length).map Ċ)):=ψ (Gn.weaken (λk hk=>by subst hk;simp))
        have y9:w2.heap.size<w3.heap.size:=yG.lt;clear yG)
       have HR3:=ψ Gn.row;clear bM Gn MA))
 all_goals
  have qk:pL b 0=(fH mp b.aM.length).map Ċ:=by
   show(fH (2 ^ b.aM.length - 1) b.aM.length).map Ċ=_;rw[E3.e,VN.e,Nat.add_sub_cancel]
  have Pk:=ψ qk;clear qk;simp only[Exit.then];refine amc (λW=>Hid (Γ w2.heap.size w2 W)/\Hid (Row W W.heap.size 1 cH (ζ Vh n32 WV) (pL b 0))) ?_ ?_
  rotate_left 1
  ·rw[Pk.e]
   first
    |exact⟨ψ (uy.e.alloc uy.e.size _),ψ ((HR3.e.still (Δ.aN ((ώ w3.heap.size w3).alloc (ϊ _) _) (ϊ _)) λ_ _ h=>h).more (by simp))⟩
    |exact⟨ψ ((((uy.e.setCell (ϊ _) _).setCell (ϊ _) _).setCell (ϊ _) _).setCell (ϊ _) _),
       ψ ((((HRN.e.grown (Bs _ _ _) (λk e=>by injection e with e;exact e.symm)).grown (Bs _ _ _) (λk e=>by injection e with e;exact e.symm)).grown (Bs _ _ _) (λk e=>by injection e with e;exact e.symm)).grown (Bs _ _ _) (λk e=>by injection e with e;exact e.symm)).row⟩
  rintro W ⟨HW,HR⟩;have⟨s3,s0,s1,s2,s4,_⟩:=KS W HW;go_wp2;go_loopw [7,36] (λv7 u wr=>∃m:Nat,m<=mp+1/\u=ξ κ m/\Hid (Γ w2.heap.size w2 wr)/\Hid (Row wr wr.heap.size 1 cH v7 (pL b m))) (λ_ u _=>mp+1 - (ϙ u).toNat)
  case atStart=>exact⟨0,Ϡ _,rfl,HW,HR⟩
  case round=>
   clear s3 s0 s1 s2 s4;obtain⟨m,hm,rfl,pj,uA⟩:=hrel;obtain⟨wq,rfl⟩:∃wq:Ψ,wq=wr:=⟨_,rfl⟩
   have⟨s3,s0,s1,s2,s4,_⟩:=KS wq pj;obtain⟨A7,n7,c7,rfl,e7,h7,h7',-⟩:=uA.e.Φ;unfold ϕ at h7';by_cases aj:m<mp+1
   ·have CX:=ψ (Vm.e m wq (by omega) pj.e)
    obtain⟨L,hL⟩:∃L,L=(fH m b.aM.length).map Ċ:=⟨_,rfl⟩
    rw[<-hL] at CX;obtain⟨cur,DT⟩:∃l,l=pL b m:=⟨_,rfl⟩
    rw[<-DT] at uA e7;obtain⟨l,hl⟩:∃l,l=L.length:=⟨_,rfl⟩
    have hl4:l<=4:=by rw[hl,hL,Ġ];have:=Ka m b.aM.length;have:=E3.e;omega
    have hc4:n7<=4:=by rw[<-e7,DT];have:=W9 b m;have:=E3.e;omega
    obtain⟨cm,rZ⟩:∃c,c=wS L cur:=⟨_,rfl⟩
    obtain⟨nb,nJ⟩:∃n,n=(aH (sX b m)).length:=⟨_,rfl⟩
    have ava:nb<=27:=by rw[nJ];exact IB (EH HV.e)
    have Yy:Df b m cur=((decide (l<n7) || (decide (l=n7) && decide (cm<0))) && decide (nb=0)):=by
     unfold Df;rw[<-hL];simp only[<-hl,<-rZ,<-nJ,e7]
    have HE:=ψ (Ϗ hL (Ϗ DT (Ϗ hl (Ϗ rZ (Ϗ nJ (Ϗ e7 Yy))))));clear hL DT hl rZ nJ e7 Yy;have hwm:m+1<=mp+1:=aj;by_cases h1:l<n7
    ·by_cases hE:nb=0
     ·have Bw:((nb:Int)==0)=θ:=by simp;omega
      go_wp2_with (first
       | (go_at_call 138
          refine CX.e.mono ?_
          rintro e w4 ⟨xD,xu,rfl,cx,dc,iq⟩;have wy:Hid (∀w',Γ w4.heap.size w4 w'->ύ prog 96 #[η #[ξ κ b.ab,ζ A1 n1 c1,ζ A2 n2 c2,xD]] w' λe bB=>∃v,e=Ω v/\kR bB w'.heap.size v (aH (sX b m))/\Γ w'.heap.size w' bB):=ψ λw' hw=>all hw.size (cx.still (Δ.aN hw (ϊ _))) (EH HV.e)
          have wv:Hid (∀w',Γ w4.heap.size w4 w'->ύ prog 139 #[xu,ζ A7 n7 c7] w' λe bB=>e=Ω (ξ κ cm)/\w'=bB):=ψ λw' hw=>by
             have st:Δ wq.heap.size wq w':=Δ.aN (iq.trans (hw.mono iq.size)) (ϊ _);rw[HE.e.2.2.2.1];exact FF ((dc.row.still (Δ.aN hw (ϊ _)) λ_ _ h=>h)) ((uA.e.still st λ_ _ h=>h).more iq.size) hw.size
          obtain⟨AP,n41,Bh,rfl,-⟩:=cx.aM.Φ;obtain⟨Ih,n42,IK,rfl,rm,-⟩:=dc.row.Φ;have wT:n42=l:=by rw[<-rm,<-HE.e.2.2.1]
          subst wT;have Dd:=ψ dc.row;have mD:Hid (Γ wq.heap.size wq w4):=ψ iq;clear cx dc iq rm)
       | (go_at_call 139
          refine(wv.e _ ((ώ _ _).alloc (ϊ _) _)).mono ?_
          rintro e w5 ⟨rfl,rfl⟩)
       | (go_at_call 96
          refine(wy.e _ ((ώ _ _).alloc (ϊ _) _)).mono ?_
          rintro e w6 ⟨sv,rfl,aK,mQ⟩;obtain⟨A9,n9,c9,rfl,dj,tK,j8,-⟩:=aK.row.Φ;have e9:n9=nb:=by rw[<-dj];exact HE.e.2.2.2.2.1.symm
          subst e9;have oj:=ψ mQ;clear mQ aK dj))
      go_roundw;case rel=>exact⟨m+1,by omega,by go_num,ψ ((pj.e.trans (mD.e.mono pj.e.size)).trans ((((ώ w4.heap.size w4).alloc (ϊ _) _).trans (oj.e.mono (by simp))).mono (by have:=mD.e.size;have:=pj.e.size;omega))),ψ (by
       rw[Xa (by rw[<-HE.e.2.1,HE.e.2.2.2.2.2.2];simp;omega),<-HE.e.1]
       exact((Dd.e.still (Δ.aN (((ώ w4.heap.size w4).alloc (ϊ _) _).trans (oj.e.mono (by simp))) (ϊ _)) λ_ _ h=>h).more (by have:=oj.e.size;simp at this;omega)))⟩
      case measure=>simp[ϙ];omega
     ·have Bw:((nb:Int)==0)=χ:=by simp;omega
      go_wp2_with (first
       | (go_at_call 138
          refine CX.e.mono ?_
          rintro e w4 ⟨xD,xu,rfl,cx,dc,iq⟩;have wy:Hid (∀w',Γ w4.heap.size w4 w'->ύ prog 96 #[η #[ξ κ b.ab,ζ A1 n1 c1,ζ A2 n2 c2,xD]] w' λe bB=>∃v,e=Ω v/\kR bB w'.heap.size v (aH (sX b m))/\Γ w'.heap.size w' bB):=ψ λw' hw=>all hw.size (cx.still (Δ.aN hw (ϊ _))) (EH HV.e)
          have wv:Hid (∀w',Γ w4.heap.size w4 w'->ύ prog 139 #[xu,ζ A7 n7 c7] w' λe bB=>e=Ω (ξ κ cm)/\w'=bB):=ψ λw' hw=>by
             have st:Δ wq.heap.size wq w':=Δ.aN (iq.trans (hw.mono iq.size)) (ϊ _);rw[HE.e.2.2.2.1];exact FF ((dc.row.still (Δ.aN hw (ϊ _)) λ_ _ h=>h)) ((uA.e.still st λ_ _ h=>h).more iq.size) hw.size
          obtain⟨AP,n41,Bh,rfl,-⟩:=cx.aM.Φ;obtain⟨Ih,n42,IK,rfl,rm,-⟩:=dc.row.Φ;have wT:n42=l:=by rw[<-rm,<-HE.e.2.2.1]
          subst wT;have Dd:=ψ dc.row;have mD:Hid (Γ wq.heap.size wq w4):=ψ iq;clear cx dc iq rm)
       | (go_at_call 139
          refine(wv.e _ ((ώ _ _).alloc (ϊ _) _)).mono ?_
          rintro e w5 ⟨rfl,rfl⟩)
       | (go_at_call 96
          refine(wy.e _ ((ώ _ _).alloc (ϊ _) _)).mono ?_
          rintro e w6 ⟨sv,rfl,aK,mQ⟩;obtain⟨A9,n9,c9,rfl,dj,tK,j8,-⟩:=aK.row.Φ;have e9:n9=nb:=by rw[<-dj];exact HE.e.2.2.2.2.1.symm
          subst e9;have oj:=ψ mQ;clear mQ aK dj))
      go_roundw;case rel=>exact⟨m+1,by omega,by go_num,ψ ((pj.e.trans (mD.e.mono pj.e.size)).trans ((((ώ w4.heap.size w4).alloc (ϊ _) _).trans (oj.e.mono (by simp))).mono (by have:=mD.e.size;have:=pj.e.size;omega))),ψ (by
       rw[LY (by rw[<-HE.e.2.1,HE.e.2.2.2.2.2.2];simp;omega),<-HE.e.2.1]
       exact((uA.e.still (Δ.aN (mD.e.trans ((((ώ w4.heap.size w4).alloc (ϊ _) _).trans (oj.e.mono (by simp))).mono mD.e.size)) (ϊ _)) λ_ _ h=>h).more (by have:=oj.e.size;have:=mD.e.size;simp at *;omega)))⟩
      case measure=>simp[ϙ];omega
    ·by_cases h2:l=n7
     ·have ie:((l:Int)==(n7:Int))=θ:=by simp;omega
      by_cases h3:cm<0
      ·by_cases hE:nb=0
       ·have Bw:((nb:Int)==0)=θ:=by simp;omega
        go_wp2_with (first
            | (go_at_call 138
               refine CX.e.mono ?_
               rintro e w4 ⟨xD,xu,rfl,cx,dc,iq⟩;have wy:Hid (∀w',Γ w4.heap.size w4 w'->ύ prog 96 #[η #[ξ κ b.ab,ζ A1 n1 c1,ζ A2 n2 c2,xD]] w' λe bB=>∃v,e=Ω v/\kR bB w'.heap.size v (aH (sX b m))/\Γ w'.heap.size w' bB):=ψ λw' hw=>all hw.size (cx.still (Δ.aN hw (ϊ _))) (EH HV.e)
               have wv:Hid (∀w',Γ w4.heap.size w4 w'->ύ prog 139 #[xu,ζ A7 n7 c7] w' λe bB=>e=Ω (ξ κ cm)/\w'=bB):=ψ λw' hw=>by
                have st:Δ wq.heap.size wq w':=Δ.aN (iq.trans (hw.mono iq.size)) (ϊ _);rw[HE.e.2.2.2.1];exact FF ((dc.row.still (Δ.aN hw (ϊ _)) λ_ _ h=>h)) ((uA.e.still st λ_ _ h=>h).more iq.size) hw.size
               obtain⟨AP,n41,Bh,rfl,-⟩:=cx.aM.Φ;obtain⟨Ih,n42,IK,rfl,rm,-⟩:=dc.row.Φ;have wT:n42=l:=by rw[<-rm,<-HE.e.2.2.1]
               subst wT;have Dd:=ψ dc.row;have mD:Hid (Γ wq.heap.size wq w4):=ψ iq;clear cx dc iq rm)
            | (go_at_call 139
               have j8:=wv.e (w4.alloc (Obj.cells #[ϛ ϗ b.ab,Value.slice A1 n1 c1,Value.slice A2 n2 c2,Value.slice AP n41 Bh] 117)) ((ώ _ _).alloc (ϊ _) _);rw[h2] at j8;refine j8.mono ?_
               clear j8;rintro e w5 ⟨rfl,rfl⟩)
            | (go_at_call 96
               refine(wy.e _ ((ώ _ _).alloc (ϊ _) _)).mono ?_
               rintro e w6 ⟨sv,rfl,aK,mQ⟩;obtain⟨A9,n9,c9,rfl,dj,tK,j8,-⟩:=aK.row.Φ;have e9:n9=nb:=by rw[<-dj];exact HE.e.2.2.2.2.1.symm
               subst e9;have oj:=ψ mQ;clear mQ aK dj))
        go_roundw;case rel=>exact⟨m+1,by omega,by go_num,ψ ((pj.e.trans (mD.e.mono pj.e.size)).trans ((((ώ w4.heap.size w4).alloc (ϊ _) _).trans (oj.e.mono (by simp))).mono (by have:=mD.e.size;have:=pj.e.size;omega))),ψ (by
            rw[Xa (by rw[<-HE.e.2.1,HE.e.2.2.2.2.2.2];simp;omega),<-HE.e.1]
            have V9:=Dd.e;rw[h2] at V9;exact((V9.still (Δ.aN (((ώ w4.heap.size w4).alloc (ϊ _) _).trans (oj.e.mono (by simp))) (ϊ _)) λ_ _ h=>h).more (by have:=oj.e.size;simp at this;omega)))⟩
        case measure=>simp[ϙ];omega
       ·have Bw:((nb:Int)==0)=χ:=by simp;omega
        go_wp2_with (first
            | (go_at_call 138
               refine CX.e.mono ?_
               rintro e w4 ⟨xD,xu,rfl,cx,dc,iq⟩;have wy:Hid (∀w',Γ w4.heap.size w4 w'->ύ prog 96 #[η #[ξ κ b.ab,ζ A1 n1 c1,ζ A2 n2 c2,xD]] w' λe bB=>∃v,e=Ω v/\kR bB w'.heap.size v (aH (sX b m))/\Γ w'.heap.size w' bB):=ψ λw' hw=>all hw.size (cx.still (Δ.aN hw (ϊ _))) (EH HV.e)
               have wv:Hid (∀w',Γ w4.heap.size w4 w'->ύ prog 139 #[xu,ζ A7 n7 c7] w' λe bB=>e=Ω (ξ κ cm)/\w'=bB):=ψ λw' hw=>by
                have st:Δ wq.heap.size wq w':=Δ.aN (iq.trans (hw.mono iq.size)) (ϊ _);rw[HE.e.2.2.2.1];exact FF ((dc.row.still (Δ.aN hw (ϊ _)) λ_ _ h=>h)) ((uA.e.still st λ_ _ h=>h).more iq.size) hw.size
               obtain⟨AP,n41,Bh,rfl,-⟩:=cx.aM.Φ;obtain⟨Ih,n42,IK,rfl,rm,-⟩:=dc.row.Φ;have wT:n42=l:=by rw[<-rm,<-HE.e.2.2.1]
               subst wT;have Dd:=ψ dc.row;have mD:Hid (Γ wq.heap.size wq w4):=ψ iq;clear cx dc iq rm)
            | (go_at_call 139
               have j8:=wv.e (w4.alloc (Obj.cells #[ϛ ϗ b.ab,Value.slice A1 n1 c1,Value.slice A2 n2 c2,Value.slice AP n41 Bh] 117)) ((ώ _ _).alloc (ϊ _) _);rw[h2] at j8;refine j8.mono ?_
               clear j8;rintro e w5 ⟨rfl,rfl⟩)
            | (go_at_call 96
               refine(wy.e _ ((ώ _ _).alloc (ϊ _) _)).mono ?_
               rintro e w6 ⟨sv,rfl,aK,mQ⟩;obtain⟨A9,n9,c9,rfl,dj,tK,j8,-⟩:=aK.row.Φ;have e9:n9=nb:=by rw[<-dj];exact HE.e.2.2.2.2.1.symm
               subst e9;have oj:=ψ mQ;clear mQ aK dj))
        go_roundw;case rel=>exact⟨m+1,by omega,by go_num,ψ ((pj.e.trans (mD.e.mono pj.e.size)).trans ((((ώ w4.heap.size w4).alloc (ϊ _) _).trans (oj.e.mono (by simp))).mono (by have:=mD.e.size;have:=pj.e.size;omega))),ψ (by
            rw[LY (by rw[<-HE.e.2.1,HE.e.2.2.2.2.2.2];simp;omega),<-HE.e.2.1]
            exact((uA.e.still (Δ.aN (mD.e.trans ((((ώ w4.heap.size w4).alloc (ϊ _) _).trans (oj.e.mono (by simp))).mono mD.e.size)) (ϊ _)) λ_ _ h=>h).more (by have:=oj.e.size;have:=mD.e.size;simp at *;omega)))⟩
        case measure=>simp[ϙ];omega
      ·go_wp2_with (first
        | (go_at_call 138
           refine CX.e.mono ?_
           rintro e w4 ⟨xD,xu,rfl,cx,dc,iq⟩;have wy:Hid (∀w',Γ w4.heap.size w4 w'->ύ prog 96 #[η #[ξ κ b.ab,ζ A1 n1 c1,ζ A2 n2 c2,xD]] w' λe bB=>∃v,e=Ω v/\kR bB w'.heap.size v (aH (sX b m))/\Γ w'.heap.size w' bB):=ψ λw' hw=>all hw.size (cx.still (Δ.aN hw (ϊ _))) (EH HV.e)
           have wv:Hid (∀w',Γ w4.heap.size w4 w'->ύ prog 139 #[xu,ζ A7 n7 c7] w' λe bB=>e=Ω (ξ κ cm)/\w'=bB):=ψ λw' hw=>by
             have st:Δ wq.heap.size wq w':=Δ.aN (iq.trans (hw.mono iq.size)) (ϊ _);rw[HE.e.2.2.2.1];exact FF ((dc.row.still (Δ.aN hw (ϊ _)) λ_ _ h=>h)) ((uA.e.still st λ_ _ h=>h).more iq.size) hw.size
           obtain⟨AP,n41,Bh,rfl,-⟩:=cx.aM.Φ;obtain⟨Ih,n42,IK,rfl,rm,-⟩:=dc.row.Φ;have wT:n42=l:=by rw[<-rm,<-HE.e.2.2.1]
           subst wT;have Dd:=ψ dc.row;have mD:Hid (Γ wq.heap.size wq w4):=ψ iq;clear cx dc iq rm)
        | (go_at_call 139
           have j8:=wv.e (w4.alloc (Obj.cells #[ϛ ϗ b.ab,Value.slice A1 n1 c1,Value.slice A2 n2 c2,Value.slice AP n41 Bh] 117)) ((ώ _ _).alloc (ϊ _) _);rw[h2] at j8;refine j8.mono ?_
           clear j8;rintro e w5 ⟨rfl,rfl⟩)
        | (go_at_call 96
           refine(wy.e _ ((ώ _ _).alloc (ϊ _) _)).mono ?_
           rintro e w6 ⟨sv,rfl,aK,mQ⟩;obtain⟨A9,n9,c9,rfl,dj,tK,j8,-⟩:=aK.row.Φ;have e9:n9=nb:=by rw[<-dj];exact HE.e.2.2.2.2.1.symm
           subst e9;have oj:=ψ mQ;clear mQ aK dj))
       go_roundw;case rel=>exact⟨m+1,by omega,by go_num,ψ ((pj.e.trans (mD.e.mono pj.e.size)).trans (((ώ w4.heap.size w4).alloc (ϊ _) _).mono (by have:=mD.e.size;have:=pj.e.size;omega))),ψ (by
        rw[LY (by rw[<-HE.e.2.1,HE.e.2.2.2.2.2.2];simp;omega),<-HE.e.2.1]
        exact((uA.e.still (Δ.aN (mD.e.trans (((ώ w4.heap.size w4).alloc (ϊ _) _).mono mD.e.size)) (ϊ _)) λ_ _ h=>h).more (by have:=mD.e.size;simp;omega)))⟩
       case measure=>simp[ϙ];omega
     ·have ie:((l:Int)==(n7:Int))=χ:=by simp;omega
      go_wp2_with (first
       | (go_at_call 138
          refine CX.e.mono ?_
          rintro e w4 ⟨xD,xu,rfl,cx,dc,iq⟩;have wy:Hid (∀w',Γ w4.heap.size w4 w'->ύ prog 96 #[η #[ξ κ b.ab,ζ A1 n1 c1,ζ A2 n2 c2,xD]] w' λe bB=>∃v,e=Ω v/\kR bB w'.heap.size v (aH (sX b m))/\Γ w'.heap.size w' bB):=ψ λw' hw=>all hw.size (cx.still (Δ.aN hw (ϊ _))) (EH HV.e)
          have wv:Hid (∀w',Γ w4.heap.size w4 w'->ύ prog 139 #[xu,ζ A7 n7 c7] w' λe bB=>e=Ω (ξ κ cm)/\w'=bB):=ψ λw' hw=>by
             have st:Δ wq.heap.size wq w':=Δ.aN (iq.trans (hw.mono iq.size)) (ϊ _);rw[HE.e.2.2.2.1];exact FF ((dc.row.still (Δ.aN hw (ϊ _)) λ_ _ h=>h)) ((uA.e.still st λ_ _ h=>h).more iq.size) hw.size
          obtain⟨AP,n41,Bh,rfl,-⟩:=cx.aM.Φ;obtain⟨Ih,n42,IK,rfl,rm,-⟩:=dc.row.Φ;have wT:n42=l:=by rw[<-rm,<-HE.e.2.2.1]
          subst wT;have Dd:=ψ dc.row;have mD:Hid (Γ wq.heap.size wq w4):=ψ iq;clear cx dc iq rm)
       | (go_at_call 139
          refine(wv.e _ ((ώ _ _).alloc (ϊ _) _)).mono ?_
          rintro e w5 ⟨rfl,rfl⟩)
       | (go_at_call 96
          refine(wy.e _ ((ώ _ _).alloc (ϊ _) _)).mono ?_
          rintro e w6 ⟨sv,rfl,aK,mQ⟩;obtain⟨A9,n9,c9,rfl,dj,tK,j8,-⟩:=aK.row.Φ;have e9:n9=nb:=by rw[<-dj];exact HE.e.2.2.2.2.1.symm
          subst e9;have oj:=ψ mQ;clear mQ aK dj))
      go_roundw;case rel=>exact⟨m+1,by omega,by go_num,ψ ((pj.e.trans (mD.e.mono pj.e.size)).trans (((ώ w4.heap.size w4).alloc (ϊ _) _).mono (by have:=mD.e.size;have:=pj.e.size;omega))),ψ (by
       rw[LY (by rw[<-HE.e.2.1,HE.e.2.2.2.2.2.2];simp;omega),<-HE.e.2.1]
       exact((uA.e.still (Δ.aN (mD.e.trans (((ώ w4.heap.size w4).alloc (ϊ _) _).mono mD.e.size)) (ϊ _)) λ_ _ h=>h).more (by have:=mD.e.size;simp;omega)))⟩
      case measure=>simp[ϙ];omega
   ·obtain rfl:m=mp+1:=by omega
    have mZ:Fz b=pL b (mp+1):=by unfold Fz;rw[if_pos Iu.e.symm,E3.e,VN.e]
    have AT:=ψ mZ;clear mZ;have uO:Γ w.heap.size w wq:=(a8.e.trans ((((ώ _ _).alloc (ϊ _) _).trans (fR.e.mono (by simp))).mono (by omega))).trans (pj.e.mono (by have:=Dc.e.1.lt;omega))
    have vo:=ψ uO;clear uO;go_wp2
    go_ret2
    exact⟨_,rfl,by rw[AT.e];exact uA.e,vo.e⟩
def Bp:List Cut:=[⟨1,0⟩,⟨0,0⟩,⟨0,6⟩]
def zL:aP:=⟨Kp,8,[⟨3,3⟩]⟩
def Dm:dg bg=0:=by decide+kernel
def IV:cG bg 0=0:=by decide+kernel
def ahA:ia zL=[⟨0,2⟩,⟨4,7⟩]:=by decide+kernel
def ahI:nM zL 0=4:=by decide+kernel
def ahJ:nM zL 1=8:=by decide+kernel
def ahN:scan (λ_ s=>s) [] [xx bg [4,3,3],px bg fM]=0:=by decide+kernel
def ahO:scan (λ_ s=>s) [] [xx bg [4,3,3],px bg Bp]=0:=by decide+kernel
def ahF:ib bg (mT [4,3,3]) fM=θ:=by decide+kernel
def ahG:ib bg (mT [4,3,3]) Bp=χ:=by decide+kernel
def ahy:LP bg=2:=by decide+kernel
def ahU:vf (aH bg)=⟨10,10⟩:=by decide+kernel
def ahL:cG bg (GN bg 0)=0:=by decide+kernel
def ahB:(aH bg).map (·.at 0)=[4,5]:=by decide+kernel
def XG:cG bg (px bg fM)=0:=by decide+kernel
def XH:cG bg (px bg Bp)=0:=by decide+kernel
def ahC:Oq (qe (λL=>ib bg L fM) (aH bg)) (aH bg).length=1:=by decide+kernel
def ahD:Oq (qe (λL=>ib bg L Bp) (aH bg)) (aH bg).length=0:=by decide+kernel
def ahR:K2 bg (aH bg) fM=θ:=by decide+kernel
def ahS:K2 bg (aH bg) Bp=χ:=by decide+kernel
def ahQ:GU bg fM=[1,1]:=by decide+kernel
def KW{xs:List Int}(hp:xs.Perm ys)(hs:ys.Pairwise (λx y=>decide (x<=y)=θ)):mV xs=ys:=by
 have h1:(mV xs).Perm ys:=(Aiy _ _).trans hp;refine h1.eq_of_pairwise (le:=λx y=>decide (x<=y)=θ) (λa c _ _ h k=>by simp only[decide_eq_true_eq] at h k;omega) ?_ hs
 exact Aiz (λa b c h k=>by simp only[decide_eq_true_eq] at *;omega) (λa b=>by simp;omega) _
def Ww(mI:List Cut->Int):ow bg mI=φ (fM,mI fM):=by
 have s0:search bg (cw (aH bg)) (oa 0) bg.pieces.length []=ν:=by decide+kernel
 have s1:search bg (cw (aH bg)) (oa 1) bg.pieces.length []=ν:=by decide+kernel
 have s2:search bg (cw (aH bg)) (oa 2) bg.pieces.length []=ν:=by decide+kernel
 have s3:search bg (cw (aH bg)) (oa 3) bg.pieces.length []=φ fM:=by decide+kernel
 unfold ow;rw[if_pos IV];show mE bg (cw (aH bg)) mI 4=_;rw[qP,qP,qP,qP];simp only[mE,List.range_zero,Ai0,xX,s0,s1,s2,s3,rU]
def Uy:mV (fM.map (·.bm))=[0,0,1]:=KW (by decide) (by decide)
def ahE:ow bg pB=φ (fM,2):=by
 rw[Ww];unfold pB pD;rw[Uy];rfl
def ahP:ow bg (Km bg)=φ (fM,14):=by
 rw[Ww];unfold Km pD;rw[Uy]
 have:sn bg (Lib.compact [0,0,1])=14:=by decide+kernel
 rw[this]
def ahx:IC bg=(0,1):=by decide+kernel
def TN:ByteArray:={data:=#[97,115,104]}
def nE:aP:=⟨TN,13,[]⟩
def ahv:dg (kZ bg nE)=0:=by decide+kernel
def sJ:List Cut:=[⟨2,0⟩,⟨2,6⟩,⟨2,10⟩]
def ahw:ow (kZ bg nE) pB=φ (sJ,1):=by
 have s0:search (kZ bg nE) (cw (aH (kZ bg nE))) (oa 0) 3 []=ν:=by decide+kernel
 have s1:search (kZ bg nE) (cw (aH (kZ bg nE))) (oa 1) 3 []=ν:=by decide+kernel
 have s2:search (kZ bg nE) (cw (aH (kZ bg nE))) (oa 2) 3 []=ν:=by decide+kernel
 have s3:search (kZ bg nE) (cw (aH (kZ bg nE))) (oa 3) 3 []=φ fM:=by decide+kernel
 have s4:search (kZ bg nE) (cw (aH (kZ bg nE))) (oa 4) 3 []=φ sJ:=by decide+kernel
 have s5:search (kZ bg nE) (cw (aH (kZ bg nE))) (oa 5) 3 []=φ [⟨2,0⟩,⟨0,0⟩,⟨0,4⟩]:=by decide+kernel
 have s6:search (kZ bg nE) (cw (aH (kZ bg nE))) (oa 6) 3 []=φ [⟨1,0⟩,⟨2,0⟩,⟨2,4⟩]:=by decide+kernel
 have s7:search (kZ bg nE) (cw (aH (kZ bg nE))) (oa 7) 3 []=φ fM:=by decide+kernel
 have m3:pB fM=2:=by unfold pB pD;rw[Uy];rfl
 have m4:pB sJ=1:=by unfold pB pD;rw[KW (ys:=[2,2,2]) (by decide) (by decide)];rfl
 have m5:pB [⟨2,0⟩,⟨0,0⟩,⟨0,4⟩]=2:=by unfold pB pD;rw[KW (ys:=[0,0,2]) (by decide) (by decide)];rfl
 have m6:pB [⟨1,0⟩,⟨2,0⟩,⟨2,4⟩]=2:=by unfold pB pD;rw[KW (ys:=[1,2,2]) (by decide) (by decide)];rfl
 have ho:cG (kZ bg nE) 0=0:=by decide+kernel
 unfold ow;rw[if_pos ho];show mE (kZ bg nE) (cw (aH (kZ bg nE))) pB 8=_;have hl:(kZ bg nE).pieces.length=3:=rfl;rw[qP,qP,qP,qP,qP,qP,qP,qP];simp only[mE,List.range_zero,Ai0,xX,hl,s0,s1,s2,s3,s4,s5,s6,s7,rU,m3,m4,m5,m6]
 decide
def ahH:Nl bg 0=[4,5]:=by
 unfold Nl;rw[ahB,KW (ys:=[4,5]) (by decide) (by decide)];rfl
def FK:an:={bg with aM:=bg.aM++ [⟨[0],⟨4,4⟩⟩,⟨[2],⟨2,2⟩⟩]}
def ahT:dg FK=0:=by decide+kernel
def ER{b:an}{n:al}{out:Nat->Bool}:∀(f:Nat) (cs full:List Cut),search b n out f cs=φ full->full.length=cs.length+f/\∀j,j<=f->search b n out (f - j) (full.take (cs.length+j))=φ full
 |0,cs,full,h=>by
  have h':=h;unfold search at h;cases h
  refine⟨rfl,λj hj=>?_⟩
  obtain rfl:j=0:=by omega
  simpa using h'
 |f+1,cs,full,h=>by
  have h':=h;unfold search at h;obtain⟨k,hk,h⟩:=ŧ h
  unfold tZ at h;split at h
  ·cases h
  ·obtain⟨fr,bY,h⟩:=ŧ h
   unfold pE at h;split at h
   ·obtain⟨h1,h2⟩:=ER f (cs++ [⟨k,fr⟩]) full h
    have hl:full.length=cs.length+(f+1):=by rw[h1];simp;omega
    have h0:=h2 0 (Ϡ _);refine⟨hl,λj hj=>?_⟩
    cases j with
    |zero=>
     have e:full.take (cs.length+0)=cs:=by
      obtain⟨g1,g2⟩:=Oc f (cs++ [⟨k,fr⟩]) full h;rw[<-g2];simp
     rw[e];exact h'
    |succ j=>
     have:=h2 j (by omega)
     simp only[List.length_append,List.length_singleton] at this;rw[show f+1 - (j+1)=f - j by omega,show cs.length+(j+1)=cs.length+1+j by omega]
     exact this
   ·cases h
where
 Oc {b:an} {n:al} {out:Nat->Bool}:∀(f:Nat) (cs full:List Cut),search b n out f cs=φ full->∃r,cs++r=full
  |0,cs,full,h=>by unfold search at h;cases h;exact⟨[],by simp⟩
  |f+1,cs,full,h=>by
   unfold search at h;obtain⟨k,hk,h⟩:=ŧ h
   unfold tZ at h;split at h
   ·cases h
   ·obtain⟨fr,bY,h⟩:=ŧ h
    unfold pE at h;split at h
    ·obtain⟨r,hr⟩:=Oc f _ full h
     exact⟨⟨k,fr⟩::r,by rw[<-hr];simp⟩
    ·cases h
def abY{n:al}{out:Nat->Bool}{cs full:List Cut}(h:search b n out (f+1) cs=φ full):
 ∃k fr:Nat,k<b.aF.length/\out k=χ/\fr<pQ b k/\sV b n cs ⟨k,fr⟩=θ/\full[cs.length]?=φ ⟨k,fr⟩/\search b n out f (cs++ [⟨k,fr⟩])=φ full/\
  ∀g,g<fr->pE b n (search b n out f) cs k g=ν:=by
 unfold search at h;obtain⟨l1,k,l2,e1,hk,-⟩:=Ai1.1 h
 have hkm:k∈Ϯ b.aF.length:=by rw[e1];simp
 have DZ:k<b.aF.length:=by simpa using hkm
 unfold tZ at hk;split at hk
 ·cases hk
 ·rename_i ho
  obtain⟨m1,fr,m2,e2,hf,br⟩:=Ai1.1 hk
  have hfm:fr∈Ϯ (pQ b k):=by rw[e2];simp
  have yn:fr<pQ b k:=by simpa using hfm
  have Rs:∀g,g<fr->pE b n (search b n out f) cs k g=ν:=by
   intro g hg;refine br g ?_
   have e3:m1=Ϯ fr:=by
    have h1:=congrArg (List.take m1.length) e2;rw[List.take_range,List.take_left] at h1;have h2:m1.length<=pQ b k:=by have:=congrArg List.length e2;simp at this;omega
    rw[Nat.min_eq_left h2] at h1;have h3:=congrArg (λl=>l[m1.length]?) e2
    simp only[Ÿ (ϊ _),Ajo,List.getElem?_cons_zero] at h3
    have h4:m1.length<pQ b k:=by have:=congrArg List.length e2;simp at this;omega
    rw[Ai2 h4] at h3
    cases h3;exact h1.symm
   rw[e3];simpa using hg
  unfold pE at hf;split at hf
  ·rename_i cE
   obtain⟨r,hr⟩:=ER.Oc f _ full hf;refine⟨k,fr,DZ,by simpa using ho,yn,cE,?_,hf,Rs⟩
   rw[<-hr];simp
  ·cases hf
def Uj{b:an}{n:al}{out:Nat->Bool}{l:List Cut}(hk:∀(j:Nat) (c:Cut),l[j]?=φ c->∃k fr:Nat,c=⟨k,fr⟩/\k<b.aF.length/\out k=χ/\fr<pQ b k/\sV b n (l.take j) c=θ):
 ∀(f j:Nat),l.length=j+f->search b n out f (l.take j)≠ν
 |0,j,_=>by unfold search;simp
 |f+1,j,hl=>by
  have hj:j<l.length:=by omega
  obtain⟨k,fr,hc,h1,h2,h3,h4⟩:=hk j l[j] (Ä hj)
  have ih:=Uj hk f (j+1) (by omega)
  intro br;unfold search at br;have br:=Dt.1 br k h1;unfold tZ at br;rw[h2] at br;simp only[Ì,if_false] at br;have br:=Dt.1 br fr h3;unfold pE at br;rw[<-hc,h4] at br;simp only[if_true] at br;rw[Ai3,Ä hj] at ih
  exact ih (by simpa using br)
def WH{b:an}(hv:Valid b):∀(f i:Nat) (n:al),i+f=b.pieces.length->(∀k,k<i->1<=n.at k)->∀L∈hJ b f i n,∀k,k<b.pieces.length->1<=L.at k
 |0,i,n,hi,hn,L,hL=>by
  unfold hJ at hL;split at hL
  ·simp at hL;subst hL;intro k hk;exact hn k (by omega)
  ·cases hL
 |f+1,i,n,hi,hn,L,hL=>by
  unfold hJ at hL;split at hL
  ·rename_i p hp
   obtain⟨k,hk,hL⟩:=List.mem_flatMap.1 hL;unfold rF at hk;obtain⟨j,hj,rfl⟩:=Ĭ.1 hk;have tN:=hv.piece p (ϡ hp);have:=tN.lo;refine WH hv f (i+1) _ (by omega) (λq hq=>?_) L hL
   have nw:i<3:=by have:=hv.np.2;omega
   by_cases e:q=i
   ·subst e
    have:(n.set q (p.len.lo+(j:Int))).at q=p.len.lo+j:=by
     unfold al.set al.at;have:q=0\/q=1\/q=2:=by omega
     rcases this with rfl|rfl|rfl<;>simp
    rw[this];omega
   ·have vK:=hn q (by omega)
    have:(n.set i (p.len.lo+(j:Int))).at q=n.at q:=by
     unfold al.set al.at;have YU:i=0\/i=1\/i=2:=by omega
     have ak0:q=0\/q=1\/q=2:=by omega
     rcases YU with rfl|rfl|rfl<;>rcases ak0 with rfl|rfl|rfl<;>simp at e |-
    rw[this];exact vK
  ·cases hL
def Fq(hv:Valid b){L:al}(hL:L∈aH b){k:Nat}(hk:k<b.pieces.length):1<=L.at k:=WH hv _ 0 _ (by omega) (λk hk=>absurd hk (Nat.not_lt_zero _)) L hL k hk
def aiP{k:Nat}:∀(n:Nat) (l:List al),l.length=n->(∀L∈l,0<=L.at k)->l≠ []->∃L∈l,L.at k=(cw l).at k:=by
 intro n;induction n with
 |zero=>intro l hl _ h;exact absurd (List.eq_nil_of_length_eq_zero hl) h
 |succ n Kd=>
  intro l' fy h0 au;obtain⟨l,x,rfl⟩:∃l x,l'=l++ [x]:=⟨l'.dropLast,l'.getLast au,(List.dropLast_concat_getLast au).symm⟩
  have ih:=Kd l (by simpa using fy)
  rw[Ye];have hx:=h0 x (by simp)
  by_cases hl:l=[]
  ·subst hl
   refine⟨x,by simp,?_⟩
   unfold cw nR al.at;unfold al.at at hx;simp only[Ai0];split
   ·rename_i h;simp only[h,if_true] at hx;simp;omega
   ·split
    ·rename_i h h';simp only[h,h',if_true,if_false] at hx;simp;omega
    ·rename_i h h';simp only[h,h',if_false] at hx;simp;omega
  ·obtain⟨L,hL,e⟩:=ih (λL hL=>h0 L (by simp[hL])) hl
   have hu:(nR (cw l) x 3).at k=if(cw l).at k<x.at k then x.at k else(cw l).at k:=by
    unfold nR al.at;simp only[show 0<3 by omega,show 1<3 by omega,show 2<3 by omega,if_true]
    split
    ·rfl
    ·split<;>rfl
   rw[hu];split
   ·exact⟨x,by simp,rfl⟩
   ·exact⟨L,by simp[hL],e⟩
def aiO{k:Nat}(l:List al)(h0:∀L∈l,0<=L.at k)(au:l≠ []):∃L∈l,L.at k=(cw l).at k:=aiP _ l rfl h0 au
def aeK{s:Int}{c d:Cut}{n m n' m':Int}(hs:0<=s)(hn:1<=n')(hm:1<=m')(h1:sF s c d n m'=θ)(h2:sF s c d n' m=θ)(nV:1<=n)(yx:1<=m):sF s c d n m=θ:=by
 unfold sF at *;cases hb:(c.bm==d.bm) with
 |false=>simp
 |true=>
  simp only[hb,Bool.not_true,Bool.false_or,Ail,decide_eq_true_eq] at *;omega
def agO(hv:Valid b)(au:aH b≠ []){l:List Cut}(hl:l.length=b.pieces.length)(h:∀L∈aH b,ib b L l=θ):ib b (cw (aH b)) l=θ:=by
 have hg:∀k,k<b.pieces.length->∃L∈aH b,L.at k=(cw (aH b)).at k:=λk hk=>aiO _ (λL hL=>by have:=Fq hv hL hk;omega) au
 refine pJ.2 λi hi=>?_
 unfold vA;rw[Ä hi]
 simp only[Ϫ];obtain⟨L,hL,e⟩:=hg i (by omega)
 have Ja:=pJ.1 (h L hL) i hi;unfold vA at Ja;rw[Ä hi] at Ja
 simp only[Ϫ] at Ja;refine⟨by rw[<-e];exact Ja.1,pJ.2 λk hk=>?_⟩
 have mS:=pJ.1 Ja.2 k hk;obtain⟨L2,tF,e2⟩:=hg k (by omega)
 have Mp:=pJ.1 (h L2 tF) i hi;unfold vA at Mp;rw[Ä hi] at Mp
 simp only[Ϫ] at Mp;have dq:=pJ.1 Mp.2 k hk;have DZ:k<l.length:=by omega
 unfold vv at mS dq |-
 rw[Ä DZ] at mS dq |-
 simp only at mS dq |-
 rw[e] at mS;rw[e2] at dq;have a1:=Fq hv hL (k:=i) (by omega)
 have a2:=Fq hv hL (k:=k) (by omega)
 have a3:=Fq hv tF (k:=i) (by omega)
 have a4:=Fq hv tF (k:=k) (by omega)
 exact aeK hv.ab.1 a3 a2 mS dq (by omega) (by omega)
def agP{n:al}{l:List Cut}(h:ib b n l=θ){c:Cut}(hj:l[j]?=φ c):sV b n (l.take j) c=θ:=by
 have hl:=(ϩ.1 hj).1
 have h1:=pJ.1 h j hl;unfold vA at h1;rw[hj] at h1;simp only[Ϫ] at h1;have hlen:(l.take j).length=j:=by rw[Ai4];omega
 unfold sV;rw[hlen,Ϫ];refine⟨h1.1,pJ.2 λk hk=>?_⟩
 have:=pJ.1 h1.2 k hk;unfold vv at this |-
 rw[Ai5 hk]
 exact this
def ape(hv:Valid b){n:al}{cs:List Cut}{k fr:Nat}(hn:1<=n.at cs.length)(h:sV b n cs ⟨k,fr⟩=θ):fr<pQ b k:=by
 unfold sV at h;rw[Ϫ] at h;have h:=h.1;unfold Ar at h;simp only[Int.toNat_natCast] at h;unfold pQ;split at h
 ·rename_i p x h1 h2
  rw[h2];simp only;unfold tR at h;simp only[Ϫ,decide_eq_true_eq] at h;omega
 ·cases h
def P9{b:an}{n:al}{mI:List Cut->Int}:∀(M:Nat) (c:List Cut) (m:Int),mE b n mI M=φ (c,m)->∃k,search b n (oa k) b.pieces.length []=φ c
 |0,c,m,h=>by simp[mE] at h
 |M+1,c,m,h=>by
  rw[qP] at h;unfold xX at h;split at h
  ·exact P9 M c m h
  ·rename_i l hl
   unfold rU at h;split at h
   ·simp at h;rw[<-h.1];exact⟨M,hl⟩
   ·split at h
    ·simp at h;rw[<-h.1];exact⟨M,hl⟩
    ·rename_i c' m' heq _
     simp at h;rw[<-h.1];exact P9 M c' m' heq
def Nn(c:Cut):lf c c=0:=by unfold lf;simp
def Qy(l:List Cut):j7 l l=0:=by
 induction l with
 |nil=>rfl
 |cons a l ih=>unfold j7;rw[if_neg (by simp[Nn])];exact ih
def am7{a c d:Cut}(h1:lf a c<0)(h2:lf c d<0):lf a d<0:=by
 unfold lf at *;split at h1<;>split at h2<;>split<;>omega
def Np{a c:Cut}(h:lf a c=0):a=c:=by
 obtain⟨x,y⟩:=a;obtain⟨z,t⟩:=c;unfold lf at h;simp only at h;split at h
 ·omega
 ·rename_i hn
  have hn:x=z:=by simpa using hn
  subst hn;have:y=t:=by omega
  subst this;rfl
def Qz:∀ {l m k:List Cut},l.length=m.length->m.length=k.length->j7 l m<0->j7 m k<0->j7 l k<0
 | [],[],_,_,_,h,_=>by simp[j7] at h
 |a::l,b::m,[],_,h,_,_=>by simp at h
 |a::l,b::m,c::k,h1,h2,ha,hb=>by
  unfold j7 at ha hb |-
  by_cases e1:lf a b=0
  ·have:=Np e1
   subst this;rw[if_neg (by simp[Nn])] at ha
   by_cases e2:lf a c=0
   ·have:=Np e2
    subst this;rw[if_neg (by simp[Nn])] at hb |-
    exact Qz (by simpa using h1) (by simpa using h2) ha hb
   ·rw[if_pos e2] at hb |-;exact hb
  ·rw[if_pos e1] at ha
   by_cases e2:lf b c=0
   ·have:=Np e2
    subst this;rw[if_pos e1];exact ha
   ·rw[if_pos e2] at hb
    have:=am7 ha hb;rw[if_pos (by omega)];exact this
def agq{l m:List Cut}{c d:Cut}(ht:l.take j=m.take j)(hc:l[j]?=φ c)(hd:m[j]?=φ d)(h:0<lf c d):¬j7 l m<0:=by
 rw[Qx hc hd (λi c d hi h1 h2=>by
  have e1:=Ai5 (l:=l) hi
  have e2:=Ai5 (l:=m) hi
  rw[ht,e2,h2,h1] at e1;cases e1;exact Nn _) (by omega)]
 omega
def QU{α:Type}{F:Nat->Option α}{x:α}:∀ {n:Nat},(Ϯ n).findSome? F=φ x->∃k,k<n/\F k=φ x/\∀i,i<k->F i=ν
 |0,h=>by simp at h
 |n+1,h=>by
  rw[Ś,List.findSome?_append] at h
  cases e:(Ϯ n).findSome? F with
  |some y=>
   rw[e] at h;simp at h;subst h;obtain⟨k,hk,h1,h2⟩:=QU e;exact⟨k,by omega,h1,h2⟩
  |none=>
   rw[e] at h;exact⟨n,by omega,by simpa using h,Dt.1 e⟩
def arh{n:al}{out:Nat->Bool}{cs full:List Cut}(h:search b n out (f+1) cs=φ full){k0 cJ:Nat}(g1:k0<b.aF.length)(g2:out k0=χ)(g3:cJ<pQ b k0)(g4:sV b n cs ⟨k0,cJ⟩=θ)
 (found:search b n out f (cs++ [⟨k0,cJ⟩])≠ν):∃k fr:Nat,search b n out f (cs++ [⟨k,fr⟩])=φ full/\(k<k0\/k=k0/\fr<=cJ)/\out k=χ:=by
 unfold search at h;obtain⟨k,hk,h1,h2⟩:=QU h;have t0:pE b n (search b n out f) cs k0 cJ≠ν:=by unfold pE;rw[if_pos g4];exact found
 have oC:k<=k0:=by
  apply Classical.byContradiction;intro hn;have:=h2 k0 (by omega)
  unfold tZ at this;rw[g2] at this;simp only[Ì,if_false] at this;exact t0 (Dt.1 this cJ g3)
 unfold tZ at h1;cases ho:out k with
 |true=>rw[ho] at h1;simp at h1
 |false=>
  rw[ho] at h1;simp only[Ì,if_false] at h1;obtain⟨fr,bY,h3,h4⟩:=QU h1;have h5:=h3;unfold pE at h5;split at h5
  ·refine⟨k,fr,h5,?_,ho⟩
   rcases Nat.lt_or_ge k k0 with h'|h'
   ·exact .inl h'
   ·obtain rfl:k=k0:=by omega
    refine .inr ⟨rfl,?_⟩
    apply Classical.byContradiction;intro hn;exact t0 (h4 cJ (by omega))
  ·cases h5
def abX{b:an}{n:al}{out:Nat->Bool}{l:List Cut}(hk:∀(j:Nat) (c:Cut),l[j]?=φ c->∃k fr:Nat,c=⟨k,fr⟩/\k<b.aF.length/\out k=χ/\fr<pQ b k/\sV b n (l.take j) c=θ):
 ∀(f j:Nat),l.length=j+f->∃full,search b n out f (l.take j)=φ full/\¬j7 l full<0
 |0,j,hl=>by
  refine⟨l.take j,by unfold search;rfl,?_⟩
  rw[List.take_of_length_le (by omega),Qy]
  omega
 |f+1,j,hl=>by
  have hj:j<l.length:=by omega
  have au:=Uj hk (f+1) j hl;obtain⟨full,hs⟩:=Option.ne_none_iff_exists'.1 au;refine⟨full,hs,?_⟩
  obtain⟨k0,cJ,qk,g1,g2,g3,g4⟩:=hk j l[j] (Ä hj)
  have hlen:(l.take j).length=j:=by rw[Ai4];omega
  have yB:l.take (j+1)=l.take j++ [⟨k0,cJ⟩]:=by rw[Ai3,Ä hj,qk];rfl
  have found:=Uj hk f (j+1) (by omega)
  rw[yB] at found;rw[qk] at g4;obtain⟨k,fr,ZL,hle,-⟩:=arh hs g1 g2 g3 g4 found;obtain⟨r,hr⟩:=ER.Oc f _ full ZL;have yE:l.take j=full.take j:=by
   rw[<-hr,List.append_assoc,List.take_append_of_le_length (by omega),List.take_take,Nat.min_self]
  have rY:full[j]?=φ ⟨k,fr⟩:=by
   rw[<-hr,List.append_assoc,Ÿ (by omega),hlen,Ajo];rfl
  by_cases e:k=k0/\fr=cJ
  ·obtain⟨rfl,rfl⟩:=e
   obtain⟨X5,cu,akw⟩:=abX hk f (j+1) (by omega)
   rw[yB,ZL] at cu;cases cu;exact akw
  ·refine agq yE (by rw[Ä hj,qk]) rY ?_
   unfold lf;simp only;split
   ·omega
   ·omega
def abW{b:an}{n:al}{out:Nat->Bool}:∀(f:Nat) (cs full:List Cut),(∀c∈cs,∃k:Nat,c.bm=k/\out k=χ)->search b n out f cs=φ full->∀c∈full,∃k:Nat,c.bm=k/\out k=χ
 |0,cs,full,h,hs=>by unfold search at hs;cases hs;exact h
 |f+1,cs,full,h,hs=>by
  obtain⟨k,fr,-,ho,-,-,-,hr,-⟩:=abY hs;exact abW f _ full (λc hc=>(È.1 hc).elim (h c) λhc=>by simp at hc;subst hc;exact⟨k,rfl,ho⟩) hr
def Qa{b:an}{n:al}{mI:List Cut->Int}:∀(M k:Nat) (l:List Cut),k<M->search b n (oa k) b.pieces.length []=φ l->∃c m,mE b n mI M=φ (c,m)/\c.length=b.pieces.length/\m=mI c/\(m<mI l\/m=mI l/\¬j7 l c<0)
 |0,k,l,hk,_=>by omega
 |M+1,k,l,hk,hl=>by
  rw[qP];have hlen:∀ {q:Nat} {l:List Cut},search b n (oa q) b.pieces.length []=φ l->l.length=b.pieces.length:=λh=>by have:=(ER _ _ _ h).1;simpa using this
  have Du:∀ {c:List Cut} {m:Int},mE b n mI M=φ (c,m)->c.length=b.pieces.length/\m=mI c:=λh=>LN M _ _ h
  unfold xX;by_cases e:k=M
  ·subst e
   rw[hl];simp only;unfold rU;cases hb:mE b n mI k with
   |none=>exact⟨l,mI l,rfl,hlen hl,rfl,.inr ⟨rfl,by rw[Qy];omega⟩⟩
   |some p=>
    obtain⟨c,m⟩:=p;obtain⟨h1,h2⟩:=Du hb;simp only;split
    ·exact⟨l,mI l,rfl,hlen hl,rfl,.inr ⟨rfl,by rw[Qy];omega⟩⟩
    ·rename_i br
     refine⟨c,m,rfl,h1,h2,?_⟩
     rcases Int.lt_or_le m (mI l) with h'|h'
     ·exact .inl h'
     ·exact .inr ⟨by omega,λhc=>br (by omega)⟩
  ·obtain⟨c,m,hb,h1,h2,h3⟩:=Qa M k l (by omega) hl
   rw[hb];cases hs:search b n (oa M) b.pieces.length [] with
   |none=>exact⟨c,m,rfl,h1,h2,h3⟩
   |some l2=>
    have g1:=hlen hs;have g0:=hlen hl;simp only;unfold rU;simp only;split
    ·rename_i Nc
     refine⟨l2,mI l2,rfl,g1,rfl,?_⟩
     rcases Nc with hy| ⟨hy,tO⟩
     ·left;rcases h3 with h3| ⟨h3,-⟩<;>omega
     ·rcases h3 with h3| ⟨h3,h4⟩
      ·left;omega
      ·exact .inr ⟨by omega,λhc=>h4 (Qz (by omega) (by omega) hc tO)⟩
    ·exact⟨c,m,rfl,h1,h2,h3⟩
where
 LN {b:an} {n:al} {mI:List Cut->Int}:∀(M:Nat) (c:List Cut) (m:Int),mE b n mI M=φ (c,m)->c.length=b.pieces.length/\m=mI c
  |0,c,m,h=>by simp[mE] at h
  |M+1,c,m,h=>by
   rw[qP] at h;unfold xX at h;split at h
   ·exact LN M c m h
   ·rename_i l hl
    have hg:=(ER _ _ _ hl).1;simp at hg;unfold rU at h;split at h
    ·simp at h;rw[<-h.1,<-h.2];exact⟨hg,rfl⟩
    ·rename_i c0 m0 hb
     split at h
     ·simp at h;rw[<-h.1,<-h.2];exact⟨hg,rfl⟩
     ·simp at h;rw[<-h.1,<-h.2];exact LN M _ _ hb
def asY(M x:al)(k:Nat):M.at k<=(nR M x 3).at k/\x.at k<=(nR M x 3).at k:=by
 have hu:(nR M x 3).at k=if M.at k<x.at k then x.at k else M.at k:=by
  unfold nR al.at;simp only[show 0<3 by omega,show 1<3 by omega,show 2<3 by omega,if_true]
  split
  ·rfl
  ·split<;>rfl
 rw[hu];split<;>omega
def aaD(k:Nat)(l:List al):∀L∈l,L.at k<=(cw l).at k:=by
 have key:∀(l:List al) (M:al),M.at k<=(l.foldl (λM x=>nR M x 3) M).at k/\∀L∈l,L.at k<=(l.foldl (λM x=>nR M x 3) M).at k:=by
  intro l;induction l with
  |nil=>intro M;exact⟨ś _,by simp⟩
  |cons a l ih=>
   intro M;obtain⟨h1,h2⟩:=ih (nR M a 3);have:=asY M a k;refine⟨Ait this.1 h1,λL hL=>?_⟩
   rcases ϥ.1 hL with rfl|hL
   ·exact Ait this.2 h1
   ·exact h2 L hL
 exact(key l _).2
def filter_le{α:Type}{p q:α->Bool}:∀(l:List α),(∀x∈l,p x=θ->q x=θ)->(l.filter p).length<=(l.filter q).length
 | [],_=>ϊ _
 |a::l,h=>by
  have ih:=filter_le l λx hx=>h x (by simp[hx])
  have ha:=h a (by simp)
  cases hp:p a with
  |true=>rw[Ai6 hp,Ai6 (ha hp)];simpa using ih
  |false=>
   rw[Ai7 (by simp[hp])]
   cases hq:q a with
   |true=>rw[Ai6 hq];simp;omega
   |false=>rw[Ai7 (by simp[hq])];exact ih
def agN{G L:al}{l:List Cut}(h:ib b G l=θ)(hL:∀k,k<l.length->L.at k<=G.at k):ib b L l=θ:=by
 refine pJ.2 λi hi=>?_
 have h0:=pJ.1 h i hi;unfold vA at h0 |-
 rw[Ä hi] at h0 |-
 simp only[Ϫ] at h0 |-
 have e1:=hL i hi;refine⟨?_,pJ.2 λk hk=>?_⟩
 ·have h1:=h0.1
  unfold Ar at h1 |-
  split
  ·rename_i p x e2 e3
   rw[e2,e3] at h1;simp only at h1;unfold tR at h1 |-
   simp only[Ϫ,decide_eq_true_eq] at h1 |-
   refine⟨by omega,Ait ?_ h1.2⟩
   unfold cQ;have:=filter_le (p:=nN l[i].from_ (l[i].from_+L.at i - 1)) (q:=nN l[i].from_ (l[i].from_+G.at i - 1)) x.aU λy _ hy=>by
    unfold nN at hy |-
    simp at hy |-
    omega
   omega
  ·rename_i br
   split at h1
   ·rename_i p x e2 e3;exact absurd e3 (br p x e2)
   ·cases h1
 ·have h1:=pJ.1 h0.2 k hk
  have e2:=hL k (by omega)
  unfold vv at h1 |-
  rw[Ä (show k<l.length by omega)] at h1 |-
  simp only at h1 |-
  unfold sF at h1 |-
  cases hb:(l[i].bm==l[k].bm) with
  |false=>simp
  |true=>
   simp only[hb,Bool.not_true,Bool.false_or,Ail,decide_eq_true_eq] at *;omega
def arf{n:al}{out:Nat->Bool}{full:List Cut}(hs:search b n out f []=φ full):ib b n full=θ:=by
 obtain⟨hl,hj⟩:=ER f [] full hs;refine pJ.2 λi hi=>?_
 have h1:=hj i (by simp at hl;omega)
 have hf:f - i=(f - i - 1)+1:=by simp at hl;omega
 rw[hf] at h1;obtain⟨k,fr,-,-,-,cE,rY,-,-⟩:=abY h1;simp only[List.length_nil,Nat.zero_add] at cE rY;have hlen:(full.take i).length=i:=by rw[Ai4];omega
 rw[hlen] at rY;unfold vA;rw[rY];unfold sV at cE;rw[hlen,Ϫ] at cE;simp only[Ϫ];refine⟨cE.1,pJ.2 λq hq=>?_⟩
 have:=pJ.1 cE.2 q hq;unfold vv at this |-
 rwa[Ai5 hq] at this
def Wc(l m:List Int):Prop:=l.Pairwise (· < ·)/\∀x,x∈l↔x∈m
def agt{zs:List Int}(hs:zs.Pairwise (· <= ·)):Wc (Lib.compact zs) zs:=by
 have key:∀m,m<=zs.length->(Aip zs.toArray m).Pairwise (· < ·)/\(∀x,x∈Aip zs.toArray m↔x∈zs.take m):=by
  intro m;induction m with
  |zero=>intro _;simp[Aip]
  |succ m ih=>
   intro hm;obtain⟨h1,h2⟩:=ih (by omega)
   have aj:m<zs.length:=by omega
   have eg:zs.toArray[m]! =zs[m]:=by simp[aj]
   have et:zs.take (m+1)=zs.take m++ [zs[m]]:=by rw[Ai3,Ä aj];rfl
   rw[Lib.compactUpTo_succ,et];have le:∀x∈zs.take m,x<=zs[m]:=by
    intro x hx;obtain⟨j,hj,rfl⟩:=Ai8 hx;have Y1:j<m:=by simp at hj;omega
    rw[List.getElem_take];exact Ai9.1 hs j m (by omega) aj Y1
   by_cases hk:Lib.keeps zs.toArray m=θ
   ·rw[if_pos hk,eg]
    have ne:∀x∈zs.take m,x≠zs[m]:=by
     intro x hx hxe;have yx:m≠0:=by rintro rfl;simp at hx
     simp only[Lib.keeps,decide_eq_true_eq] at hk;rcases hk with hk|hk
     ·exact yx hk
     ·rw[eg] at hk
      have e1:zs.toArray[m - 1]! =zs[m - 1]:=by simp[show m - 1<zs.length by omega]
      rw[e1] at hk;obtain⟨j,hj,rfl⟩:=Ai8 hx;have Y1:j<m:=by simp at hj;omega
      rw[List.getElem_take] at hxe;have a1:zs[m - 1]<=zs[m]:=Ai9.1 hs (m - 1) m (by omega) aj (by omega)
      have a2:zs[j]<=zs[m - 1]:=by
        rcases Nat.lt_or_ge j (m - 1) with h'|h'
        ·exact Ai9.1 hs j (m - 1) (by omega) (by omega) h'
        ·have:j=m - 1:=by omega
         subst this;exact ś _
      omega
    refine⟨Aja.2 ⟨h1,Ajb _ _,λx hx y hy=>?_⟩,λx=>by rw[È,È,h2]⟩
    rw[Ã] at hy;subst hy;have oI:=(h2 x).1 hx;have:=le x oI;have:=ne x oI;omega
   ·rw[if_neg hk,Ť]
    refine⟨h1,λx=>?_⟩
    rw[h2,È,Ã];refine⟨.inl,?_⟩
    rintro(h|rfl)
    ·exact h
    ·simp only[Lib.keeps,decide_eq_true_eq,not_or,Classical.not_not] at hk
     obtain⟨yx,hk⟩:=hk;rw[eg] at hk;have e1:zs.toArray[m - 1]! =zs[m - 1]:=by simp[show m - 1<zs.length by omega]
     rw[e1] at hk;rw[hk];exact List.mem_take_iff_getElem.2 ⟨m - 1,by omega,rfl⟩
 have:=key zs.length (ϊ _);rwa[Ajc] at this
def acx(l:List Cut):Wc (pD l) (l.map (·.bm)):=by
 have hs:(mV (l.map (·.bm))).Pairwise (· <= ·):=by
  have:=Aiz (le:=λx y:Int=>decide (x<=y)) (λa b c h1 h2=>by simp at *;omega) (λa b=>by simp;omega) (l.map (·.bm))
  exact this.imp λh=>by simpa using h
 obtain⟨h1,h2⟩:=agt hs;exact⟨h1,λx=>(h2 x).trans (by unfold mV;exact(Aiy _ _).mem_iff)⟩
def Uc:∀ {l m:List Int},l.Pairwise (· < ·)->m.Pairwise (· < ·)->(∀x∈l,x∈m)->l.Sublist m
 | [],m,_,_,_=>List.nil_sublist _
 |a::l,[],_,_,h=>by have:=h a (by simp);simp at this
 |a::l,b::m,hl,hm,h=>by
  rw[List.pairwise_cons] at hl hm;rcases ϥ.1 (h a (by simp)) with rfl|ha
  ·refine(Uc hl.2 hm.2 λx hx=>?_).cons₂ a
   rcases ϥ.1 (h x (by simp[hx])) with rfl|h'
   ·have:=hl.1 x hx;omega
   ·exact h'
  ·refine(Uc (List.pairwise_cons.2 hl) hm.2 λx hx=>?_).cons b
   rcases ϥ.1 (h x hx) with rfl|h'
   ·have h1:=hm.1 a ha
    rcases ϥ.1 hx with rfl|hx
    ·omega
    ·have:=hl.1 x hx;omega
   ·exact h'
def am6(a c:Cut):lf a c= - lf c a:=by
 unfold lf;by_cases h:a.bm=c.bm
 ·rw[if_neg (by simp[h]),if_neg (by simp[h])];omega
 ·rw[if_pos h,if_pos (λe=>h e.symm)];omega
def Xg:∀ {l m:List Cut},l.length=m.length->j7 l m= - j7 m l
 | [],[],_=>rfl
 | [],_::_,h=>by simp at h
 |_::_,[],h=>by simp at h
 |a::l,c::m,h=>by
  unfold j7;rw[am6 a c];by_cases e:lf c a=0
  ·rw[if_neg (by omega),if_neg (by omega)];exact Xg (by simpa using h)
  ·rw[if_pos (by omega),if_pos e]
def Xf:∀ {l m:List Cut},l.length=m.length->j7 l m=0->l=m
 | [],[],_,_=>rfl
 | [],_::_,h,_=>by simp at h
 |_::_,[],h,_=>by simp at h
 |a::l,c::m,h,e=>by
  unfold j7 at e;by_cases e1:lf a c=0
  ·rw[if_neg (by omega)] at e
   rw[Np e1,Xf (by simpa using h) e]
  ·rw[if_pos e1] at e;exact absurd e e1
def anZ(p:Nat->Bool):∀n,n<=3->∃k,k<2 ^ n/\∀i,i<n->k.testBit i=p i
 |0,_=>⟨0,by decide,λi hi=>by omega⟩
 |1,_=>by
  refine⟨(p 0).toNat,by cases p 0<;>decide,λi hi=>?_⟩
  obtain rfl:i=0:=by omega
  cases p 0<;>decide
 |2,_=>by
  refine⟨(p 0).toNat+2 * (p 1).toNat,by cases p 0<;>cases p 1<;>decide,λi hi=>?_⟩
  have:i=0\/i=1:=by omega
  rcases this with rfl|rfl<;>cases p 0<;>cases p 1<;>decide
 |3,_=>by
  refine⟨(p 0).toNat+2 * (p 1).toNat+4 * (p 2).toNat,by cases p 0<;>cases p 1<;>cases p 2<;>decide,λi hi=>?_⟩
  have:i=0\/i=1\/i=2:=by omega
  rcases this with rfl|rfl|rfl<;>cases p 0<;>cases p 1<;>cases p 2<;>decide
 |n+4,h=>by omega
def V2(mI:List Cut->Int):Prop:=∀l m:List Cut,(∀c∈l,∃d∈m,c.bm=d.bm)->mI l<=mI m
def ae1(hv:Valid b){mI:List Cut->Int}(hm:V2 mI)(au:aH b≠ []){c:List Cut}(hc:CY b c)(hd:∀L∈aH b,ib b L c=θ):
 ∃x m,mE b (cw (aH b)) mI (2 ^ b.aF.length)=φ (x,m)/\m<=mI c/\(m=mI c->¬j7 c x<0):=by
 have hG:=agO hv au hc.1 hd;obtain⟨k,hk,ny⟩:=anZ (λi=>c.any λd=>d.bm==i) b.aF.length hv.nb
 have ajR:∀(j:Nat) (d:Cut),c[j]?=φ d->∃q fr:Nat,d=⟨q,fr⟩/\q<b.aF.length/\oa k q=χ/\fr<pQ b q/\sV b (cw (aH b)) (c.take j) d=θ:=by
  intro j d hj;have tI:=(ϩ.1 hj).1
  have cE:=hc.2 d (ϡ hj);obtain⟨q,hq,Gl⟩:=cE.bm;have hf:=cE.from_;have e:d=⟨(q:Nat),(d.from_.toNat:Nat)⟩:=by
   obtain⟨x,y⟩:=d;simp only at hq hf |-
   rw[hq,Int.toNat_of_nonneg hf.1]
  have ho:=agP hG hj;refine⟨q,d.from_.toNat,e,Gl,?_,?_,ho⟩
  ·unfold oa
   rw[ny q Gl];simp only[Bool.not_eq_false',Ajd];exact⟨d,ϡ hj,by simp[hq]⟩
  ·rw[e] at ho
   refine ape hv ?_ ho
   obtain⟨L,hL⟩:=Aje _ au;have h1:=Fq hv hL (k:=(c.take j).length) (by rw[Ai4];have:=hc.1;omega)
   have h2:=aaD (c.take j).length (aH b) L hL;omega
 obtain⟨full,hs,hle⟩:=abX ajR b.pieces.length 0 (by rw[hc.1];omega)
 rw[ú] at hs;have yn:full.length=b.pieces.length:=by have:=(ER _ _ _ hs).1;simpa using this
 have fP:=abW _ [] full (by simp) hs
 have Jv:=Od hv _ [] full (by simp) hs
 have hmf:mI full<=mI c:=hm full c λd Jo=>by
  obtain⟨q,hq,ho⟩:=fP d Jo;obtain⟨q',vK,Gl⟩:=(Jv.2 d Jo).bm;have:q=q':=by omega
  subst this;unfold oa at ho;rw[ny q Gl] at ho;simp only[Bool.not_eq_false',Ajd] at ho;obtain⟨d2,h1,h2⟩:=ho;exact⟨d2,h1,by rw[hq];simpa using(by simpa using h2:d2.bm=q).symm⟩
 obtain⟨x,m,hb,Gx,Gy,h3⟩:=Qa (mI:=mI) _ k full hk hs;refine⟨x,m,hb,by rcases h3 with h3|h3<;>omega,λhe aj=>?_⟩
 have h4:m=mI full/\¬j7 full x<0:=by
  rcases h3 with h3|h3
  ·omega
  ·exact h3
 have mZ:=hc.1;by_cases e0:j7 c full=0
 ·have:=Xf (by omega) e0
  subst this;exact h4.2 aj
 ·have h5:j7 full c<0:=by have:=Xg (l:=full) (m:=c) (by omega);omega
  exact h4.2 (Qz (by omega) (by omega) h5 aj)
def ae0{mI:List Cut->Int}{M:Nat}{x:List Cut}{m:Int}(hb:mE b (cw (aH b)) mI M=φ (x,m)):(∀L∈aH b,ib b L x=θ)/\m=mI x:=by
 obtain⟨k,hk⟩:=P9 M x m hb;refine⟨λL hL=>agN (arf hk) λq _=>aaD q _ L hL,(Qa.LN M x m hb).2⟩
def an7:V2 pB:=λl m h=>by
 obtain⟨a1,a2⟩:=acx l;obtain⟨b1,b2⟩:=acx m;have ald:=Uc a1 b1 λx hx=>by
  obtain⟨c,hc,rfl⟩:=Ĭ.1 ((a2 x).1 hx);obtain⟨d,hd,e⟩:=h c hc;exact(b2 _).2 (Ĭ.2 ⟨d,hd,e.symm⟩)
 unfold pB;exact_mod_cast ald.length_le
def zK(c:Int):Bool:=decide (48<=c) && decide (c<=57)
def digit(c:Int)(w:Ψ):ύ prog 207 #[.int .u8 c] w λe w'=>e=Ω (.bool (zK c))/\w=w':=by
 go_enter func207,Tryz.ntmps207;go_wp2;all_goals go_ret
 all_goals (refine⟨cj ?_,rfl⟩;unfold zK;first| (simp;done) | (simp[*];done) | (simp;omega))
def NT{s:ByteArray}(hs:s.size<=ϕ)(w:Ψ):
 ύ prog 186 #[.string s] w λe w'=>e=Ω (.bool (sr s.data.toList))/\w=w':=by
 unfold ϕ at hs;by_cases h1:s.size<1
 ·go_enter func186,Tryz.ntmps186
  go_wp2;go_ret;refine⟨cj ?_,rfl⟩
  have e:cf s.data.toList.length 1 10=χ:=by unfold cf;simp;omega
  unfold sr;rw[e,Bool.and_false]
 by_cases h2:10<s.size
 ·go_enter func186,Tryz.ntmps186
  go_wp2;go_ret;refine⟨cj ?_,rfl⟩
  have e:cf s.data.toList.length 1 10=χ:=by unfold cf;simp;omega
  unfold sr;rw[e,Bool.and_false]
 have hlen:cf s.data.toList.length 1 10=θ:=by unfold cf;simp;omega
 have Zg:cf (s.size:Int) 1 10=θ:=by simpa using hlen
 have HL:=ψ Zg;clear Zg;have h0:0<s.size:=by omega
 cases hd:zK s[0].toNat with
 |true=>
  go_enter func186,Tryz.ntmps186;go_wp2_with (first
   | (go_at_call 207;refine(digit _ _).mono ?_;rintro e w' ⟨rfl,rfl⟩;try rw[hd]))
  go_ret;refine⟨cj (Eq.symm (TO (IJ h0) ?_)),rfl⟩
  simp only[zK,Ϫ,decide_eq_true_eq] at hd;simp only[pK,Aim,Ain,decide_eq_false_iff_not];omega
 |false=>
  go_enter func186,Tryz.ntmps186;go_wp2_with (first
   | (go_at_call 207;refine(digit _ _).mono ?_;rintro e w' ⟨rfl,rfl⟩;try rw[hd]))
  go_loop [3] (λk=>∃n:Nat,n<=s.size/\k=ξ κ n/\∀j c,j<n->s.data.toList[j]?=φ c->pK j c.toNat=θ) (λk=>s.size - (ϙ k).toNat)
  case atStart=>exact⟨0,Ϡ _,rfl,λj _ hj=>by omega⟩
  case round=>
   obtain⟨n,hn,rfl,bL⟩:=hrel;have HA:=ψ bL;clear bL;by_cases aj:n<s.size
   ·have bad:pK n s[n].toNat=χ->Ending.returned (.bool χ)=Ω (.bool (sr s.data.toList)):=λh=>cj (Eq.symm (TO (IJ aj) h))
    have nA:=ψ bad;have hz:n=0->zK s[n].toNat=χ:=λe=>by subst e;exact hd
    have HZ:=ψ hz;clear bad hz;have Du:pK n s[n].toNat=θ->∀j c,j<n+1->s.data.toList[j]?=φ c->pK j c.toNat=θ:=λh j c hj vF=>by
     rcases ε.1 hj with h'|rfl
     ·exact HA.e j c h' vF
     ·have e:c=s[j]:=by simpa using((IJ aj).symm.trans vF).symm
      subst e;exact h
    have VA:=ψ Du;clear Du;cases BG:zK s[n].toNat with
    |true=>
     have hc:pK n s[n].toNat=θ:=by
      have nV:n≠0:=λe=>by have:=HZ.e e;rw[BG] at this;cases this
      simp only[zK,Ϫ,decide_eq_true_eq] at BG;simp only[pK,Ail,Ϫ,decide_eq_true_eq];omega
     have HC:=ψ hc;clear hc;go_wp2_with (first
      | (go_at_call 207;refine(digit _ _).mono ?_;rintro e w' ⟨rfl,rfl⟩;try rw[BG]))
     go_round
     case rel=>exact⟨n+1,by omega,by go_num,VA.e HC.e⟩
     case measure=>simp[ϙ];omega
    |false=>
     have tL:¬ (48<=s[n].toNat/\s[n].toNat<=57):=by
      intro h;have:zK s[n].toNat=θ:=by simp only[zK,Ϫ,decide_eq_true_eq];omega
      rw[this] at BG;cases BG
     by_cases ha:s[n].toNat<97
     ·have hc:pK n s[n].toNat=χ:=by
       simp only[pK,Aim,Ain,decide_eq_false_iff_not];omega
      have R:=ψ (nA.e hc);clear hc;go_wp2_with (first
       | (go_at_call 207;refine(digit _ _).mono ?_;rintro e w' ⟨rfl,rfl⟩;try rw[BG]))
      go_ret;exact⟨R.e,rfl⟩
     by_cases hb:122<s[n].toNat
     ·have hc:pK n s[n].toNat=χ:=by
       simp only[pK,Aim,Ain,decide_eq_false_iff_not];omega
      have R:=ψ (nA.e hc);clear hc;go_wp2_with (first
       | (go_at_call 207;refine(digit _ _).mono ?_;rintro e w' ⟨rfl,rfl⟩;try rw[BG]))
      go_ret;exact⟨R.e,rfl⟩
     have hc:pK n s[n].toNat=θ:=by
      simp only[pK,Ail,Ϫ,decide_eq_true_eq];omega
     have HC:=ψ hc;clear hc;go_wp2_with (first
      | (go_at_call 207;refine(digit _ _).mono ?_;rintro e w' ⟨rfl,rfl⟩;try rw[BG]))
     go_round
     case rel=>exact⟨n+1,by omega,by go_num,VA.e HC.e⟩
     case measure=>simp[ϙ];omega
   ·obtain rfl:n=s.size:=by omega
    go_wp2;go_ret;refine⟨cj ?_,rfl⟩
    simp[sr,HL.e,Qv s.data.toList 0 (λk c hk=>by
     have:=HA.e k c (by have:=(ϩ.1 hk).1;simpa using this) hk;simpa using this)]
def rising{np:Nat}{l:List Int}(hv:Row w B 1 cH v l)(hB:B<=w.heap.size)(sd:np<=ϕ):
 ύ prog 57 #[v,ξ κ np] w λe w'=>e=Ω (ξ κ (iA np ν l))/\Γ w.heap.size w w':=by
 obtain⟨A,n,c,rfl,hl,gY,hc,hr⟩:=hv.Φ;unfold ϕ at hc sd;have KR:=ψ hr;have KL:=ψ hl;clear hv hr hl;go_enter func57,Tryz.ntmps57;go_wp2;go_loopw [4,5] (λr k wr=>∃j:Nat,j<=n/\k=ξ κ j/\r=ξ κ 0/\iA np ν l=iA np (ss l j) (l.drop j)/\Γ w.heap.size w wr) (λ_ k _=>n - (ϙ k).toNat)
 case atStart=>exact⟨0,Ϡ _,rfl,rfl,rfl,ώ _ _⟩
 case round=>
  obtain⟨j,hj,rfl,rfl,B8,hb⟩:=hrel;have RE:=ψ B8;have HB:=ψ hb;clear B8;by_cases tI:j<n
  ·obtain⟨kd,y,cs,rfl,xe,hy,rfl,-,aq⟩:=KR.e j tI
   have st:Δ B w wr:=Δ.aN hb hB;have ST:=ψ st;have q0:kd.block<wr.heap.size:=by have:=hb.size;omega
   have g1:=cA aq st xe rfl;rw[Ķ] at g1;have HY:=ψ hy;clear hy aq st hb;cases fP:cf y 0 (np - 1) with
   |false=>
    go_wp2_with (first
     | (go_at_call 62;refine(tP _ _ _ _).mono ?_;rintro e w' ⟨rfl,rfl⟩))
    go_ret;refine⟨bj ?_,HB.e⟩
    rw[RE.e,drop_cons HY.e];cases ss l j<;>simp[iA,fP]
   |true=>
    rcases Nat.eq_zero_or_pos j with Bt|Bt
    ·subst Bt
     rw[show kd.add 0=kd from rfl] at g1
     go_wp2_with (first
      | (go_at_call 62;refine(tP _ _ _ _).mono ?_;rintro e w' ⟨rfl,rfl⟩))
     go_quiet (fail);go_wp2;have hrel:iA np ν l=iA np (ss l 1) (l.drop 1):=by rw[RE.e,drop_cons HY.e];simp[ss,iA,fP,HY.e]
     go_roundw;case rel=>exact⟨1,tI,by go_num,rfl,hrel,by first|exact HB.e|exact oU HB.e _⟩
     case measure=>simp[ϙ];omega
    ·obtain⟨q,rfl⟩:∃q,j=q+1:=⟨j - 1,by omega⟩
     obtain⟨kg,z,Xn,IT,Y5,hz,rfl,-,BF⟩:=KR.e q (by omega)
     cases IT;rw[show kd.add (q+1)=⟨kd.block,kd.off+(q+1),ν⟩ from rfl] at g1
     have g3:=cA BF ST.e xe rfl;rw[Ķ] at g3;have HZ:=ψ hz;clear hz BF;have nI:decide ((0:Int)<((q+1:Nat):Int))=θ:=by simp<;>omega
     by_cases xr:y<=z
     ·have hd:decide (y<=z)=θ:=by simpa using xr
      go_wp2_with (first
          | (go_at_call 62;refine(tP _ _ _ _).mono ?_;rintro e w' ⟨rfl,rfl⟩))
      go_quiet (fail);go_wp2;go_ret;refine⟨bj ?_,by first|exact HB.e|exact oU HB.e _⟩
      rw[RE.e,drop_cons HY.e];simp[ss,HZ.e,iA,fP,xr]
     ·have hd:decide (y<=z)=χ:=by simpa using xr
      have hrel:iA np ν l=iA np (ss l (q+2)) (l.drop (q+2)):=by rw[RE.e,drop_cons HY.e];simp[ss,HZ.e,HY.e,iA,fP];omega
      have HR:=ψ hrel;clear hrel;go_wp2_with (first
          | (go_at_call 62;refine(tP _ _ _ _).mono ?_;rintro e w' ⟨rfl,rfl⟩))
      go_quiet (fail);go_wp2;go_roundw;case rel=>exact⟨q+2,by omega,by go_num,rfl,HR.e,by first|exact HB.e|exact oU HB.e _⟩
      case measure=>simp[ϙ];omega
  ·obtain rfl:j=n:=by omega
   go_wp2;go_ret;refine⟨bj ?_,HB.e⟩
   rw[RE.e,Aix (by rw[KL.e];exact ϊ _)]
   cases ss l j<;>rfl
def KY{b hi m:Int}:qz a b lo hi m=(pU a b lo hi && decide (b - a<m)):=by
 unfold qz pU;cases decide (lo<=a)<;>cases decide (a<=b)<;>cases decide (b<=hi)<;>rfl
def ap4{l:List Piece}(hv:Row w B 4 Piece.R pv l)(hB:B<=w.heap.size):
 ύ prog 145 #[pv] w λe w'=>e=Ω (ξ κ (nP l))/\Γ w.heap.size w w':=by
 obtain⟨A,m,c,rfl,hl,gY,hc,hr⟩:=hv.Φ;have fy:=ψ hl;unfold ϕ at hc;have H2:=ψ hr;clear hl hr hv;cases hlen:cf m 1 3 with
 |false=>
  go_enter func145,Tryz.ntmps145;go_wp2_with (first
   | (go_at_call 62;refine(tP _ _ _ _).mono ?_;rintro e w' ⟨rfl,rfl⟩))
  go_ret;exact⟨bj (by unfold nP;rw[fy.e,hlen];rfl),ώ _ _⟩
 |true=>
  have Zr:m<=3:=by have:=tQ hlen;omega
  go_enter func145,Tryz.ntmps145;go_wp2_with (first
   | (go_at_call 62;refine(tP _ _ _ _).mono ?_;rintro e w' ⟨rfl,rfl⟩))
  go_loopw [2,3,4,5] (λr k u v wr=>∃i:Nat,i<=m/\k=ξ κ i/\(∀(j:Nat) (x:Piece),j<i->l[j]?=φ x->qy (l.take j) x=0)/\Γ w.heap.size w wr) (λ_ k _ _ _=>m - (ϙ k).toNat)
  case atStart=>exact⟨0,Ϡ _,rfl,λj _ hj=>by omega,ώ _ _⟩
  case round=>
   obtain⟨i,hi,rfl,bL,hb⟩:=hrel;have HH:=ψ (Ϗ bL hb);have Aj:w.heap.size<=wr.heap.size:=hb.size;by_cases aj:i<m
   ·obtain⟨ad,x,cs,rfl,aD,hx,⟨rfl,dk⟩,-,aq⟩:=H2.e i aj
    have st:Δ B w wr:=Δ.aN hb hB;have ST:=ψ st;have h0:=cA aq st aD rfl;have h1:=bH aq st aD 0 rfl;have h2:=bH aq st aD 1 rfl;have h3:=bH aq st aD 2 rfl;have qb:(ad.add (i * 4)).block<wr.heap.size:=by rw[cq];omega
    have HX:=ψ hx;have AT:=ψ aq;clear bL hb hx aq st;have bad:∀s:Int,qy (l.take i) x=s->s≠0->s=nP l:=λs hs h0=>by
     unfold nP;rw[fy.e,hlen,if_pos rfl,Ay HX.e HH.e.1 (by rw[hs];exact h0),hs]
    have nA:=ψ bad;clear bad;cases fU:sr x.name.data.toList with
    |false=>
     go_wp2_with (first
      | (go_at_call 186;refine(NT dk _).mono ?_;rintro e w1 ⟨rfl,rfl⟩;try rw[fU]))
     go_ret;exact⟨bj (nA.e 4 (by unfold qy;rw[fU];rfl) (by omega)),HH.e.2⟩
    |true=>
     go_wp2_with (first
      | (go_at_call 186;refine(NT dk _).mono ?_;rintro e w1 ⟨rfl,rfl⟩;try rw[fU]))
     clear h0;have HN:=ψ dk;go_loopw [4] (λk wq=>∃j:Nat,j<=i/\k=ξ κ j/\(∀(q:Nat) (y:Piece),q<j->l[q]?=φ y->pS y.name x.name=χ)/\Γ w.heap.size w wq) (λk _=>i - (ϙ k).toNat)
     case atStart=>exact⟨0,Ϡ _,rfl,λq _ hq=>by omega,HH.e.2⟩
     case round=>
      obtain⟨j,hj,rfl,br,vD⟩:=hrel;have HO:=ψ (Ϗ br vD);have JS:w.heap.size<=wr.heap.size:=vD.size;have GV:Δ B w wr:=Δ.aN vD hB;have STQ:=ψ GV;have h0:=cA AT.e GV aD rfl;have h1:=bH AT.e GV aD 0 rfl;have h2:=bH AT.e GV aD 1 rfl;have h3:=bH AT.e GV aD 2 rfl;have qb':(ad.add (i * 4)).block<wr.heap.size:=by rw[cq];omega
      clear br vD GV;by_cases vG:j<i
      ·obtain⟨Fp,y,bp,e',Rn,hy,⟨rfl,Sp⟩,-,BE⟩:=H2.e j (by omega)
       cases e';have g0:=cA BE STQ.e aD rfl;have qc:(ad.add (j * 4)).block<wr.heap.size:=by rw[cq];omega
       have HY:=ψ hy;clear hy BE Sp;cases hs:pS y.name x.name with
       |true=>
        have cu:(y.name.toList==x.name.toList)=θ:=hs;go_wp2;go_quiet (fail);go_wp2;go_ret;refine⟨bj (nA.e 5 ?_ (by omega)),by first|exact HO.e.2|exact oU HO.e.2 _⟩
        unfold qy;rw[fU,if_pos rfl,if_pos];rw[Ajd];exact⟨y,ϡ (i:=j) (by rw[List.getElem?_take,if_pos vG];exact HY.e),hs⟩
       |false=>
        have cu:(y.name.toList==x.name.toList)=χ:=hs;go_wp2;go_quiet (fail);go_wp2;go_roundw;case rel=>exact⟨j+1,by omega,by go_num,λq z hq hz=>by
            rcases ε.1 hq with h|rfl
            ·exact HO.e.1 q z h hz
            ·rw[HY.e] at hz;cases hz;exact hs,by first|exact HO.e.2|exact oU HO.e.2 _⟩
        case measure=>simp[ϙ];omega
      ·obtain rfl:j=i:=by omega
       have Ji:(l.take j).any (λq=>pS q.name x.name)=χ:=by
           rw[Ajf];intro z hz;obtain⟨q,hq⟩:=Ź hz
           rw[List.getElem?_take] at hq
           split at hq
           ·rename_i Eb;simpa using HO.e.1 q z Eb hq
           ·cases hq
       have AR:=ψ Ji;clear Ji;cases hw:pU x.len.lo x.len.hi 1 40 with
       |false=>
        go_wp2_with (first
            | (go_at_call 49;refine(within _).mono ?_;rintro e w2 ⟨rfl,ak⟩;try rw[hw]))
        go_ret;refine⟨bj (nA.e 1 (by unfold qy;rw[fU,AR.e,KY,hw];rfl) (by omega)),db HO.e.2 ak JS⟩
       |true=>
        have Gt:1<=x.len.lo/\x.len.lo<=x.len.hi/\x.len.hi<=40:=by
            simp only[pU,Ϫ,decide_eq_true_eq] at hw;exact hw
        obtain⟨b1,b2,b3⟩:=Gt;by_cases F8:3<=x.len.hi - x.len.lo
        ·go_wp2_with (first
             | (go_at_call 49;refine(within _).mono ?_;rintro e w2 ⟨rfl,ak⟩;obtain⟨gW,ru⟩:=mX ak rfl;have bu:wr.heap.size<w2.heap.size:=uY ak;have il:=ψ (db HO.e.2 ak JS);clear ak;try rw[hw]))
         go_ret;refine⟨bj (nA.e 1 (by unfold qy;rw[fU,AR.e,KY,hw];simp;omega) (by omega)),il.e⟩
        ·have uW:qz x.len.lo x.len.hi 1 40 3=θ:=by rw[KY,hw];simp;omega
         have VT:=ψ uW;clear uW;cases D9:cf x.bears 0 2 with
         |false=>
          go_wp2_with (first
             | (go_at_call 49;refine(within _).mono ?_;rintro e w2 ⟨rfl,ak⟩;obtain⟨gW,ru⟩:=mX ak rfl;have bu:wr.heap.size<w2.heap.size:=uY ak;have il:=ψ (db HO.e.2 ak JS);clear ak;try rw[hw])
             | (go_at_call 62;refine(tP _ _ _ _).mono ?_;rintro e w' ⟨rfl,rfl⟩;try rw[D9]))
          go_ret;refine⟨bj (nA.e 1 (by unfold qy;rw[fU,AR.e,VT.e,D9];rfl) (by omega)),il.e⟩
         |true=>
          go_wp2_with (first
             | (go_at_call 49;refine(within _).mono ?_;rintro e w2 ⟨rfl,ak⟩;obtain⟨gW,ru⟩:=mX ak rfl;have bu:wr.heap.size<w2.heap.size:=uY ak;have il:=ψ (db HO.e.2 ak JS);clear ak;try rw[hw])
             | (go_at_call 62;refine(tP _ _ _ _).mono ?_;rintro e w' ⟨rfl,rfl⟩;try rw[D9]))
          go_roundw;case rel=>exact⟨j+1,by omega,by go_num,λq y hq hy=>by
             rcases ε.1 hq with h|rfl
             ·exact HH.e.1 q y h hy
             ·rw[HX.e] at hy;cases hy;unfold qy;rw[fU,AR.e,VT.e,D9];rfl,il.e⟩
          case measure=>simp[ϙ];omega
   ·obtain rfl:i=m:=by omega
    go_wp2;go_ret;refine⟨bj ?_,HH.e.2⟩
    unfold nP;rw[fy.e,hlen,if_pos rfl,vZ (λj x hj=>HH.e.1 j x (by have:=(ϩ.1 hj).1;have:=fy.e;omega) hj)]
def Aq(l:List Span)(i:Nat):Int:=if i=0 then -1 else match l[i - 1]? with
 |some k=>k.hi
 |none=>0
def Nj{last:Int}{k:Span}:qv aw last (k::l)=if qz k.lo k.hi 0 (aw - 1) aw then if k.lo<=last then 7 else qv aw k.hi l else 1:=rfl
def Nk{b:Int}:qz a b 0 (aw - 1) aw=pU a b 0 (aw - 1):=by
 rw[KY];by_cases h:pU a b 0 (aw - 1)=θ
 ·rw[h]
  simp only[pU,Ϫ,decide_eq_true_eq] at h;simp;omega
 ·simp only[Bool.not_eq_true] at h;rw[h];rfl
def ap2{kv:υ}{l:List aP}(dk:x.name.size<=ϕ)(hk:Row w B 2 Span.R kv x.aU)(hv:Row w B 3 (aP.R w B) v l)(hB:B<=w.heap.size):
 ύ prog 146 #[v,η #[.string x.name,ξ κ x.aw,kv]] w λe w'=>e=Ω (ξ κ (mP l x))/\Γ w.heap.size w w':=by
 obtain⟨A0,m0,c0,rfl,Za,avc,qk,MY⟩:=hv.Φ;obtain⟨A,m,c,rfl,hl,gY,hc,hr⟩:=hk.Φ;have fy:=ψ hl;have HL0:=ψ Za;have H0:=ψ MY;unfold ϕ at hc qk;have H2:=ψ hr;clear hl hr hk hv Za MY;have kb:Bk (w.alloc (Ξ #[.string x.name,ξ κ x.aw,ζ A m c] 59)) w.heap.size 59 #[.string x.name,ξ κ x.aw,ζ A m c]:=Bk.new _ _ _;have KB:=ψ kb;have wY:Γ w.heap.size w (w.alloc (Ξ #[.string x.name,ξ κ x.aw,ζ A m c] 59)):=(ώ _ _).alloc (ϊ _) _;have oi:=ψ wY;clear kb wY;cases fU:sr x.name.data.toList with
 |false=>
  go_enter func146,Tryz.ntmps146;go_wp2_with (first
   | (go_at_call 186;refine(NT dk _).mono ?_;rintro e w1 ⟨rfl,rfl⟩;try rw[fU]))
  go_ret;exact⟨bj (by unfold mP;rw[fU];rfl),oi.e⟩
 |true=>
  go_enter func146,Tryz.ntmps146;go_wp2_with (first
   | (go_at_call 186;refine(NT dk _).mono ?_;rintro e w1 ⟨rfl,rfl⟩;try rw[fU]))
  go_loopw [5] (λk wr=>∃i:Nat,i<=m0/\k=ξ κ i/\(∀(q:Nat) (y:aP),q<i->l[q]?=φ y->pS y.name x.name=χ)/\Γ (w.heap.size+1) (w.alloc (Ξ #[.string x.name,ξ κ x.aw,ζ A m c] 59)) wr) (λk _=>m0 - (ϙ k).toNat)
  case atStart=>exact⟨0,Ϡ _,rfl,λq _ hq=>by omega,ώ _ _⟩
  case round=>
   obtain⟨i,hi,rfl,br,hb⟩:=hrel;have HO:=ψ (Ϗ br hb);have mY:Γ w.heap.size w wr:=oi.e.trans (hb.mono (by omega))
   have BW:=ψ mY;have aL:w.heap.size<wr.heap.size:=by have:=hb.size;simp at this;omega
   have kr:=KB.e.below hb (by omega)
   have r0:=kr.cell 0;have r1:=kr.cell 1;have r2:=kr.cell 2;have st:Δ B w wr:=Δ.aN mY hB;have ST:=ψ st;have KR:=ψ kr;clear br hb mY kr;by_cases aj:i<m0
   ·obtain⟨ad,y,cs,rfl,aD,hy,⟨pO,rfl,Sp,-⟩,-,aq⟩:=H0.e i aj
    have g0:=cA aq st aD rfl;have qc:(ad.add (i * 3)).block<wr.heap.size:=by rw[cq];omega
    have HY:=ψ hy;clear hy aq st Sp;cases hs:pS y.name x.name with
    |true=>
     have cu:(y.name.toList==x.name.toList)=θ:=hs;go_wp2;go_quiet (fail);go_wp2;go_ret;refine⟨bj ?_,by first|exact BW.e|exact oU BW.e _⟩
     unfold mP;rw[fU,if_pos rfl,if_pos];rw[Ajd];exact⟨y,ϡ HY.e,hs⟩
    |false=>
     have cu:(y.name.toList==x.name.toList)=χ:=hs;go_wp2;go_quiet (fail);go_wp2;go_roundw;case rel=>exact⟨i+1,by omega,by go_num,λq z hq hz=>by
      rcases ε.1 hq with h|rfl
      ·exact HO.e.1 q z h hz
      ·rw[HY.e] at hz;cases hz;exact hs,by first|exact HO.e.2|exact oU HO.e.2 _⟩
     case measure=>simp[ϙ];omega
   ·obtain rfl:i=m0:=by omega
    have Ji:l.any (λq=>pS q.name x.name)=χ:=by
     rw[Ajf];intro z hz;obtain⟨q,hq⟩:=Ź hz
     simpa using HO.e.1 q z (by have:=(ϩ.1 hq).1;have:=HL0.e;omega) hq
    have AR:=ψ Ji;clear Ji st;cases oF:cf x.aw 1 40 with
    |false=>
     go_wp2_with (first
      | (go_at_call 62;refine(tP _ _ _ _).mono ?_;rintro e w' ⟨rfl,rfl⟩;try rw[oF]))
     go_ret;exact⟨bj (by unfold mP;rw[fU,AR.e,oF];rfl),BW.e⟩
    |true=>
     obtain⟨oZ,uR⟩:=tQ oF;by_cases h3:3<m
     ·go_wp2_with (first
       | (go_at_call 62;refine(tP _ _ _ _).mono ?_;rintro e w' ⟨rfl,rfl⟩;try rw[oF]))
      go_ret;exact⟨bj (by unfold mP;rw[fU,AR.e,oF,fy.e];simp[h3]),BW.e⟩
     ·go_wp2_with (first
       | (go_at_call 62;refine(tP _ _ _ _).mono ?_;rintro e w' ⟨rfl,rfl⟩;try rw[oF]))
      have kV:mP l x=qv x.aw (-1) x.aU:=by unfold mP;rw[fU,AR.e,oF,fy.e];simp[h3]
      have Ip:=ψ kV;clear kV;clear r0 r1 r2;go_loopw [6] (λk wq=>∃j:Nat,j<=m/\k=ξ κ j/\qv x.aw (-1) x.aU=qv x.aw (Aq x.aU j) (x.aU.drop j)/\Γ (w.heap.size+1) (w.alloc (Ξ #[.string x.name,ξ κ x.aw,ζ A m c] 59)) wq) (λk _=>m - (ϙ k).toNat)
      case atStart=>exact⟨0,Ϡ _,rfl,rfl,HO.e.2⟩
      case round=>
       obtain⟨j,hj,rfl,B8,hb⟩:=hrel;have RE:=ψ B8;have HQ:=ψ hb;have mY:Γ w.heap.size w wr:=oi.e.trans (hb.mono (by omega))
       have BQ:=ψ mY;have aL:w.heap.size<wr.heap.size:=by have:=hb.size;simp at this;omega
       have hle:w.heap.size+1<=wr.heap.size:=by omega
       have kr:=KB.e.below hb (by omega)
       have r0:=kr.cell 0;have r1:=kr.cell 1;have r2:=kr.cell 2;have KQ:=ψ kr;have st:Δ B w wr:=Δ.aN mY hB;have ST:=ψ st;clear B8 hb mY kr;by_cases tI:j<m
       ·obtain⟨ad,y,cs,rfl,aD,hy,rfl,-,aq⟩:=H2.e j tI
        have h0:=cA aq st aD rfl;have h1:=bH aq st aD 0 rfl;have qc:(ad.add (j * 2)).block<wr.heap.size:=by rw[cq];omega
        have HY:=ψ hy;have HC:=ψ aq;clear hy aq st;go_wp2;refine Cx 8 (by kernel_rfl) (by kernel_rfl) ?_
        simp only[ù,ú,ý,List.drop_zero];repeat still_step
        refine wpStill_nil ?_
        cases hw:pU y.lo y.hi 0 (x.aw - 1) with
        |false=>
         go_wp2_with (first
             | (go_at_call 49;refine(within _).mono ?_;rintro e w2 ⟨rfl,ak⟩;try rw[hw]))
         go_ret;refine⟨bj ?_,chain BQ.e (th ak) (by omega)⟩
         rw[Ip.e,RE.e,drop_cons HY.e];rw[Nj,Nk,hw];rfl
        |true=>
         rcases Nat.eq_zero_or_pos j with Bt|Bt
         ·subst Bt
          have hrel:qv x.aw (-1) x.aU=qv x.aw (Aq x.aU 1) (x.aU.drop 1):=by
             rw[RE.e,drop_cons HY.e];have oZ:0<=y.lo:=by simp only[pU,Ϫ,decide_eq_true_eq] at hw;exact hw.1
             have hn:¬ (y.lo<=Aq x.aU 0):=by simp[Aq];omega
             rw[Nj,Nk,hw,if_pos rfl,if_neg hn];simp[Aq,HY.e]
          have HR:=ψ hrel;clear hrel;go_wp2
          go_at_call 49
          refine(within _).mono ?_
          rintro e w2 ⟨rfl,ak⟩;have b2:Γ wr.heap.size wr w2:=th ak;have k2:=KQ.e.below b2 aL;have s0:=k2.cell 0;have s1:=k2.cell 1;have s2:=k2.cell 2;have bu:w.heap.size<w2.heap.size:=by have:=b2.size;omega
          have tf:Δ B w w2:=ST.e.trans (Δ.aN b2 (by omega))
          have t0:=cA HC.e tf aD rfl;have t1:=bH HC.e tf aD 0 rfl;have q2:(ad.add (0 * 2)).block<w2.heap.size:=by rw[cq];omega
          have il:=ψ (HQ.e.trans (b2.mono hle));have Lg:=ψ (BQ.e.trans (b2.mono (by omega)))
          clear ak b2 k2 tf
          try rw[hw]
          go_wp2;go_quiet (fail);go_wp2;go_roundw;case rel=>exact⟨1,tI,by go_num,HR.e,by first|exact il.e|exact oU il.e _⟩
          case measure=>simp[ϙ];omega
         ·obtain⟨q,rfl⟩:∃q,j=q+1:=⟨j - 1,by omega⟩
          obtain⟨Fp,z,Xn,IT,Y5,hz,rfl,-,BF⟩:=H2.e q (by omega)
          cases IT;have HZ:=ψ hz;have VC:=ψ BF;clear hz BF;have Ze:Aq x.aU (q+1)=z.hi:=by simp[Aq,HZ.e]
          have VI:=ψ Ze;clear Ze;have nI:decide ((0:Int)<((q+1:Nat):Int))=θ:=by simp<;>omega
          by_cases xr:y.lo<=z.hi
          ·have hd:decide (y.lo<=z.hi)=θ:=by simpa using xr
           go_wp2
           go_at_call 49
           refine(within _).mono ?_
           rintro e w2 ⟨rfl,ak⟩;have b2:Γ wr.heap.size wr w2:=th ak;have k2:=KQ.e.below b2 aL;have s0:=k2.cell 0;have s1:=k2.cell 1;have s2:=k2.cell 2;have bu:w.heap.size<w2.heap.size:=by have:=b2.size;omega
           have tf:Δ B w w2:=ST.e.trans (Δ.aN b2 (by omega))
           have t0:=cA HC.e tf aD rfl;have t1:=bH HC.e tf aD 0 rfl;have q2:(ad.add ((q+1) * 2)).block<w2.heap.size:=by rw[cq];omega
           have il:=ψ (HQ.e.trans (b2.mono hle));have Lg:=ψ (BQ.e.trans (b2.mono (by omega)))
           have t3:=bH VC.e tf aD 0 rfl;have q3:(ad.add (q * 2)).block<w2.heap.size:=by rw[cq];omega
           clear ak b2 k2 tf
           try rw[hw]
           go_wp2;go_quiet (fail);go_wp2;go_ret;refine⟨bj ?_,by first|exact Lg.e|exact oU Lg.e _⟩
           rw[Ip.e,RE.e,drop_cons HY.e,VI.e];rw[Nj,Nk,hw,if_pos rfl,if_pos xr]
          ·have hd:decide (y.lo<=z.hi)=χ:=by simpa using xr
           have hrel:qv x.aw (-1) x.aU=qv x.aw (Aq x.aU (q+2)) (x.aU.drop (q+2)):=by
               rw[RE.e,drop_cons HY.e,VI.e];rw[Nj,Nk,hw,if_pos rfl,if_neg xr];simp[Aq,HY.e]
           have HR:=ψ hrel;clear hrel;go_wp2
           go_at_call 49
           refine(within _).mono ?_
           rintro e w2 ⟨rfl,ak⟩;have b2:Γ wr.heap.size wr w2:=th ak;have k2:=KQ.e.below b2 aL;have s0:=k2.cell 0;have s1:=k2.cell 1;have s2:=k2.cell 2;have bu:w.heap.size<w2.heap.size:=by have:=b2.size;omega
           have tf:Δ B w w2:=ST.e.trans (Δ.aN b2 (by omega))
           have t0:=cA HC.e tf aD rfl;have t1:=bH HC.e tf aD 0 rfl;have q2:(ad.add ((q+1) * 2)).block<w2.heap.size:=by rw[cq];omega
           have il:=ψ (HQ.e.trans (b2.mono hle));have Lg:=ψ (BQ.e.trans (b2.mono (by omega)))
           have t3:=bH VC.e tf aD 0 rfl;have q3:(ad.add (q * 2)).block<w2.heap.size:=by rw[cq];omega
           clear ak b2 k2 tf
           try rw[hw]
           go_wp2;go_quiet (fail);go_wp2;go_roundw;case rel=>exact⟨q+2,by omega,by go_num,HR.e,by first|exact il.e|exact oU il.e _⟩
           case measure=>simp[ϙ];omega
       ·obtain rfl:j=m:=by omega
        go_wp2;go_ret;refine⟨bj ?_,BQ.e⟩
        rw[Ip.e,RE.e,Aix (by rw[fy.e];exact ϊ _)]
        rfl
def acu{b:Int}:qz a b 0 120 121=pU a b 0 120:=by
 rw[KY];by_cases h:pU a b 0 120=θ
 ·rw[h]
  simp only[pU,Ϫ,decide_eq_true_eq] at h;simp;omega
 ·simp only[Bool.not_eq_true] at h;rw[h];rfl
def ap5{n:Int}{lp:List Piece}{l:List Tape}(hp:Row w B 4 Piece.R pv lp)(Jm:∃A n c,bv=ζ A n c)(hv:Row w B 3 (Tape.R w B) tv l)(hB:B<=w.heap.size):
 ύ prog 147 #[η #[ξ κ n,pv,bv,tv]] w λe w'=>e=Ω (ξ κ (qW lp.length l))/\Γ w.heap.size w w':=by
 obtain⟨PA,np,pc,rfl,sd,MW,B7,-⟩:=hp.Φ;obtain⟨A,m,c,rfl,hl,gY,hc,hr⟩:=hv.Φ;obtain⟨BA,bn,bc,rfl⟩:=Jm;have fy:=ψ hl;have JI:=ψ sd;have PB:=ψ (ϣ MW B7);unfold ϕ at hc B7;have H2:=ψ hr;have kb:Bk (w.alloc (Ξ #[ξ κ n,ζ PA np pc,ζ BA bn bc,ζ A m c] 26)) w.heap.size 26 #[ξ κ n,ζ PA np pc,ζ BA bn bc,ζ A m c]:=Bk.new _ _ _;have KB:=ψ kb;have oi:Hid (Γ w.heap.size w (w.alloc (Ξ #[ξ κ n,ζ PA np pc,ζ BA bn bc,ζ A m c] 26))):=ψ ((ώ _ _).alloc (ϊ _) _);clear hl hr hv sd hp kb;by_cases hlen:4<m
 ·go_enter func147,Tryz.ntmps147
  go_wp2;go_ret;exact⟨bj (by unfold qW;rw[fy.e,if_pos hlen]),oi.e⟩
 ·go_enter func147,Tryz.ntmps147
  go_wp2;go_loopw [2,3,4,5] (λr k u v wr=>∃i:Nat,i<=m/\k=ξ κ i/\(∀(j:Nat) (x:Tape),j<i->l[j]?=φ x->qG np x=0)/\Γ (w.heap.size+1) (w.alloc (Ξ #[ξ κ n,ζ PA np pc,ζ BA bn bc,ζ A m c] 26)) wr) (λ_ k _ _ _=>m - (ϙ k).toNat)
  case atStart=>exact⟨0,Ϡ _,rfl,λj _ hj=>by omega,ώ _ _⟩
  case round=>
   obtain⟨i,hi,rfl,bL,hb⟩:=hrel;have HH:=ψ (Ϗ bL hb);have mY:Γ w.heap.size w wr:=oi.e.trans (hb.mono (by omega))
   have BW:=ψ mY;have aL:w.heap.size<wr.heap.size:=by have:=hb.size;simp at this;omega
   have hle:w.heap.size+1<=wr.heap.size:=by omega
   have kr:=KB.e.below hb (by omega)
   have r0:=kr.cell 0;have r1:=kr.cell 1;have r2:=kr.cell 2;have r3:=kr.cell 3;have KR:=ψ kr;have st:Δ B w wr:=Δ.aN mY hB;have ST:=ψ st;clear bL hb mY kr;by_cases aj:i<m
   ·obtain⟨ad,x,cs,rfl,aD,hx,⟨kv,rfl,fp⟩,-,aq⟩:=H2.e i aj
    obtain⟨KA,kn,kc,rfl,cM,Y4,JB,tJ⟩:=id fp.Φ;have HK0:=ψ fp;unfold ϕ at JB;have KL:=ψ cM;have h0:=cA aq st aD rfl;have h1:=bH aq st aD 0 rfl;have h2:=bH aq st aD 1 rfl;have qc:(ad.add (i * 3)).block<wr.heap.size:=by rw[cq];omega
    have HX:=ψ hx;clear hx aq st fp cM tJ;have bad:∀s:Int,qG np x=s->s≠0->s=qW lp.length l:=λs hs h0=>by
     unfold qW;rw[fy.e,if_neg hlen,JI.e,Ay (f:=λ_ t=>qG np t) HX.e HH.e.1 (by rw[hs];exact h0),hs]
    have nA:=ψ bad;clear bad;have HO:Hid (Γ (w.heap.size+1) (w.alloc (Ξ #[ξ κ n,ζ PA np pc,ζ BA bn bc,ζ (φ ad) m c] 26)) (wr.alloc (Ξ #[ζ KA kn kc,ξ κ x.sum.lo,ξ κ x.sum.hi] 95))):=ψ (HH.e.2.alloc hle _);have Iv:Hid (Γ w.heap.size w (wr.alloc (Ξ #[ζ KA kn kc,ξ κ x.sum.lo,ξ κ x.sum.hi] 95))):=ψ (BW.e.alloc (by omega) _)
    by_cases oC:kn=0
    ·subst oC
     go_wp2;go_ret;exact⟨bj (nA.e 2 (by unfold qG;rw[KL.e];rfl) (by omega)),Iv.e⟩
    ·have ny:((kn:Int)==0)=χ:=by simp;omega
     have E9:Hid (Row (wr.alloc (Ξ #[ζ KA kn kc,ξ κ x.sum.lo,ξ κ x.sum.hi] 95)) B 1 cH (ζ KA kn kc) x.pieces):=ψ (HK0.e.still (Δ.aN Iv.e hB) λ_ _ h=>h)
     by_cases iu:iA np ν x.pieces=0
     ·cases hw:pU x.sum.lo x.sum.hi 0 120 with
      |false=>
       go_wp2
       go_at_call 57
       refine(rising E9.e (by simp;omega) PB.e).mono ?_
       rintro e w2 ⟨rfl,ak⟩;rw[iu];have vQ:(wr.alloc (Ξ #[ζ KA kn kc,ξ κ x.sum.lo,ξ κ x.sum.hi] 95)).heap.size=wr.heap.size+1:=by simp
       have k2:Bk w2 wr.heap.size 95 #[ζ KA kn kc,ξ κ x.sum.lo,ξ κ x.sum.hi]:=(Bk.new wr 95 _).below ak (by omega)
       have s0:=k2.cell 0;have s1:=k2.cell 1;have s2:=k2.cell 2;have bu:wr.heap.size<w2.heap.size:=k2.lt;have BX:Hid (Γ (w.heap.size+1) (w.alloc (Ξ #[ξ κ n,ζ PA np pc,ζ BA bn bc,ζ (φ ad) m c] 26)) w2):=ψ (HO.e.trans (ak.mono (by omega)))
       have OW:Hid (Γ w.heap.size w w2):=ψ (Iv.e.trans (ak.mono (by omega)))
       clear ak k2 vQ;go_wp2
       go_at_call 49
       refine(within _).mono ?_
       rintro e w3 ⟨rfl,bM⟩;have BY:Hid (Γ (w.heap.size+1) (w.alloc (Ξ #[ξ κ n,ζ PA np pc,ζ BA bn bc,ζ (φ ad) m c] 26)) w3):=ψ (BX.e.trans (bM.mono (by omega)))
       have Vi:Hid (Γ w.heap.size w w3):=ψ (OW.e.trans (bM.mono (by omega)))
       clear bM;rw[hw];go_wp2;go_ret;exact⟨bj (nA.e 1 (by unfold qG;rw[KL.e,if_neg oC,iu,acu,hw];rfl) (by omega)),Vi.e⟩
      |true=>
       go_wp2
       go_at_call 57
       refine(rising E9.e (by simp;omega) PB.e).mono ?_
       rintro e w2 ⟨rfl,ak⟩;rw[iu];have vQ:(wr.alloc (Ξ #[ζ KA kn kc,ξ κ x.sum.lo,ξ κ x.sum.hi] 95)).heap.size=wr.heap.size+1:=by simp
       have k2:Bk w2 wr.heap.size 95 #[ζ KA kn kc,ξ κ x.sum.lo,ξ κ x.sum.hi]:=(Bk.new wr 95 _).below ak (by omega)
       have s0:=k2.cell 0;have s1:=k2.cell 1;have s2:=k2.cell 2;have bu:wr.heap.size<w2.heap.size:=k2.lt;have BX:Hid (Γ (w.heap.size+1) (w.alloc (Ξ #[ξ κ n,ζ PA np pc,ζ BA bn bc,ζ (φ ad) m c] 26)) w2):=ψ (HO.e.trans (ak.mono (by omega)))
       have OW:Hid (Γ w.heap.size w w2):=ψ (Iv.e.trans (ak.mono (by omega)))
       clear ak k2 vQ;go_wp2
       go_at_call 49
       refine(within _).mono ?_
       rintro e w3 ⟨rfl,bM⟩;have BY:Hid (Γ (w.heap.size+1) (w.alloc (Ξ #[ξ κ n,ζ PA np pc,ζ BA bn bc,ζ (φ ad) m c] 26)) w3):=ψ (BX.e.trans (bM.mono (by omega)))
       have Vi:Hid (Γ w.heap.size w w3):=ψ (OW.e.trans (bM.mono (by omega)))
       clear bM;rw[hw];go_wp2;go_roundw;case rel=>exact⟨i+1,by omega,by go_num,λj y hj hy=>by
           rcases ε.1 hj with h|rfl
           ·exact HH.e.1 j y h hy
           ·rw[HX.e] at hy;cases hy;unfold qG;rw[KL.e,if_neg oC,iu,acu,hw];rfl,BY.e⟩
       case measure=>simp[ϙ];omega
     ·have SI:(iA np ν x.pieces !=0)=θ:=by simpa using iu
      obtain⟨s,hs⟩:∃s,s=iA np ν x.pieces:=⟨_,rfl⟩
      rw[<-hs] at iu SI;have HS:=ψ hs;go_wp2
      go_at_call 57
      refine(rising E9.e (by simp;omega) PB.e).mono ?_
      rintro e w2 ⟨rfl,ak⟩;rw[<-HS.e];have BX:=ψ (Iv.e.trans (ak.mono (by simp;omega)))
      clear ak hs;go_wp2;go_ret;exact⟨bj (nA.e s (by unfold qG;rw[KL.e,if_neg oC,<-HS.e,if_pos iu]) iu),BX.e⟩
   ·obtain rfl:i=m:=by omega
    go_wp2;go_ret;refine⟨bj ?_,BW.e⟩
    unfold qW;rw[fy.e,if_neg hlen,JI.e,vZ (f:=λ_ t=>qG np t) (λj x hj=>HH.e.1 j x (by have:=(ϩ.1 hj).1;have:=fy.e;omega) hj)]
def afH(h:cf b.ab 0 3=χ):dg b=1:=by
 unfold dg pq;rw[h];rfl
def afG(h:cf b.ab 0 3=θ)(h1:nP b.pieces≠0):dg b=nP b.pieces:=by
 unfold dg pq;rw[h];simp[scan,h1]
def W6(h:cf b.ab 0 3=θ)(h1:nP b.pieces=0)(h2:ox b.aF≠0):dg b=ox b.aF:=by
 unfold dg pq;rw[h];simp[scan,h1,h2]
def afI(h:cf b.ab 0 3=θ)(h1:nP b.pieces=0)(h2:ox b.aF=0):dg b=qW b.pieces.length b.aM:=by
 unfold dg pq;rw[h]
 by_cases h3:qW b.pieces.length b.aM=0
 ·simp[scan,h1,h2,h3]
 ·simp[scan,h1,h2,h3]
def ap3(ai:bq w B b pv bv tv)(hB:B<=w.heap.size):
 ύ prog 69 #[η #[ξ κ b.ab,pv,bv,tv]] w λe w'=>e=Ω (ξ κ (dg b))/\Γ w.heap.size w w':=by
 have bV:=ψ ai;obtain⟨PA,np,pc,rfl,sd,MW,B7,-⟩:=ai.pieces.Φ;obtain⟨TA,nt,tc,rfl,D7,htc,SL,-⟩:=ai.aM.Φ;obtain⟨A,m,c,rfl,hl,gY,hc,hr⟩:=ai.aF.Φ;have fy:=ψ hl;unfold ϕ at hc B7 SL;have H2:=ψ hr;have kb:Bk (w.alloc (Ξ #[ξ κ b.ab,ζ PA np pc,ζ A m c,ζ TA nt tc] 26)) w.heap.size 26 #[ξ κ b.ab,ζ PA np pc,ζ A m c,ζ TA nt tc]:=Bk.new _ _ _;have KB:=ψ kb;have oi:Hid (Γ w.heap.size w (w.alloc (Ξ #[ξ κ b.ab,ζ PA np pc,ζ A m c,ζ TA nt tc] 26))):=ψ ((ώ _ _).alloc (ϊ _) _);have vQ:(w.alloc (Ξ #[ξ κ b.ab,ζ PA np pc,ζ A m c,ζ TA nt tc] 26)).heap.size=w.heap.size+1:=by simp
 have PI:=ψ vQ;have OZ:Hid (ύ prog 145 #[ζ PA np pc] (w.alloc (Ξ #[ξ κ b.ab,ζ PA np pc,ζ A m c,ζ TA nt tc] 26)) λe w'=>e=Ω (ξ κ (nP b.pieces))/\Γ (w.heap.size+1) (w.alloc (Ξ #[ξ κ b.ab,ζ PA np pc,ζ A m c,ζ TA nt tc] 26)) w'):=ψ (by
  have:=ap4 (bV.e.pieces.still (Δ.aN oi.e hB) λ_ _ h=>h) (by rw[vQ];omega)
  rw[vQ] at this;exact this)
 clear hl hr ai sd D7 kb vQ;cases h1:cf b.ab 0 3 with
 |false=>
  go_enter func69,Tryz.ntmps69;go_wp2_with (first
   | (go_at_call 62;refine(tP _ _ _ _).mono ?_;rintro e w' ⟨rfl,rfl⟩;try rw[h1]))
  go_ret;exact⟨bj (afH h1).symm,oi.e⟩
 |true=>
  by_cases h2:nP b.pieces=0
  ·go_enter func69,Tryz.ntmps69
   go_wp2_with (first
    | (go_at_call 62;refine(tP _ _ _ _).mono ?_;rintro e w' ⟨rfl,rfl⟩;try rw[h1]))
   go_at_call 145
   refine OZ.e.mono ?_
   rintro e w1 ⟨rfl,ag⟩;rw[h2];have k1:=KB.e.below ag (by omega)
   have r0:=k1.cell 0;have r1:=k1.cell 1;have r2:=k1.cell 2;have r3:=k1.cell 3;have aS:w.heap.size<w1.heap.size:=k1.lt;have fL:Hid (Γ w.heap.size w w1):=ψ (oi.e.trans (ag.mono (by omega)))
   have BX1:=ψ ag;clear k1 ag;by_cases h3:3<m
   ·go_wp2
    go_ret;exact⟨bj (by rw[W6 h1 h2 (by unfold ox;rw[fy.e,if_pos h3];omega)];unfold ox;rw[fy.e,if_pos h3]),fL.e⟩
   ·go_wp2
    clear r0 r1 r2 r3;go_loopw [2,4,5] (λr k u wr=>∃i:Nat,i<=m/\k=ξ κ i/\(∀(j:Nat) (x:aP),j<i->b.aF[j]?=φ x->mP (b.aF.take j) x=0)/\Γ (w.heap.size+1) (w.alloc (Ξ #[ξ κ b.ab,ζ PA np pc,ζ A m c,ζ TA nt tc] 26)) wr) (λ_ k _ _=>m - (ϙ k).toNat)
    case atStart=>exact⟨0,Ϡ _,rfl,λj _ hj=>by omega,BX1.e⟩
    case round=>
     obtain⟨i,hi,rfl,bL,hb⟩:=hrel;have HH:=ψ (Ϗ bL hb);have mY:Γ w.heap.size w wr:=oi.e.trans (hb.mono (by omega))
     have BW:=ψ mY;have aL:w.heap.size<wr.heap.size:=by have:=hb.size;have:=PI.e;omega
     have hle:w.heap.size+1<=wr.heap.size:=by omega
     have kr:=KB.e.below hb (by omega)
     have r0:=kr.cell 0;have r1:=kr.cell 1;have r2:=kr.cell 2;have r3:=kr.cell 3;have st:Δ B w wr:=Δ.aN mY hB;have ST:=ψ st;clear bL hb mY kr;by_cases aj:i<m
     ·obtain⟨ad,x,cs,rfl,aD,hx,⟨kv,rfl,dk,fp⟩,-,aq⟩:=H2.e i aj
      obtain⟨A2,c2,rfl,-⟩:=id fp;obtain⟨n2,dw⟩:∃n2,n2=x.aU.length:=⟨_,rfl⟩
      rw[<-dw] at fp aq;clear dw;have zy:=ψ fp;have g0:=cA aq st aD rfl;have g1:=bH aq st aD 0 rfl;have g2:=bH aq st aD 1 rfl;have HX:=ψ hx;clear hx aq st fp;have Jy:i<=c:=by omega
      go_wp2;refine Cx 9 (by kernel_rfl) (by kernel_rfl) ?_
      simp only[ù,ú,ý,List.drop_zero];repeat still_step
      refine wpStill_nil ?_
      have HR:=ψ ((bV.e.aF.take hi).still ST.e λ_ _ h=>h.still ST.e)
      have Lq:=ψ (zy.e.still ST.e λ_ _ h=>h)
      have O0:Hid (ύ prog 146 #[ζ (φ ad) i c,η #[.string x.name,ξ κ x.aw,ζ A2 n2 c2]] wr.drew λe w'=>e=Ω (ξ κ (mP (b.aF.take i) x))/\Γ wr.heap.size wr w'):=ψ (by
       have:=ap2 (w:=wr.drew) dk Lq.e HR.e (by show B<=wr.heap.size;omega)
       exact this.mono λe w' ⟨h1,h2⟩=>⟨h1,th h2⟩)
      by_cases hz:mP (b.aF.take i) x=0
      ·go_wp2
       go_at_call 146
       refine O0.e.mono ?_
       rintro e w2 ⟨rfl,ak⟩;rw[hz];have BX:=ψ (HH.e.2.trans (ak.mono hle));clear ak;go_wp2;go_roundw;case rel=>exact⟨i+1,by omega,by go_num,λj y hj hy=>by
        rcases ε.1 hj with h|rfl
        ·exact HH.e.1 j y h hy
        ·rw[HX.e] at hy;cases hy;exact hz,BX.e⟩
       case measure=>simp[ϙ];omega
      ·obtain⟨s,hs⟩:∃s,s=mP (b.aF.take i) x:=⟨_,rfl⟩
       rw[<-hs] at hz O0;have SI:(s !=0)=θ:=by simpa using hz
       have HS:=ψ hs;clear hs;go_wp2
       go_at_call 146
       refine O0.e.mono ?_
       rintro e w2 ⟨rfl,ak⟩;have BX:=ψ (BW.e.trans (ak.mono (by omega)))
       clear ak;go_wp2;go_ret;have kV:ox b.aF=s:=by
        unfold ox;rw[fy.e,if_neg h3,Ay HX.e HH.e.1 (by rw[<-HS.e];exact hz),<-HS.e]
       exact⟨bj (by rw[W6 h1 h2 (by rw[kV];exact hz),kV]),BX.e⟩
     ·obtain rfl:i=m:=by omega
      have kV:ox b.aF=0:=by
       unfold ox;rw[fy.e,if_neg h3,vZ (λj x hj=>HH.e.1 j x (by have:=(ϩ.1 hj).1;have:=fy.e;omega) hj)]
      have Ip:=ψ kV;have adk:Hid (ύ prog 147 #[η #[ξ κ b.ab,ζ PA np pc,ζ A i c,ζ TA nt tc]] wr λe w'=>e=Ω (ξ κ (qW b.pieces.length b.aM))/\Γ wr.heap.size wr w'):=ψ
       (ap5 (bV.e.pieces.still ST.e λ_ _ h=>h) ⟨_,_,_,rfl⟩ (bV.e.aM.still ST.e λ_ _ h=>h.still ST.e) (by omega))
      clear kV st;go_wp2
      go_at_call 147
      refine adk.e.mono ?_
      rintro e w2 ⟨rfl,ak⟩;have BX:=ψ (BW.e.trans (ak.mono (by omega)))
      clear ak;go_wp2;go_ret;exact⟨bj (afI h1 h2 Ip.e).symm,BX.e⟩
  ·obtain⟨s,hs⟩:∃s,s=nP b.pieces:=⟨_,rfl⟩
   have vE:=afG h1 h2;rw[<-hs] at h2 OZ vE;have SI:(s !=0)=θ:=by simpa using h2
   have HCP:=ψ vE;clear hs vE;go_enter func69,Tryz.ntmps69;go_wp2_with (first
    | (go_at_call 62;refine(tP _ _ _ _).mono ?_;rintro e w' ⟨rfl,rfl⟩;try rw[h1]))
   go_at_call 145
   refine OZ.e.mono ?_
   rintro e w1 ⟨rfl,ag⟩;have fL:Hid (Γ w.heap.size w w1):=ψ (oi.e.trans (ag.mono (by omega)))
   clear ag;go_wp2;go_ret;exact⟨bj HCP.e.symm,fL.e⟩
def xY(x:aP):Bool:=decide (100<x.name.size) ||decide (20<x.aU.length)
def Fu(x:Piece):Bool:=decide (100<x.name.size)
def Fv(x:Tape):Bool:=decide (20<x.pieces.length)
def Br(b:an):Bool:=(decide (20<b.pieces.length) || (decide (20<b.aF.length) ||decide (20<b.aM.length))) || (b.pieces.any Fu|| (b.aF.any xY||b.aM.any Fv))
def Dq(b:an):Bool:= !Br b && decide (dg b=0)
def ae2{kv:υ}(dk:x.name.size<=ϕ)(hk:Row w B 2 Span.R kv x.aU):
 ύ prog 51 #[η #[.string x.name,ξ κ x.aw,kv]] w λe w'=>e=Ω (.bool (xY x))/\Γ w.heap.size w w':=by
 obtain⟨A,m,c,rfl,hl,gY,hc,-⟩:=hk.Φ;unfold ϕ at hc dk;have HL:=ψ hl;clear hl hk;by_cases h1:100<x.name.size
 ·go_enter func51,Tryz.ntmps51
  go_wp2;go_ret;exact⟨cj (by unfold xY;simp[h1]),(ώ _ _).alloc (ϊ _) _⟩
 ·by_cases h2:20<m
  ·go_enter func51,Tryz.ntmps51
   go_wp2;go_ret;exact⟨cj (by unfold xY;rw[HL.e];simp[h2];omega),(ώ _ _).alloc (ϊ _) _⟩
  ·go_enter func51,Tryz.ntmps51
   go_wp2;go_ret;exact⟨cj (by unfold xY;rw[HL.e];simp[h1,h2];omega),(ώ _ _).alloc (ϊ _) _⟩
def P1{p:α->Bool}{l:List α}{x:α}(h:l[i]?=φ x)(hp:p x=θ):l.any p=θ:=Ajd.2 ⟨x,ϡ h,hp⟩
def P0{p:α->Bool}{l:List α}(hn:l.length=n)(h:∀(j:Nat) (x:α),j<n->l[j]?=φ x->p x=χ):l.any p=χ:=by
 rw[Ajf];intro z hz;obtain⟨q,hq⟩:=Ź hz
 simpa using h q z (by have:=(ϩ.1 hq).1;omega) hq
def aiN(ai:bq w B b pv bv tv)(hB:B<=w.heap.size):
 ύ prog 20 #[η #[ξ κ b.ab,pv,bv,tv]] w λe w'=>e=Ω (.bool (Br b))/\Γ w.heap.size w w':=by
 obtain⟨PA,np,pc,rfl,sd,MW,B7,ZH⟩:=ai.pieces.Φ;obtain⟨TA,nt,tc,rfl,D7,htc,SL,vP⟩:=ai.aM.Φ;obtain⟨A,m,c,rfl,hl,gY,hc,hr⟩:=ai.aF.Φ;have Pw:=ψ sd;have Pu:=ψ hl;have Py:=ψ D7;have HP:=ψ ZH;have HT:=ψ vP;have H2:=ψ hr;unfold ϕ at hc B7 SL;have kb:Bk (w.alloc (Ξ #[ξ κ b.ab,ζ PA np pc,ζ A m c,ζ TA nt tc] 26)) w.heap.size 26 #[ξ κ b.ab,ζ PA np pc,ζ A m c,ζ TA nt tc]:=Bk.new _ _ _;have KB:=ψ kb;have oi:Hid (Γ w.heap.size w (w.alloc (Ξ #[ξ κ b.ab,ζ PA np pc,ζ A m c,ζ TA nt tc] 26))):=ψ ((ώ _ _).alloc (ϊ _) _);have PI:Hid ((w.alloc (Ξ #[ξ κ b.ab,ζ PA np pc,ζ A m c,ζ TA nt tc] 26)).heap.size=w.heap.size+1):=ψ (by simp)
 have Nc:∀q:Bool,q=θ->(decide (20<b.pieces.length) || (decide (20<b.aF.length) ||decide (20<b.aM.length)))=q->θ=Br b:=λq h1 h2=>by unfold Br;rw[h2,h1];rfl
 have PH:=ψ Nc;clear hl hr ai sd D7 kb ZH vP Nc;by_cases h1:20<np
 ·go_enter func20,Tryz.ntmps20
  go_wp2;go_ret;exact⟨cj (PH.e θ rfl (by rw[Pw.e];simp[h1])),oi.e⟩
 by_cases h2:20<m
 ·go_enter func20,Tryz.ntmps20
  go_wp2;go_ret;exact⟨cj (PH.e θ rfl (by rw[Pu.e];simp[h2])),oi.e⟩
 by_cases h3:20<nt
 ·go_enter func20,Tryz.ntmps20
  go_wp2;go_ret;exact⟨cj (PH.e θ rfl (by rw[Py.e];simp[h3])),oi.e⟩
 have br:Br b=(b.pieces.any Fu|| (b.aF.any xY||b.aM.any Fv)):=by
  unfold Br;rw[Pw.e,Pu.e,Py.e];simp[h1,h2,h3]
 have zz:=ψ br;clear br;go_enter func20,Tryz.ntmps20;go_wp2;go_loopw [2,3] (λr k wr=>∃i:Nat,i<=np/\k=ξ κ i/\(∀(j:Nat) (x:Piece),j<i->b.pieces[j]?=φ x->Fu x=χ)/\Γ (w.heap.size+1) (w.alloc (Ξ #[ξ κ b.ab,ζ PA np pc,ζ A m c,ζ TA nt tc] 26)) wr) (λ_ k _=>np - (ϙ k).toNat)
 case atStart=>exact⟨0,Ϡ _,rfl,λj _ hj=>by omega,by rw[<-PI.e];exact ώ _ _⟩
 case round=>
  obtain⟨i,hi,rfl,bL,hb⟩:=hrel;have HH:=ψ (Ϗ bL hb);have mY:Γ w.heap.size w wr:=oi.e.trans (hb.mono (by omega))
  have BW:=ψ mY;have kr:=KB.e.below hb (by omega)
  have aL:w.heap.size<wr.heap.size:=kr.lt;have r0:=kr.cell 0;have r1:=kr.cell 1;have r2:=kr.cell 2;have r3:=kr.cell 3;have st:Δ B w wr:=Δ.aN mY hB;clear bL hb mY kr;by_cases aj:i<np
  ·obtain⟨ad,x,cs,rfl,aD,hx,⟨rfl,dk⟩,-,aq⟩:=HP.e i aj
   have g0:=cA aq st aD rfl;have qc:(ad.add (i * 4)).block<wr.heap.size:=by rw[cq];omega
   have HX:=ψ hx;unfold ϕ at dk;clear hx aq st;by_cases hg:100<x.name.size
   ·go_wp2
    go_ret;exact⟨cj (by rw[zz.e,P1 HX.e (by unfold Fu;simpa using hg)];rfl),BW.e⟩
   ·go_wp2
    go_roundw;case rel=>exact⟨i+1,by omega,by go_num,λj y hj hy=>by
     rcases ε.1 hj with h|rfl
     ·exact HH.e.1 j y h hy
     ·rw[HX.e] at hy;cases hy;unfold Fu;simpa using hg,HH.e.2⟩
    case measure=>simp[ϙ];omega
  ·obtain rfl:i=np:=by omega
   have sa:b.pieces.any Fu=χ:=P0 Pw.e HH.e.1;have rf:=ψ sa;have Lm:=ψ HH.e.2;clear sa st;go_wp2;clear r0 r1 r2 r3;go_loopw [2,4] (λr k wr=>∃j:Nat,j<=m/\k=ξ κ j/\(∀(q:Nat) (x:aP),q<j->b.aF[q]?=φ x->xY x=χ)/\Γ (w.heap.size+1) (w.alloc (Ξ #[ξ κ b.ab,ζ PA i pc,ζ A m c,ζ TA nt tc] 26)) wr) (λ_ k _=>m - (ϙ k).toNat)
   case atStart=>exact⟨0,Ϡ _,rfl,λj _ hj=>by omega,Lm.e⟩
   case round=>
    obtain⟨j,hj,rfl,bL,hb⟩:=hrel;have HG:=ψ (Ϗ bL hb);have mY:Γ w.heap.size w wr:=oi.e.trans (hb.mono (by omega))
    have BV:=ψ mY;have kr:=KB.e.below hb (by omega)
    have uX:w.heap.size<wr.heap.size:=kr.lt;have hle:w.heap.size+1<=wr.heap.size:=uX;have r0:=kr.cell 0;have r1:=kr.cell 1;have r2:=kr.cell 2;have r3:=kr.cell 3;have st:Δ B w wr:=Δ.aN mY hB;have ST:=ψ st;clear bL hb mY kr;by_cases aj:j<m
    ·obtain⟨ad,x,cs,rfl,aD,hx,⟨kv,rfl,dk,fp⟩,-,aq⟩:=H2.e j aj
     obtain⟨A2,c2,rfl,-⟩:=id fp;obtain⟨n2,dw⟩:∃n2,n2=x.aU.length:=⟨_,rfl⟩
     rw[<-dw] at fp aq;clear dw;have Vr:Hid (ύ prog 51 #[η #[.string x.name,ξ κ x.aw,ζ A2 n2 c2]] wr λe w'=>e=Ω (.bool (xY x))/\Γ wr.heap.size wr w'):=ψ (ae2 dk (fp.still st λ_ _ h=>h))
     have g0:=cA aq st aD rfl;have g1:=bH aq st aD 0 rfl;have g2:=bH aq st aD 1 rfl;have qc:(ad.add (j * 3)).block<wr.heap.size:=by rw[cq];omega
     have HX:=ψ hx;clear hx aq st fp;cases hg:xY x with
     |true=>
      go_wp2
      go_at_call 51
      refine Vr.e.mono ?_
      rintro e w2 ⟨rfl,ak⟩;rw[hg];have BX:=ψ (BV.e.trans (ak.mono (by omega)))
      clear ak;go_wp2;go_ret;exact⟨cj (by rw[zz.e,P1 HX.e hg];simp),BX.e⟩
     |false=>
      go_wp2
      go_at_call 51
      refine Vr.e.mono ?_
      rintro e w2 ⟨rfl,ak⟩;rw[hg];have BX:=ψ (HG.e.2.trans (ak.mono hle));clear ak;go_wp2;go_roundw;case rel=>exact⟨j+1,by omega,by go_num,λq y hq hy=>by
       rcases ε.1 hq with h|rfl
       ·exact HG.e.1 q y h hy
       ·rw[HX.e] at hy;cases hy;exact hg,BX.e⟩
      case measure=>simp[ϙ];omega
    ·obtain rfl:j=m:=by omega
     have dw:b.aF.any xY=χ:=P0 Pu.e HG.e.1;have HN2:=ψ dw;have HBF:=ψ HG.e.2;clear dw st;go_wp2;clear r0 r1 r2 r3;go_loopw [2,5] (λr k wr=>∃q:Nat,q<=nt/\k=ξ κ q/\(∀(z:Nat) (x:Tape),z<q->b.aM[z]?=φ x->Fv x=χ)/\Γ (w.heap.size+1) (w.alloc (Ξ #[ξ κ b.ab,ζ PA i pc,ζ A j c,ζ TA nt tc] 26)) wr) (λ_ k _=>nt - (ϙ k).toNat)
     case atStart=>exact⟨0,Ϡ _,rfl,λj _ hj=>by omega,HBF.e⟩
     case round=>
      obtain⟨q,hq,rfl,bL,hb⟩:=hrel;have HK:=ψ (Ϗ bL hb);have mY:Γ w.heap.size w wr:=oi.e.trans (hb.mono (by omega))
      have BZ:=ψ mY;have kr:=KB.e.below hb (by omega)
      have JS:w.heap.size<wr.heap.size:=kr.lt;have r0:=kr.cell 0;have r1:=kr.cell 1;have r2:=kr.cell 2;have r3:=kr.cell 3;have st:Δ B w wr:=Δ.aN mY hB;clear bL hb mY kr;by_cases aj:q<nt
      ·obtain⟨ad,x,cs,rfl,aD,hx,⟨kv,rfl,fp⟩,-,aq⟩:=HT.e q aj
       obtain⟨KA,kn,kc,rfl,cM,Y4,JB,-⟩:=fp.Φ;unfold ϕ at JB;have KL:=ψ cM;have g0:=cA aq st aD rfl;have qc:(ad.add (q * 3)).block<wr.heap.size:=by rw[cq];omega
       have HX:=ψ hx;clear hx aq st fp cM;by_cases hg:20<kn
       ·go_wp2
        go_ret;exact⟨cj (by rw[zz.e,P1 HX.e (by unfold Fv;rw[KL.e];simpa using hg)];simp),BZ.e⟩
       ·go_wp2
        go_roundw;case rel=>exact⟨q+1,by omega,by go_num,λz y hz hy=>by
             rcases ε.1 hz with h|rfl
             ·exact HK.e.1 z y h hy
             ·rw[HX.e] at hy;cases hy;unfold Fv;rw[KL.e];simpa using hg,HK.e.2⟩
        case measure=>simp[ϙ];omega
      ·obtain rfl:q=nt:=by omega
       have sc:b.aM.any Fv=χ:=P0 Py.e HK.e.1;have HN3:=ψ sc;clear sc st;go_wp2;go_ret;exact⟨cj (by rw[zz.e,rf.e,HN2.e,HN3.e];rfl),BZ.e⟩
def fit(ai:bq w B b pv bv tv)(hB:B<=w.heap.size):
 ύ prog 40 #[η #[ξ κ b.ab,pv,bv,tv]] w λe w'=>e=Ω (.bool (Dq b))/\Γ w.heap.size w w':=by
 have bV:=ψ ai;obtain⟨PA,np,pc,rfl,-⟩:=ai.pieces.Φ;obtain⟨TA,nt,tc,rfl,-⟩:=ai.aM.Φ;obtain⟨A,m,c,rfl,-⟩:=ai.aF.Φ;have kb:Bk (w.alloc (Ξ #[ξ κ b.ab,ζ PA np pc,ζ A m c,ζ TA nt tc] 26)) w.heap.size 26 #[ξ κ b.ab,ζ PA np pc,ζ A m c,ζ TA nt tc]:=Bk.new _ _ _;have KB:=ψ kb;have oi:Hid (Γ w.heap.size w (w.alloc (Ξ #[ξ κ b.ab,ζ PA np pc,ζ A m c,ζ TA nt tc] 26))):=ψ ((ώ _ _).alloc (ϊ _) _);have vQ:(w.alloc (Ξ #[ξ κ b.ab,ζ PA np pc,ζ A m c,ζ TA nt tc] 26)).heap.size=w.heap.size+1:=by simp
 have Vn:Hid (ύ prog 20 #[η #[ξ κ b.ab,ζ PA np pc,ζ A m c,ζ TA nt tc]] (w.alloc (Ξ #[ξ κ b.ab,ζ PA np pc,ζ A m c,ζ TA nt tc] 26)) λe w'=>e=Ω (.bool (Br b))/\Γ (w.heap.size+1) (w.alloc (Ξ #[ξ κ b.ab,ζ PA np pc,ζ A m c,ζ TA nt tc] 26)) w'):=ψ (by
  have:=aiN (bV.e.still (Δ.aN oi.e hB)) (by rw[vQ];omega)
  rw[vQ] at this;exact this)
 clear ai kb;cases hg:Br b with
 |true=>
  go_enter func40,Tryz.ntmps40;go_wp2
  go_at_call 20
  refine Vn.e.mono ?_
  rintro e w1 ⟨rfl,ag⟩;rw[hg];have BX:=ψ (oi.e.trans (ag.mono (by omega)))
  clear ag;go_wp2;go_ret;exact⟨cj (by unfold Dq;rw[hg];rfl),BX.e⟩
 |false=>
  go_enter func40,Tryz.ntmps40;go_wp2
  go_at_call 20
  refine Vn.e.mono ?_
  rintro e w1 ⟨rfl,ag⟩;rw[hg];have k1:=KB.e.below ag (by omega)
  have r0:=k1.cell 0;have r1:=k1.cell 1;have r2:=k1.cell 2;have r3:=k1.cell 3;have aS:w.heap.size<w1.heap.size:=k1.lt;have bx:Γ w.heap.size w w1:=oi.e.trans (ag.mono (by omega))
  have C69:Hid (ύ prog 69 #[η #[ξ κ b.ab,ζ PA np pc,ζ A m c,ζ TA nt tc]] w1 λe w'=>e=Ω (ξ κ (dg b))/\Γ w1.heap.size w1 w'):=ψ (ap3 (bV.e.still (Δ.aN bx hB)) (by omega))
  have BX:=ψ bx;clear ag bx k1;go_wp2
  go_at_call 69
  refine C69.e.mono ?_
  rintro e w2 ⟨rfl,ak⟩;have BY:=ψ (BX.e.trans (ak.mono (by omega)))
  clear ak;go_wp2;go_ret;exact⟨cj (by unfold Dq;rw[hg];simp;rfl),BY.e⟩
def arM(x:Int):rF ⟨x,x⟩=[x]:=by
 unfold rF;simp
def yc(x:aP)(N:Nat)(s:List Span×Int)(i:Nat):List Span×Int:=
 if i<N/\cQ x.aU (i:Int) i=0 then s else(if s.2<i then s.1++ [⟨s.2,(i:Int) - 1⟩] else s.1,(i:Int)+1)
def wR(x:aP)(N:Nat):Nat->List Span×Int
 |0=>([],0)
 |n+1=>yc x N (wR x N n) n
def al8(l:List Span)(x:Span):ix (l++ [x])=o4 (ix l) x:=by
 unfold ix;rw[List.foldl_append];rfl
def Im(x:aP)(n:Nat)(s:List Span×Int):Prop:=0<=s.2/\s.2<=n/\(∀y∈s.1,y.hi+1<s.2)/\ix (oW x n)=s.1++(if s.2<n then [⟨s.2,(n:Int) - 1⟩] else [])
def agp{s:List Span×Int}(h:Im x n s)(hn:n<N):Im x (n+1) (yc x N s n):=by
 obtain⟨h0,h1,h2,h3⟩:=h;obtain⟨out,fr⟩:=s;simp only at h0 h1 h2 h3;unfold Im;rw[XY];unfold yc;by_cases hm:cQ x.aU (n:Int) n=0
 ·rw[if_pos hm,al8,h3,if_pos ⟨hn,hm⟩]
  refine⟨h0,by simp only;omega,h2,?_⟩
  simp only;by_cases aj:fr<n
  ·rw[if_pos aj,if_pos (by omega)]
   unfold o4;simp only[List.getLast?_append,List.getLast?_singleton,Option.some_or]
   rw[if_pos (by omega)]
   simp
  ·have e:fr=n:=by omega
   rw[if_neg aj,Ť,if_pos (by omega)]
   unfold o4;cases hl: out.getLast? with
   |none=>simp[e]
   |some y=>
    have hy:=h2 y (List.mem_of_getLast? hl);simp only;rw[if_neg (by omega)]
    simp[e]
 ·rw[if_neg hm,Ť,if_neg (λh=>hm h.2),h3]
  simp only;refine⟨by omega,by omega,λy hy=>?_,?_⟩
  ·by_cases aj:fr<n
   ·rw[if_pos aj] at hy
    rcases È.1 hy with hy|hy
    ·have:=h2 y hy;omega
    ·rw[Ã.1 hy];simp only;omega
   ·rw[if_neg aj] at hy
    have:=h2 y hy;omega
  ·by_cases aj:fr<n
   ·rw[if_pos aj,if_pos aj,if_neg (by omega)];simp
   ·rw[if_neg aj,if_neg aj,if_neg (by omega)]
def Xd(x:aP)(N:Nat):∀n,n<=N->Im x n (wR x N n)
 |0,_=>by simp[Im,wR,oW,ix]
 |n+1,hn=>agp (Xd x N n (by omega)) (by omega)
def ago(x:aP):(wR x x.aw.toNat (x.aw.toNat+1)).1=ia x:=by
 obtain⟨h0,h1,h2,h3⟩:=Xd x x.aw.toNat x.aw.toNat (ϊ _);show(yc x _ (wR x _ _) _).1=_;unfold ia;rw[h3];unfold yc;rw[if_neg (by omega)]
 simp only;split<;>simp
def Ew(x:aP)(bears:Int)(fr:Nat)(m:Int)(k:Nat):Int:=if cQ x.aU fr ((fr:Int)+(k+1:Nat) - 1)<=bears then max m ((k:Int)+1) else m
def nZ(x:aP)(bears:Int)(fr:Nat)(m:Int):Nat->Int
 |0=>m
 |k+1=>Ew x bears fr (nZ x bears fr m k) k
def uZ(x:aP)(bears:Int)(N:Nat):Nat->Int
 |0=>0
 |fr+1=>nZ x bears fr (uZ x bears N fr) (N - fr)
def aaY(ks:List Span){b c:Int}(h:b<=c):cQ ks a b<=cQ ks a c:=by
 unfold cQ;have:(ks.filter (nN a b)).length<=(ks.filter (nN a c)).length:=by
  induction ks with
  |nil=>simp
  |cons k l ih=>
   simp only[List.filter_cons];by_cases h1:nN a b k=θ
   ·have h2:nN a c k=θ:=by
       unfold nN at h1 |-
       simp at h1 |-
       omega
    rw[if_pos h1,if_pos h2];simp only[List.length_cons];omega
   ·rw[if_neg h1]
    split
    ·simp only[List.length_cons];omega
    ·exact ih
 omega
def aaJ(x:aP)(bears:Int)(fr:Nat)(m:Int){k:Nat}(hk:bears<cQ x.aU fr ((fr:Int)+(k+1:Nat) - 1)):∀d,nZ x bears fr m (k+d)=nZ x bears fr m k
 |0=>rfl
 |d+1=>by
  show Ew x bears fr (nZ x bears fr m (k+d)) (k+d)=_;unfold Ew;rw[if_neg,aaJ x bears fr m hk d];have:=aaY x.aU (a:=fr) (b:=(fr:Int)+(k+1:Nat) - 1) (c:=(fr:Int)+(k+d+1:Nat) - 1) (by omega)
  omega
def aaI(x:aP)(bears:Int)(N fr:Nat)(hf:fr<=N)(m:Int):∀s,s<=N - fr->vT x bears N fr s (nZ x bears fr m (N - fr - s))=nZ x bears fr m (N - fr)
 |0,_=>by unfold vT;rw[Nat.sub_zero]
 |s+1,hs=>by
  have ih:=aaI x bears N fr hf m s (by omega)
  have e:N - fr - s=(N - fr - (s+1))+1:=by omega
  obtain⟨k,hk⟩:∃k,k=N - fr - (s+1):=⟨_,rfl⟩
  rw[<-hk] at e;have eq1:(N:Int) - (s+1:Nat)=(fr:Int)+(k+1:Nat) - 1:=by omega
  unfold vT;rw[eq1,<-hk];split
  ·rename_i h
   have:=aaJ x bears fr m (k:=k) (by omega) (s+1)
   rw[show N - fr=k+(s+1) by omega,this]
  ·rename_i h
   rw[e] at ih;have e2:nZ x bears fr m (k+1)=max (nZ x bears fr m k) ((fr:Int)+(k+1:Nat) - 1 - fr+1):=by
    show Ew x bears fr (nZ x bears fr m k) k=_;unfold Ew;rw[if_pos (by omega)]
    congr 1;omega
   rw[<-e2];exact ih
def aaH(x:aP)(bears:Int)(N:Nat):∀fr,fr<=N->uZ x bears N fr=yK x bears N fr
 |0,_=>rfl
 |fr+1,h=>by
  have ih:=aaH x bears N fr (by omega)
  have:=aaI x bears N fr (by omega) (uZ x bears N fr) (N - fr) (ϊ _)
  rw[Ajo] at this;show nZ x bears fr (uZ x bears N fr) (N - fr)=vT x bears N fr (N - fr) (yK x bears N fr);rw[<-this,ih];rfl
def aaG(x:aP)(bears:Int)(fr:Nat)(m:Int):∀k,m<=nZ x bears fr m k/\(∀j:Nat,j<k->cQ x.aU fr ((fr:Int)+j)<=bears->(j:Int)+1<=nZ x bears fr m k)/\
 (nZ x bears fr m k=m\/∃j:Nat,j<k/\cQ x.aU fr ((fr:Int)+j)<=bears/\nZ x bears fr m k=(j:Int)+1)
 |0=>⟨ś _,λj h=>by omega,Or.inl rfl⟩
 |k+1=>by
  obtain⟨h1,h2,h3⟩:=aaG x bears fr m k;have e:nZ x bears fr m (k+1)=if cQ x.aU fr ((fr:Int)+k)<=bears then max (nZ x bears fr m k) ((k:Int)+1) else nZ x bears fr m k:=by
   show Ew x bears fr (nZ x bears fr m k) k=_;unfold Ew;rw[show(fr:Int)+(k+1:Nat) - 1=(fr:Int)+k by omega]
  rw[e];by_cases hm:cQ x.aU fr ((fr:Int)+k)<=bears
  ·rw[if_pos hm]
   refine⟨by omega,λj hj hb=>?_,?_⟩
   ·rcases ε.1 hj with h|rfl
    ·have:=h2 j h hb;omega
    ·omega
   ·by_cases hle:(k:Int)+1<=nZ x bears fr m k
    ·rw[Int.max_eq_left hle]
     rcases h3 with h3| ⟨j,a,b,c⟩
     ·exact Or.inl h3
     ·exact Đ ⟨j,by omega,b,c⟩
    ·rw[Int.max_eq_right (by omega)]
     exact Đ ⟨k,by omega,hm,rfl⟩
  ·rw[if_neg hm]
   refine⟨h1,λj hj hb=>?_,?_⟩
   ·rcases ε.1 hj with h|rfl
    ·exact h2 j h hb
    ·exact absurd hb hm
   ·rcases h3 with h3| ⟨j,a,b,c⟩
    ·exact Or.inl h3
    ·exact Đ ⟨j,by omega,b,c⟩
def aaF(x:aP)(bears:Int)(N:Nat):∀n,n<=N->0<=uZ x bears N n/\(∀fr j:Nat,fr<n->fr+j<N->cQ x.aU fr ((fr:Int)+j)<=bears->(j:Int)+1<=uZ x bears N n)/\
 (uZ x bears N n=0\/∃fr j:Nat,fr+j<N/\cQ x.aU fr ((fr:Int)+j)<=bears/\uZ x bears N n=(j:Int)+1)
 |0,_=>⟨ś _,λfr j h=>by omega,Or.inl rfl⟩
 |n+1,hn=>by
  obtain⟨h1,h2,h3⟩:=aaF x bears N n (by omega)
  obtain⟨g1,g2,g3⟩:=aaG x bears n (uZ x bears N n) (N - n);show 0<=nZ x bears n (uZ x bears N n) (N - n)/\(∀fr j:Nat,fr<n+1->fr+j<N->cQ x.aU fr ((fr:Int)+j)<=bears->(j:Int)+1<=nZ x bears n (uZ x bears N n) (N - n))/\(nZ x bears n (uZ x bears N n) (N - n)=0\/_)
  refine⟨by omega,λfr j hf hj hb=>?_,?_⟩
  ·rcases ε.1 hf with h|rfl
   ·have:=h2 fr j h hj hb;omega
   ·exact g2 j (by omega) hb
  ·rcases g3 with g3| ⟨j,a,b,c⟩
   ·rcases h3 with h3| ⟨fr,j,a,b,c⟩
    ·left;omega
    ·right;exact⟨fr,j,a,b,by show nZ x bears n (uZ x bears N n) (N - n)=_;omega⟩
   ·exact Đ ⟨n,j,by omega,b,c⟩
def Cj(x:aP)(bears:Int):0<=nM x bears/\(∀fr j:Nat,fr+j<x.aw.toNat->cQ x.aU fr ((fr:Int)+j)<=bears->(j:Int)+1<=nM x bears)/\
 (nM x bears=0\/∃fr j:Nat,fr+j<x.aw.toNat/\cQ x.aU fr ((fr:Int)+j)<=bears/\nM x bears=(j:Int)+1):=by
 obtain⟨h1,h2,h3⟩:=aaF x bears x.aw.toNat x.aw.toNat (ϊ _);rw[aaH x bears _ _ (ϊ _)] at h1 h2 h3;exact⟨h1,λfr j hj hb=>h2 fr j (by omega) hj hb,h3⟩
def ank(x:aP){c:Int}(h:a<=c):nM x a<=nM x c:=by
 obtain⟨h1,h2,h3⟩:=Cj x a;obtain⟨g1,g2,g3⟩:=Cj x c;rcases h3 with h3| ⟨fr,j,p,q,r⟩
 ·omega
 ·rw[r];exact g2 fr j p (by omega)
def Ts(x:aP)(a:Int):nM x a<=x.aw.toNat:=by
 obtain⟨h1,h2,h3⟩:=Cj x a;rcases h3 with h3| ⟨fr,j,p,q,r⟩<;>omega
def anl(x:aP)(h:(x.aU.length:Int)<=a)(hp:0<x.aw):nM x a=x.aw:=by
 have h1:=Ts x a;have h2:=(Cj x a).2.1 0 (x.aw.toNat - 1) (by omega) (by have:=(TE x.aU (0:Nat) (((0:Nat):Int)+(x.aw.toNat - 1:Nat))).2;omega)
 omega
def aaZ{ks:List Span}(hk:∀k∈ks,k.lo<=k.hi){b:Int}(hab:a<=b):cQ ks a b=0↔∀j:Int,a<=j->j<=b->cQ ks j j=0:=by
 unfold cQ;constructor
 ·intro h j h1 h2
  have h':=Ajg.1 (show(ks.filter (nN a b)).length=0 by omega)
  rw[Ajh] at h';have:ks.filter (nN j j)=[]:=by
   rw[Ajh];intro k hm;have:=h' k hm;unfold nN at this |-
   simp at this |-
   omega
  rw[this];rfl
 ·intro h
  have:ks.filter (nN a b)=[]:=by
   rw[Ajh];intro k hm;have hle:=hk k hm;intro Ad;unfold nN at Ad;simp at Ad;have:=h (max a k.lo) (by omega) (by omega)
   have h':=Ajg.1 (show(ks.filter (nN (max a k.lo) (max a k.lo))).length=0 by omega)
   rw[Ajh] at h';have:=h' k hm;unfold nN at this;simp at this;omega
  rw[this];rfl
def uI(x:aP)(j:Int):Prop:=cQ x.aU j j=0
def qV(x:aP)(n:Nat):Int:=((Ϯ n).filter λi:Nat=> !decide (cQ x.aU (i:Int) i=0)).length
def nL(y:Span):Int:=y.hi - y.lo+1
def UH(x:aP)(n:Nat):qV x (n+1)=qV x n+if cQ x.aU (n:Int) n=0 then 0 else 1:=by
 unfold qV;rw[Ś,List.filter_append,List.length_append];by_cases h:cQ x.aU (n:Int) n=0<;>simp[h]
structure KI(x:aP)(n:Nat)(out:List Span)(fr:Int):Prop where
 lo:0<=fr
 hi:fr<=n
 run:∀j:Int,fr<=j->j<n->uI x j
 fj:0<fr->¬uI x (fr - 1)
 sp:∀y∈out,0<=y.lo/\y.lo<=y.hi/\y.hi+1<fr
 ends:∀y∈out,(0<y.lo->¬uI x (y.lo - 1))/\¬uI x (y.hi+1)/\∀j:Int,y.lo<=j->j<=y.hi->uI x j
 pw:out.Pairwise λa c=>a.hi<c.lo
 Bm:∀j:Int,0<=j->j<fr->uI x j->∃y∈out,y.lo<=j/\j<=y.hi
 sum:(out.map nL).sum+(n - fr)+qV x n=n
def amg(x:aP):KI x 0 [] 0:=
 ⟨ś _,ś _,λj h1 h2=>(by omega),λh=>(by omega),λy h=>(by cases h),λy h=>(by cases h),List.Pairwise.nil,λj h1 h2=>(by omega),by simp[qV]⟩
def amf{out:List Span}(h:KI x n out fr)(hf:cQ x.aU (n:Int) n=0):KI x (n+1) out fr where
 lo:=h.lo
 hi:=by have:=h.hi;omega
 run:=λj h1 h2=>by
  by_cases e:j=n
  ·subst e;exact hf
  ·exact h.run j h1 (by omega)
 fj:=h.fj
 sp:=h.sp
 ends:=h.ends
 pw:=h.pw
 Bm:=h.Bm
 sum:=by have:=h.sum;rw[UH,if_pos hf];omega
def amh{out:List Span}(h:KI x n out fr)(hf:¬cQ x.aU (n:Int) n=0):KI x (n+1) (if fr<n then out++ [⟨fr,(n:Int) - 1⟩] else out) (n+1) where
 lo:=by omega
 hi:=by omega
 run:=λj h1 h2=>by omega
 fj:=λ_=>by rw[show(n:Int)+1 - 1=n by omega];exact hf
 sp:=λy hy=>by
  have h1:=h.hi;have h2:=h.lo;by_cases aj:fr<n
  ·rw[if_pos aj] at hy
   rcases È.1 hy with hy|hy
   ·have:=h.sp y hy;omega
   ·rw[Ã.1 hy];simp only;omega
  ·rw[if_neg aj] at hy
   have:=h.sp y hy;omega
 ends:=λy hy=>by
  by_cases aj:fr<n
  ·rw[if_pos aj] at hy
   rcases È.1 hy with hy|hy
   ·exact h.ends y hy
   ·rw[Ã.1 hy]
    refine⟨h.fj,?_,λj h1 h2=>h.run j h1 (by simp only at h2;omega)⟩
    simp only;rw[show(n:Int) - 1+1=n by omega]
    exact hf
  ·rw[if_neg aj] at hy
   exact h.ends y hy
 pw:=by
  by_cases aj:fr<n
  ·rw[if_pos aj,Aja]
   refine⟨h.pw,Ajb _ _,λa ha c hc=>?_⟩
   rw[Ã.1 hc];have:=h.sp a ha;simp only;omega
  ·rw[if_neg aj];exact h.pw
 Bm:=λj h1 h2 h3=>by
  by_cases hj:j<fr
  ·obtain⟨y,hy,k⟩:=h.Bm j h1 hj h3
   refine⟨y,?_,k⟩
   split
   ·exact Aji _ hy
   ·exact hy
  ·have au:j≠n:=λe=>hf (by rw[e] at h3;exact h3)
   have aj:fr<n:=by omega
   rw[if_pos aj];exact⟨⟨fr,(n:Int) - 1⟩,Ajj _ (Ã.2 rfl),by simp only;omega,by simp only;omega⟩
 sum:=by
  have h1:=h.sum;have h2:=h.hi;rw[UH,if_neg hf];by_cases aj:fr<n
  ·rw[if_pos aj,Ŧ,Ajk]
   simp only[ď,List.map_nil,Ajl,List.sum_nil,nL];omega
  ·rw[if_neg aj];omega
def aav(x:aP)(N:Nat):∀n,n<=N->KI x n (wR x N n).1 (wR x N n).2
 |0,_=>amg x
 |n+1,hn=>by
  have ih:=aav x N n (by omega)
  show KI x (n+1) (yc x N (wR x N n) n).1 (yc x N (wR x N n) n).2;unfold yc;by_cases hm:cQ x.aU (n:Int) n=0
  ·rw[if_pos ⟨by omega,hm⟩];exact amf ih hm
  ·rw[if_neg (λh=>hm h.2)];exact amh ih hm
structure Vu(x:aP)(l:List Span):Prop where
 sp:∀y∈l,0<=y.lo/\y.lo<=y.hi/\y.hi<x.aw.toNat
 ends:∀y∈l,(0<y.lo->¬uI x (y.lo - 1))/\(y.hi+1<x.aw.toNat->¬uI x (y.hi+1))/\∀j:Int,y.lo<=j->j<=y.hi->uI x j
 pw:l.Pairwise λa c=>a.hi<c.lo
 Bm:∀j:Int,0<=j->j<x.aw.toNat->uI x j->∃y∈l,y.lo<=j/\j<=y.hi
 sum:(l.map nL).sum+qV x x.aw.toNat=x.aw.toNat
def LZ(x:aP):Vu x (ia x):=by
 have h:=aav x x.aw.toNat x.aw.toNat (ϊ _);rw[<-ago];show Vu x (yc x _ (wR x _ _) _).1;obtain⟨N,hN⟩:∃N,N=x.aw.toNat:=⟨_,rfl⟩
 rw[<-hN] at h |-
 generalize wR x N N=s at h |-
 obtain⟨out,fr⟩:=s;simp only at h;unfold yc;rw[if_neg (by omega)]
 simp only;have h1:=h.hi;have h2:=h.lo;by_cases aj:fr<N
 ·rw[if_pos aj]
  refine⟨λy hy=>?_,λy hy=>?_,?_,λj j1 j2 j3=>?_,?_⟩
  ·rw[<-hN]
   rcases È.1 hy with hy|hy
   ·have:=h.sp y hy;omega
   ·rw[Ã.1 hy];simp only;omega
  ·rw[<-hN]
   rcases È.1 hy with hy|hy
   ·have:=h.ends y hy
    exact⟨this.1,λ_=>this.2.1,this.2.2⟩
   ·rw[Ã.1 hy]
    exact⟨h.fj,λh=>by simp only at h;omega,λj h1 h2=>h.run j h1 (by simp only at h2;omega)⟩
  ·rw[Aja]
   refine⟨h.pw,Ajb _ _,λa ha c hc=>?_⟩
   rw[Ã.1 hc];have:=h.sp a ha;simp only;omega
  ·rw[<-hN] at j2
   by_cases hj:j<fr
   ·obtain⟨y,hy,k⟩:=h.Bm j j1 hj j3
    exact⟨y,Aji _ hy,k⟩
   ·exact⟨⟨fr,(N:Int) - 1⟩,Ajj _ (Ã.2 rfl),by simp only;omega,by simp only;omega⟩
  ·have:=h.sum
   rw[<-hN,Ŧ,Ajk];simp only[ď,List.map_nil,Ajl,List.sum_nil,nL];omega
 ·rw[if_neg aj]
  refine⟨λy hy=>?_,λy hy=>?_,h.pw,λj j1 j2 j3=>h.Bm j j1 (by omega) j3,?_⟩
  ·have:=h.sp y hy;omega
  ·have:=h.ends y hy
   exact⟨this.1,λ_=>this.2.1,this.2.2⟩
  ·have:=h.sum
   rw[<-hN];omega
def an0(l:List Span):∀m:Int,m<=l.foldl (λm y=>max m (nL y)) m/\(∀y∈l,nL y<=l.foldl (λm y=>max m (nL y)) m)/\(l.foldl (λm y=>max m (nL y)) m=m\/∃y∈l,l.foldl (λm y=>max m (nL y)) m=nL y):=by
 induction l with
 |nil=>intro m;exact⟨ś _,λy h=>(by cases h),Or.inl rfl⟩
 |cons a l ih=>
  intro m;obtain⟨h1,h2,h3⟩:=ih (max m (nL a));rw[List.foldl_cons];refine⟨by omega,λy hy=>?_,?_⟩
  ·rcases ϥ.1 hy with rfl|hy
   ·omega
   ·exact h2 y hy
  ·rcases h3 with h3| ⟨y,hy,h3⟩
   ·rw[h3]
    by_cases hle:nL a<=m
    ·left;omega
    ·right;exact⟨a,Ajm ..,by omega⟩
   ·right;exact⟨y,Ajn _ hy,h3⟩
def af4(hk:∀k∈x.aU,k.lo<=k.hi):(ia x).foldl (λm y=>max m (nL y)) 0=nM x 0:=by
 have hc:=LZ x;obtain⟨l1,l2,l3⟩:=Cj x 0;obtain⟨h1,h2,h3⟩:=an0 (ia x) 0;apply Int.le_antisymm
 ·rcases h3 with h3| ⟨y,hy,h3⟩
  ·omega
  ·have p:=hc.sp y hy
   have q:=(hc.ends y hy).2.2;have hm:cQ x.aU (y.lo.toNat:Int) ((y.lo.toNat:Int)+(y.hi - y.lo).toNat)=0:=(aaZ hk (by omega)).2 λj j1 j2=>q j (by omega) (by omega)
   have:=l2 y.lo.toNat (y.hi - y.lo).toNat (by omega) (by omega)
   rw[h3];have e:nL y=y.hi - y.lo+1:=rfl;omega
 ·rcases l3 with l3| ⟨fr,j,p,q,r⟩
  ·omega
  ·have hz:cQ x.aU (fr:Int) ((fr:Int)+j)=0:=by have:=(TE x.aU (fr:Int) ((fr:Int)+j)).1;omega
   have yo:=(aaZ hk (a:=fr) (b:=(fr:Int)+j) (by omega)).1 hz
   obtain⟨y,hy,k1,k2⟩:=hc.Bm fr (by omega) (by omega) (yo fr (by omega) (by omega))
   have tO:=h2 y hy;have uR:(fr:Int)+j<=y.hi:=by
    by_cases aj:(fr:Int)+j<=y.hi
    ·exact aj
    ·exact absurd (yo (y.hi+1) (by omega) (by omega)) ((hc.ends y hy).2.1 (by omega))
   rw[r];have e:nL y=y.hi - y.lo+1:=rfl;omega
def GI:ByteArray:=⟨#[111,110,101]⟩
def oL(ab:Int)(x:aP)(n k:Int):an:={ab,pieces:=[⟨GI,⟨n,n⟩,k⟩],aF:=[x],aM:=[]}
def afc{fj:List aP}(h:mP fj x=0):mP [] x=0:=by
 unfold mP at h |-
 split at h
 ·rename_i h1
  rw[if_pos h1];split at h
  ·cases h
  ·rw[if_neg (by simp)];exact h
 ·cases h
def abg{n:Int}(h:dg b=0)(hx:x∈b.aF)(hn:1<=n)(dw:n<=40)(hk:0<=k)(dq:k<=2):dg (oL b.ab x n k)=0:=by
 have h0:=Oa _ _ h;unfold dg;refine vZ λj y hy=>?_
 have hm:= ϡ hy;unfold pq at hm h0;simp only[ϥ,List.not_mem_nil,or_false,oL] at hm;have g1:=h0 (if cf b.ab 0 3=θ then 0 else 1) (by simp)
 have g3:=h0 (ox b.aF) (by simp)
 rcases hm with rfl|rfl|rfl|rfl
 ·exact g1
 ·show nP _=0
  unfold nP;rw[if_pos (by rfl)]
  refine vZ λj y hy=>?_
  have e:y=⟨GI,⟨n,n⟩,k⟩:=by simpa using ϡ hy
  have ej:j=0:=by
   have:=(ϩ.1 hy).1
   simpa using this
  subst e ej;unfold qy;rw[if_pos (show sr GI.data.toList=θ by decide),if_neg (by simp),if_pos (by unfold qz;simp;omega),if_pos (by unfold cf;simp;omega)]
 ·show ox _=0
  unfold ox at g3 |-
  split at g3
  ·cases g3
  ·rw[if_neg (by simp)]
   obtain⟨fj,hb⟩:=EP _ _ g3 x hx;refine vZ λj y hy=>?_
   have e:y=x:=by simpa using ϡ hy
   have ej:j=0:=by
    have:=(ϩ.1 hy).1
    simpa using this
   subst e ej;exact afc hb
 ·rfl
def NI{ab n:Int}:aH (oL ab x n k)=[⟨n,0,0⟩]:=by
 unfold aH oL;simp[hJ,arM,NW,al.set]
def abk{n:Int}(h:dg (oL b.ab x n k)=0):cG (oL b.ab x n k) 0=0:=by
 unfold cG;rw[if_neg (by simpa using h),if_neg (by simp),if_neg (by rw[NI];simp)]
def abh{ab n:Int}{c:Cut}(hc:vk (oL ab x n k) c):ib (oL ab x n k) ⟨n,0,0⟩ [c]=tR x k n c:=by
 obtain⟨q,hq,Gl⟩:=hc.bm;have ZI:q=0:=by simpa [oL] using Gl
 unfold ib;have e:(Ϯ [c].length)=[0]:=rfl;rw[e];simp[vA,Ar,oL,hq,ZI,al.at]
def aph{n:Int}(h0:dg b=0)(hx:x∈b.aF)(hn:1<=n)(dw:n<=40)(hk:0<=k)(dq:k<=2):(ow (oL b.ab x n k) pB).isSome=decide (n<=nM x k):=by
 have hc:=abg h0 hx hn dw hk dq;have hv:=oc hc;have vI:=(hv.bm x (by simp[oL])).aw
 unfold ow;rw[if_pos (abk hc)];obtain⟨l1,l2,l3⟩:=Cj x k;have au:aH (oL b.ab x n k)≠ []:=by rw[NI];simp
 by_cases hle:n<=nM x k
 ·rw[decide_eq_true hle]
  obtain⟨fr,j,p,q,r⟩:∃fr j:Nat,fr+j<x.aw.toNat/\cQ x.aU fr ((fr:Int)+j)<=k/\nM x k=(j:Int)+1:=by
   rcases l3 with l3|l3
   ·omega
   ·exact l3
  have cE:vk (oL b.ab x n k) ⟨0,fr⟩:=⟨⟨0,rfl,by simp[oL]⟩,by simp only;omega,by simp only;omega⟩
  obtain⟨y,m,e,-⟩:=ae1 hv an7 au (c:=[⟨0,fr⟩]) ⟨rfl,λd hd=>by rw[Ã.1 hd];exact cE⟩ λL hL=>by
   rw[NI,Ã] at hL;subst hL;rw[abh cE];unfold tR;have:=aaY x.aU (a:=(fr:Int)) (b:=(fr:Int)+n - 1) (c:=(fr:Int)+j) (by omega)
   simp only[Ϫ,decide_eq_true_eq];omega
  rw[e];rfl
 ·rw[decide_eq_false hle]
  cases e:mE (oL b.ab x n k) (cw (aH (oL b.ab x n k))) pB (2 ^ (oL b.ab x n k).aF.length) with
  |none=>rfl
  |some cm=>
   obtain⟨c,m⟩:=cm;have hg:=LM hv _ _ _ e;have hd:=(ae0 e).1 ⟨n,0,0⟩ (by rw[NI];simp)
   have hl:c.length=1:=hg.1;obtain⟨d,rfl⟩:=List.length_eq_one_iff.1 hl;have cE:=hg.2 d (Ã.2 rfl);rw[abh cE] at hd;unfold tR at hd;simp only[Ϫ,decide_eq_true_eq] at hd;have hf:=cE.from_;have hm:cQ x.aU (d.from_.toNat:Int) ((d.from_.toNat:Int)+(n - 1).toNat)<=k:=by
     rw[show(d.from_.toNat:Int)=d.from_ by omega,show d.from_+((n - 1).toNat:Int)=d.from_+n - 1 by omega]
     exact hd.2
   have:=l2 d.from_.toNat (n - 1).toNat (by omega) hm
   omega
def aaz{aw:Int}:∀(l:List Span) (last:Int),qv aw last l=0->∀k∈l,0<=k.lo/\k.lo<=k.hi/\k.hi<=aw - 1
 | [],_,_,k,h=>by cases h
 |y::l,last,h,k,hk=>by
  have e:qv aw last (y::l)=if qz y.lo y.hi 0 (aw - 1) aw then if y.lo<=last then 7 else qv aw y.hi l else 1:=rfl
  rw[e] at h;split at h
  ·rename_i h1
   split at h
   ·cases h
   ·rcases ϥ.1 hk with rfl|hk
    ·unfold qz at h1
     simp at h1;omega
    ·exact aaz l _ h k hk
  ·cases h
def amr(h:dg b=0)(hx:x∈b.aF):∀k∈x.aU,0<=k.lo/\k.lo<=k.hi/\k.hi<=x.aw - 1:=by
 have h0:=Oa _ _ h;unfold pq at h0;have g3:=h0 (ox b.aF) (by simp)
 unfold ox at g3;split at g3
 ·cases g3
 ·obtain⟨fj,hb⟩:=EP _ _ g3 x hx
  unfold mP at hb;split at hb
  ·split at hb
   ·cases hb
   ·split at hb
    ·split at hb
     ·cases hb
     ·exact aaz _ _ hb
    ·cases hb
  ·cases hb
def asq{ks:List Span}{j:Int}:cQ ks j j≠0↔∃k∈ks,k.lo<=j/\j<=k.hi:=by
 unfold cQ;constructor
 ·intro h
  have hp:(ks.filter (nN j j))≠ []:=λe=>h (by rw[e];rfl)
  obtain⟨k,hk⟩:=Aje _ hp;obtain⟨h1,h2⟩:=List.mem_filter.1 hk;unfold nN at h2;simp at h2;exact⟨k,h1,h2⟩
 ·rintro⟨k,h1,h2,h3⟩ e
  have:k∈ks.filter (nN j j):=List.mem_filter.2 ⟨h1,by unfold nN;simp;omega⟩
  rw[Ajg.1 (show(ks.filter (nN j j)).length=0 by omega)] at this
  cases this
def rG(L:List Span)(p:Int):Bool:= !decide (cQ L p p=0)
def qH(L:List Span)(N:Nat):Array υ:=((Ϯ N).map λp:Nat=>Value.bool (rG L p)).toArray
def UJ:rG L p=θ↔∃k∈L,k.lo<=p/\p<=k.hi:=by
 unfold rG;rw[<-asq];simp
def acz{M:List Span}{q:Int}(h:(∃k∈L,k.lo<=p/\p<=k.hi)↔∃k∈M,k.lo<=q/\q<=k.hi):rG L p=rG M q:=by
 rw[Bool.eq_iff_iff,UJ,UJ];exact h
def EV(L:List Span)(N:Nat):(qH L N).size=N:=by simp[qH]
def AJ{p:Nat}(h:p<N):(qH L N)[p]?=φ (.bool (rG L p)):=by
 unfold qH;simp[Ai2 h]
def asx{M:List Span}(h:∀p:Nat,p<N->((∃k∈L,k.lo<=(p:Int)/\(p:Int)<=k.hi)↔∃k∈M,k.lo<=(p:Int)/\(p:Int)<=k.hi)):qH L N=qH M N:=by
 apply ĸ;intro p;by_cases hp:p<N
 ·rw[AJ hp,AJ hp,acz (h p hp)]
 ·rw[Ô (by rw[EV];omega),Ô (by rw[EV];omega)]
def asy(N:Nat):qH [] N=Array.replicate N (.bool χ):=by
 apply ĸ;intro p;by_cases hp:p<N
 ·rw[AJ hp,Array.getElem?_replicate,if_pos hp]
  rfl
 ·rw[Ô (by rw[EV];omega),Ô (by simp;omega)]
def asA(L:List Span)(N:Nat)(lo:Int):qH (L++ [⟨lo,lo - 1⟩]) N=qH L N:=
 asx λp _=>by
  constructor
  ·rintro⟨k,hk,h1,h2⟩
   rcases È.1 hk with hk|hk
   ·exact⟨k,hk,h1,h2⟩
   ·simp only[Ã] at hk
    subst hk;simp only at h1 h2;omega
  ·rintro⟨k,hk,h⟩
   exact⟨k,È.2 (.inl hk),h⟩
def asB{a:Nat}(hl:lo<=a):(qH (L++ [⟨lo,(a:Int) - 1⟩]) N).setIfInBounds a (.bool θ)=qH (L++ [⟨lo,a⟩]) N:=by
 apply ĸ;intro p;rw[Array.getElem?_setIfInBounds,EV]
 by_cases hp:p<N
 ·by_cases e:a=p
  ·subst e
   rw[if_pos rfl,if_pos hp,AJ hp,UJ.2 ⟨_,È.2 (.inr Ajm),hl,ś _⟩]
  ·rw[if_neg e,AJ hp,AJ hp]
   congr 2;refine acz ⟨?_,?_⟩
   ·rintro⟨k,hk,h1,h2⟩
    rcases È.1 hk with hk|hk
    ·exact⟨k,È.2 (.inl hk),h1,h2⟩
    ·simp only[Ã] at hk
     subst hk;simp only at h1 h2;exact⟨_,È.2 (.inr Ajm),h1,by simp only;omega⟩
   ·rintro⟨k,hk,h1,h2⟩
    rcases È.1 hk with hk|hk
    ·exact⟨k,È.2 (.inl hk),h1,h2⟩
    ·simp only[Ã] at hk
     subst hk;simp only at h1 h2;exact⟨_,È.2 (.inr Ajm),h1,by simp only;omega⟩
 ·rw[Ô (by rw[EV];omega)]
  split
  ·rename_i e;subst e;rw[if_neg hp,Ô (by rw[EV];omega)]
  ·rw[Ô (by rw[EV];omega)]
def ve(l:List Span)(j:Nat):Int:=((l.take j).map nL).sum
def yM(l:List Span)(j:Nat):Int:=(l.take j).foldl (λm y=>max m (nL y)) 0
def aqt{y:Span}(h:l[j]?=φ y):ve l (j+1)=ve l j+y.hi - y.lo+1:=by
 unfold ve;rw[su h];simp[nL];omega
def an8{y:Span}(h:l[j]?=φ y):yM l (j+1)=max (yM l j) (y.hi - y.lo+1):=by
 unfold yM;rw[su h,List.foldl_append];rfl
def acs(h:∀y∈l,y.lo<=y.hi):0<=(l.map nL).sum:=by
 induction l with
 |nil=>simp
 |cons a l ih=>
  have h1:=ih λy hy=>h y (Ajn _ hy)
  have h2:=h a Ajm;simp only[ď,Ajl];have:nL a=a.hi - a.lo+1:=rfl;omega
def UG(x:aP)(n:Nat):0<=qV x n:=by unfold qV;omega
def abF(j:Nat):0<=ve (ia x) j/\ve (ia x) j<=x.aw.toNat:=by
 have hc:=LZ x;have h1:0<=(((ia x).take j).map nL).sum:=acs λy hy=>(hc.sp y (List.mem_of_mem_take hy)).2.1
 have h2:0<=(((ia x).drop j).map nL).sum:=acs λy hy=>(hc.sp y (List.mem_of_mem_drop hy)).2.1
 have h3:((ia x).map nL).sum=(((ia x).take j).map nL).sum+(((ia x).drop j).map nL).sum:=by
  rw[<-Ajk,<-Ŧ,List.take_append_drop]
 have h4:=hc.sum;have h5:=UG x x.aw.toNat;unfold ve;omega
def aiA(x:aP):ve (ia x) (ia x).length+qV x x.aw.toNat=x.aw.toNat:=by
 unfold ve;rw[Ajc];exact(LZ x).sum
def an9(hk:∀k∈x.aU,k.lo<=k.hi):yM (ia x) (ia x).length=nM x 0:=by
 unfold yM;rw[Ajc];exact af4 hk
def asp(x:aP)(n:Nat):qV x (n+1)=qV x n+if rG x.aU n=θ then 1 else 0:=by
 rw[UH];unfold rG;by_cases h:cQ x.aU (n:Int) n=0<;>simp[h]
def XZ{j:Int}:uI x j↔rG x.aU j=χ:=by
 unfold uI rG;simp
def acw{j:Int}:¬uI x j↔rG x.aU j=θ:=by
 rw[XZ];simp
def abf(w:Ψ)(n:Int):ύ prog 50 #[ξ κ n] w λe w'=>e=Ω (η #[ξ κ n,ξ κ n])/\Γ w.heap.size w w':=
 (EG w n).mono λe w' h=>⟨h.1,by rw[h.2];exact(ώ _ _).alloc (ϊ _) _⟩
end Go.Tw
