import Derived.Test.YtfifdjajcogccaaGreatDoorZ02
import Derived.Laws.AppendOwnNone
set_option linter.all false
set_option maxHeartbeats 0
set_option maxRecDepth 100000
open And renaming intro -> Ϗ
open Bool renaming false_eq_true -> Ð, or_eq_true -> Aip, and_eq_true -> ϩ, or_eq_false_iff -> Aiq, and_eq_false_iff -> Air, eq_iff_iff -> Ais
open Go renaming maxLen -> ϑ, TypeId -> ό, Calls -> ύ, bodyPost_ret -> à, info_parts -> Ą, wpStill_nil -> Ait, run_underlying -> Aiu
open Go.Act renaming put -> É
open Go.IntKind renaming i64 -> ϙ
open Go.IntWalk renaming i64_left -> Aiw, wrap64_in -> Aix
open Go.Lib renaming compareInt -> Aiy, compactUpTo -> Aiz
open Go.Program renaming fieldsOf -> ň
open Go.Region renaming wanted -> Ä
open Go.RowKit renaming intOf -> ϗ
open Go.RowKit.Below renaming refl -> ώ, heap_setCell -> Ô
open Go.Value renaming int -> Ϝ
open Go.World renaming cell?_setCell_far -> Ů
open Int renaming ofNat -> Ĕ, le_trans -> Ai2
open List renaming getElem?_of_mem -> Ai3, flatMap_cons -> Ġ, nil_append -> ì, set_cons_succ -> Ì, getElem?_eq_some_iff -> Ϯ, length_map -> ü, getElem?_map -> Š, mem_of_getElem? -> Ϩ, mem_map -> ó, getElem?_eq_getElem -> Ã, drop_eq_getElem_cons -> Ai5, drop_eq_nil_of_le -> ů, range -> ε, range_succ -> Ŭ, mergeSort_perm -> Ai7, pairwise_mergeSort -> Ai8, foldl_nil -> Ai9, exists_of_findSome?_eq_some -> ū, length_append -> Ĉ, findSome?_eq_some_iff -> Aja, getElem?_append_right -> Ū, take_add_one -> Ajb, mem_flatMap -> ĺ, eq_nil_of_length_eq_zero -> Ō, length_take -> Ć, getElem?_take_of_lt -> Ajd, take_of_length_le -> Ċ, append_assoc -> Aje, take_append_of_le_length -> Ajf, mem_append -> ĉ, mem_cons -> Ϧ, filter_cons_of_pos -> Ajg, filter_cons_of_neg -> Ajh, getElem_of_mem -> Aji, pairwise_iff_getElem -> Ajj, pairwise_cons -> Ajk, take_zero -> ë, any_eq_true -> Ajl, getElem?_take -> ĕ, any_eq_false -> Ajn, take_succ_cons -> ê, drop_succ_cons -> ñ, drop_zero -> ò, length_drop -> Ű, mem_of_mem_take -> Ajp, mem_of_mem_drop -> Ajq, length_cons -> Ă, flatMap_append -> ă, setIfInBounds_toArray -> Ö, set_cons_zero -> Ø, take_append_drop -> Ajt, length_eraseIdx_of_lt -> Aju, getElem?_eraseIdx -> Ajv, mem_iff_getElem? -> Ajw
open Nat renaming le_refl -> ϊ, le_of_lt -> è, le_of_eq -> ú, zero_le -> Ϡ, mul_one -> Ī, le_trans -> ϡ, lt_succ_iff_lt_or_eq -> Æ
open Prod renaming fst -> Ď
open Bool renaming true -> θ, false -> χ
open Go renaming Value -> υ, undef -> ω, World -> Ψ
open Go.Ending renaming returned -> Ω
open Go.IntKind renaming i64 -> κ
open Go.Lib renaming hid -> ψ
open Go.Obj renaming cells -> Ξ
open Go.RowKit renaming Below -> Γ, Below -> Γ
open Go.Value renaming slice -> ζ, tuple -> μ, agg -> η, int -> ξ
open Option renaming some -> φ, none -> ν
variable{α β:Type}{o:Go.Oper}{L:Go.Tw.al}{x:Go.Tw.bN}{b:Go.Tw.eR}{e:Go.TypeId}{s aL:Int}{ys l:List Int}{xs:List υ}{n B i m c j rb k g t f cap:Nat}{w W w' w6 w3 w4:Ψ}{pv bv tv v u a kD v7:υ}
namespace Go.Tw
variable [Go.Tw.aK]
open Go Go.Proofs Go.RowKit
def cV(w:Ψ)(No:Nat->Prop)(sz:Nat)(R:α->List υ->Prop)(v:υ)(xs:List α):Prop:=
 ∃A c,v=ζ A xs.length c/\xs.length<=c/\c<=ϑ/\(xs≠ []->∃ad,A=φ ad/\ad.block<w.heap.size/\¬No ad.block/\
  ∀i x,xs[i]?=φ x->∃cs,R x cs/\cs.length=sz/\∀j u,cs[j]?=φ u-> w.cell? (ad.add (i * sz+j))=φ u)
section
variable {α:Type}{w w':Ψ}{No oz:Nat->Prop}{B sz:Nat}{R:α->List υ->Prop}{v:υ}{xs:List α}
def cV.grown{row:Option Nat}(h:cV w No sz R v xs)(hg:w.grownBy w' row)(hr:∀k,row=φ k->No k):cV w' No sz R v xs:=by
 obtain⟨A,c,hv,h1,h2,h3⟩:=h;refine⟨A,c,hv,h1,h2,λhx=>?_⟩
 obtain⟨ad,ha,hb,hn,hc⟩:=h3 hx;refine⟨ad,ha,Nat.lt_of_lt_of_le hb hg.size,hn,λi x hi=>?_⟩
 obtain⟨cs,r,hl,aq⟩:=hc i x hi;refine⟨cs,r,hl,λj u hu=>?_⟩
 refine(World.cell?_of_block (hg.block (ad.add (i * sz+j)).block (by rw[b9];exact hb) (λe=>hn ?_))).trans (aq j u hu)
 rw[b9] at e;exact hr _ e.symm
def Row.pU(h:Row w B sz R v xs)(hB:B<=w.heap.size)(hN:∀k,No k->B<=k):cV w No sz R v xs:=by
 obtain⟨A,c,hv,h1,h2,h3⟩:=h;refine⟨A,c,hv,h1,h2,λhx=>?_⟩
 obtain⟨ad,ha,hb,hc⟩:=h3 hx;exact⟨ad,ha,by omega,λhk=>by have:=hN _ hk;omega,hc⟩
def Row.mem(h:Row w B sz R v xs):∀x∈xs,∃cs,R x cs:=λx hx=>by
 obtain⟨A,c,hv,h1,h2,h3⟩:=h;obtain⟨i,hi⟩:=Ai3 hx
 obtain⟨ad,ha,hb,hc⟩:=h3 (by intro e;subst e;simp at hi)
 obtain⟨cs,r,_⟩:=hc i x hi;exact⟨cs,r⟩
def cV.row(h:cV w No sz R v xs):Row w w.heap.size sz R v xs:=by
 obtain⟨A,c,hv,h1,h2,h3⟩:=h;refine⟨A,c,hv,h1,h2,λhx=>?_⟩
 obtain⟨ad,ha,hb,hn,hc⟩:=h3 hx;exact⟨ad,ha,hb,hc⟩
def cV.below(h:cV w No sz R v xs)(hb:Γ w.heap.size w w')(hN:∀k,oz k->No k\/w.heap.size<=k):cV w' oz sz R v xs:=by
 obtain⟨A,c,hv,h1,h2,h3⟩:=h;refine⟨A,c,hv,h1,h2,λhx=>?_⟩
 obtain⟨ad,ha,hl,hn,hc⟩:=h3 hx;refine⟨ad,ha,Nat.lt_of_lt_of_le hl hb.size,λhk=>?_,λi x hi=>?_⟩
 ·rcases hN _ hk with h|h
  ·exact hn h
  ·omega
 ·obtain⟨cs,r,pH,aq⟩:=hc i x hi
  exact⟨cs,r,pH,λj u hu=>(hb.cell (by rw[b9];exact hl)).trans (aq j u hu)⟩
def cV.weaken(h:cV w No sz R v xs)(hN:∀k,oz k->No k):cV w oz sz R v xs:=h.below (ώ _ _) (λk hk=>Or.inl (hN k hk))
def cV.tt{base:Nat}{f:α->List υ}(h:w.ownsRow base e sz v xs.length (xs.flatMap f))(hf:∀x,(f x).length=sz)(hR:∀x∈xs,R x (f x))(hN:∀k,No k->k<base):cV w No sz R v xs:=by
 obtain⟨A,c,hv,h1,h2,h3⟩:=mZ (R:=R) h hf hR;refine⟨A,c,hv,h1,h2,λhx=>?_⟩
 obtain⟨ad,ha,hb,hc⟩:=h3 hx;refine⟨ad,ha,hb,λhk=>?_,hc⟩
 have:=dX h ad.block (by rw[hv,ha];rfl)
 have:=hN _ hk;omega
end
def CY[Inhabited β]{sz:Nat}{R:α->List υ->Prop}{R':α×β->List υ->Prop}{xs:List α}(h:Row w B sz R v xs)(hR:∀x cs,R x cs->∃k,R' (x,k) cs):
 ∃ps:List (α×β),ps.map Ď=xs/\Row w B sz R' v ps:=by
 obtain⟨A,c,hv,h1,h2,h3⟩:=h;by_cases hx:xs=[]
 ·subst hx
  exact⟨[],rfl,A,c,hv,h1,h2,λh=>absurd rfl h⟩
 obtain⟨ad,ha,hb,hc⟩:=h3 hx;have hk:∀i,∃k:β,∀x,xs[i]?=φ x->∃cs,R' (x,k) cs/\cs.length=sz/\∀j u,cs[j]?=φ u-> w.cell? (ad.add (i * sz+j))=φ u:=λi=>by
  cases e:xs[i]? with
  |none=>exact⟨default,λx hx=>by cases hx⟩
  |some x=>
   obtain⟨cs,r,hl,aq⟩:=hc i x e;obtain⟨k,hk⟩:=hR x cs r;exact⟨k,λy hy=>by injection hy with hy;subst hy;exact⟨cs,hk,hl,aq⟩⟩
 obtain⟨K,hK⟩:=Classical.axiomOfChoice hk;refine⟨xs.mapIdx λi x=>(x,K i),?_,A,c,by simpa using hv,by simpa using h1,h2,λ_=>⟨ad,ha,hb,λi p hi=>?_⟩⟩
 ·apply List.ext_getElem?;intro i
  simp;cases xs[i]?<;>rfl
 ·simp only[List.getElem?_mapIdx] at hi
  cases e:xs[i]? with
  |none=>rw[e] at hi;cases hi
  |some x=>
   rw[e] at hi;simp at hi;subst hi
   exact hK i x e
instance:Inhabited υ:=⟨ζ ν 0 0⟩
def fX(p:Piece):List υ:=[.string p.name,ξ κ p.len.lo,ξ κ p.len.hi,ξ κ p.bears]
def fc(p:bN×υ):List υ:=[.string p.1.name,ξ κ p.1.aL,p.2]
def cE(p:Tape×υ):List υ:=[p.2,ξ κ p.1.sum.lo,ξ κ p.1.sum.hi]
def mh{base:Nat}{sz:Nat}{p:Addr}(h:w.ownsRow base e sz v n xs)(hp:∀k,v.ownBlock=φ k->p.block≠k):(w.setCell p u).ownsRow base e sz v n xs:=by
 refine⟨h.1,?_⟩
 rcases h.2 with h0| ⟨g,cap,cur,h1,h2,h3,h4⟩
 ·exact .inl h0
 ·exact .inr ⟨g,cap,cur,h1,h2,(Ô _ _ _ _ (by rw[h1] at hp;exact Ne.symm (hp g rfl))).trans h3,h4⟩
def UA{base:Nat}{sz:Nat}{row:Option Nat}(h:w.ownsRow base e sz v n xs)(hg:w.grownBy w' row)(hp:∀k,v.ownBlock=φ k->row≠φ k):w'.ownsRow base e sz v n xs:=by
 refine⟨h.1,?_⟩
 rcases h.2 with h0| ⟨g,cap,cur,h1,h2,h3,h4⟩
 ·exact .inl h0
 ·exact .inr ⟨g,cap,cur,h1,h2,(hg.block g (Array.getElem?_eq_some_iff.1 h3).1 (by rw[h1] at hp;exact Ne.symm (hp g rfl))).trans h3,h4⟩
def tx{base:Nat}{sz:Nat}(h:w.ownsRow base e sz v n xs)(k:Nat)(hk:v.ownBlock=φ k):k<w.heap.size:=by
 rcases h.2 with⟨h0,_⟩ | ⟨g,cap,cur,h1,h2,h3,h4⟩
 ·rw[h0] at hk;cases hk
 ·rw[h1] at hk;injection hk with hk;subst hk;exact(Array.getElem?_eq_some_iff.1 h3).1
def yq{base:Nat}{sz:Nat}{A:Option Addr}(h:w.ownsRow base e sz (ζ A m c) n xs):m=n:=by
 rcases h.2 with⟨h0,h1⟩ | ⟨g,cap,cur,h1,h2,h3,h4⟩
 ·injection h0 with _ h0;omega
 ·injection h1
def XU{base:Nat}{sz:Nat}{A:Option Addr}(h:w.ownsRow base e sz (ζ A m c) n xs):m<=c/\c<=2 ^ 63 - 1:=by
 rcases h.2 with⟨h0,h1⟩ | ⟨g,cap,cur,h1,h2,h3,h4,h5,_⟩
 ·injection h0 with _ h0 h2;omega
 ·injection h1 with _ h6 h7;unfold ϑ at h5;omega
def JG{base:Nat}{sz:Nat}{A:Option Addr}(h:w.ownsRow base e sz (ζ A m c) n xs)(hm:0<m):∃g,A=φ ⟨g,0,ν⟩:=by
 rcases h.2 with⟨h0,h1⟩ | ⟨g,cap,cur,h1,_⟩
 ·injection h0 with _ h0;omega
 ·injection h1 with h1;exact⟨g,h1⟩
def wY(w:Ψ)(p:Addr)(u:υ):w.grownBy (w.setCell p u) (φ p.block):=
 ⟨rfl,rfl,rfl,by simp,λk _ hk=>Ô _ _ _ _ (by intro e;exact hk (by rw[e]))⟩
def dK(F:Act->Ψ->Prop):Exit->Act->Ψ->Prop
 | .normal,a,w=>F a w
 |_,_,_=>False
def dK.imp{F:Act->Ψ->Prop}{Q:Exit->Act->Ψ->Prop}(h:∀a w,F a w->Q .normal a w):∀e a w,dK F e a w->Q e a w:=λe a w hf=>by
 cases e<;>first|exact h a w hf|exact(hf:False).elim
def sE(No:Nat->Prop)(g:Nat)(bv tv:υ)(k:Nat):Prop:=bv.ownBlock=φ k\/tv.ownBlock=φ k\/k=g+1\/No k
structure jJ(w:Ψ)(No:Nat->Prop)(b:eR)(pv bv tv:υ)(bs:List (bN×υ))(ts:List (Tape×υ)):Prop where
 p:cV w No 4 Piece.R pv b.pieces
 bo:cV w No 3 (λp cs=>cs=fc p) bv bs
 t:cV w No 3 (λp cs=>cs=cE p) tv ts
 mG:bs.map Ď=b.aC
 oh:ts.map Ď=b.aI
 kn:∀p∈bs,p.1.name.size<=ϑ/\cV w No 2 Span.R p.2 p.1.cM
 tp:∀p∈ts,cV w No 1 bI p.2 p.1.pieces
structure CI(No:Nat->Prop)(b:eR)(w W:Ψ)(g s1 s2:Nat)(pv bv tv:υ)(bs:List (bN×υ))(ts:List (Tape×υ)):Prop where
 box:Bk W g 26 #[ξ κ b.ab,pv,bv,tv]
 res:∃u0 u1 u2 u3,Bk W (g+1) 26 #[u0,u1,u2,u3]
 p:W.ownsRow (g+2) 72 4 pv b.pieces.length (b.pieces.flatMap fX)
 bo:W.ownsRow s1 59 3 bv bs.length (bs.flatMap fc)
 t:W.ownsRow s2 95 3 tv ts.length (ts.flatMap cE)
 mG:bs.map Ď=b.aC
 oh:ts.map Ď=b.aI
 kn:∀p∈bs,cV W (sE No g bv tv) 2 Span.R p.2 p.1.cM
 tp:∀p∈ts,cV W (sE No g bv tv) 1 bI p.2 p.1.pieces
 below:Γ g w W
 gz:g=w.heap.size
 g1:g+2<=s1
 g2:s1<=s2
 pl:∀k,pv.ownBlock=φ k->k<s1
 bl:∀k,bv.ownBlock=φ k->k<s2
def CI.grown{No:Nat->Prop}{b:eR}{w W W':Ψ}{g s1 s2:Nat}{pv bv tv:υ}{bs:List (bN×υ)}{ts:List (Tape×υ)}(h:CI No b w W g s1 s2 pv bv tv bs ts)(hg:W.grownBy W' ν):CI No b w W' g s1 s2 pv bv tv bs ts where
 box:=h.box.grown hg (by simp)
 res:=by obtain⟨u0,u1,u2,u3,hr⟩:=h.res;exact⟨u0,u1,u2,u3,hr.grown hg (by simp)⟩
 p:=UA h.p hg (by simp)
 bo:=UA h.bo hg (by simp)
 t:=UA h.t hg (by simp)
 mG:=h.mG
 oh:=h.oh
 kn p hp:=(h.kn p hp).grown hg (by simp)
 tp p hp:=(h.tp p hp).grown hg (by simp)
 below:=h.below.grown hg (by have:=h.box.lt;omega) (by simp)
 gz:=h.gz
 g1:=h.g1
 g2:=h.g2
 pl:=h.pl
 bl:=h.bl
def YD{x:bN}{kv kD:υ}:∀ {bs:List (bN×υ)} {i:Nat},bs[i]?=φ (x,kv)->(bs.flatMap fc).set (i * 3+2) kD=(bs.set i (x,kD)).flatMap fc
 | [],i,h=>by simp at h
 |a::l,0,h=>by simp at h;subst h;simp[fc]
 |a::l,i+1,h=>by
  have e:(i+1) * 3+2=(i * 3+2)+1+1+1:=by omega
  have ih:=YD (kD:=kD) (bs:=l) (i:=i) (by simpa using h)
  rw[e,Ġ];simp only[fc,List.cons_append,ì,Ì,Ġ];congr 3
def YE{x:Tape}{kv kD:υ}:∀ {ts:List (Tape×υ)} {i:Nat},ts[i]?=φ (x,kv)->(ts.flatMap cE).set (i * 3) kD=(ts.set i (x,kD)).flatMap cE
 | [],i,h=>by simp at h
 |a::l,0,h=>by simp at h;subst h;simp[cE]
 |a::l,i+1,h=>by
  have e:(i+1) * 3=(i * 3)+1+1+1:=by omega
  have ih:=YE (kD:=kD) (ts:=l) (i:=i) (by simpa using h)
  rw[e,Ġ];simp only[cE,List.cons_append,ì,Ì,Ġ];congr 3
def PJ{α β:Type}:∀ {l:List (α×β)} {i:Nat} {x:α} {y y':β},l[i]?=φ (x,y)->(l.set i (x,y')).map Ď=l.map Ď
 | [],i,x,y,y',h=>by simp at h
 |a::l,0,x,y,y',h=>by simp at h;subst h;simp
 |a::l,i+1,x,y,y',h=>by
  rw[Ì,List.map_cons,PJ (l:=l) (y:=y) (by simpa using h),List.map_cons]
def mem_set{l:List α}{a x:α}(h:x∈l.set i a):x∈l\/x=a:=List.mem_or_eq_of_mem_set h
section
variable {No:Nat->Prop}{b:eR}{w W:Ψ}{g s1 s2:Nat}{pv bv tv:υ}{bs:List (bN×υ)}{ts:List (Tape×υ)}
def CI.aoU{kv:υ}(h:CI No b w W g s1 s2 pv (ζ (φ ⟨rb,0,ν⟩) n c) tv bs ts)(hx:bs[i]?=φ (x,kv))(hk:cV W (sE No g (ζ (φ ⟨rb,0,ν⟩) n c) tv) 2 Span.R kD x.cM):
 CI No b w (W.setCell ⟨rb,i * 3+2,ν⟩ kD) g s1 s2 pv (ζ (φ ⟨rb,0,ν⟩) n c) tv (bs.set i (x,kD)) ts:=by
 have hn:n=bs.length:=by
  rcases h.bo.2 with⟨h0,_⟩ | ⟨g',ze,cur,h1,_⟩
  ·cases h0
  ·injection h1
 have ai:=dX h.bo rb rfl;have an:=h.bl rb rfl;have g1:=h.g1;have hi:=(Ϯ.1 hx).1
 have hG:=wY W ⟨rb,i * 3+2,ν⟩ kD;have hN:∀k,φ rb=φ k->sE No g (ζ (φ ⟨rb,0,ν⟩) n c) tv k:=λk e=>Or.inl e
 refine⟨h.box.dV (by simp;omega) _,(by obtain⟨u0,u1,u2,u3,hr⟩:=h.res;exact⟨u0,u1,u2,u3,hr.dV (by simp;omega) _⟩),mh h.p (λk e=>by have:=h.pl k e;simp;omega),?_,mh h.t (λk e=>by have:=dX h.t k e;simp;omega),?_,h.oh,?_,λp hp=>(h.tp p hp).grown hG hN,h.below.setCell (by simp;omega) _,h.gz,h.g1,h.g2,h.pl,h.bl⟩
 ·have:=h.bo
  rw[<-hn] at this;rw[List.length_set,<-hn,<-YD hx];exact yu this (by omega)
 ·rw[PJ hx];exact h.mG
 ·intro p hp
  rcases mem_set hp with hp|rfl
  ·exact(h.kn p hp).grown hG hN
  ·exact hk.grown hG hN
def CI.aoW{x:Tape}{kv:υ}(h:CI No b w W g s1 s2 pv bv (ζ (φ ⟨rb,0,ν⟩) n c) bs ts)(hx:ts[i]?=φ (x,kv))(hk:cV W (sE No g bv (ζ (φ ⟨rb,0,ν⟩) n c)) 1 bI kD x.pieces):
 CI No b w (W.setCell ⟨rb,i * 3,ν⟩ kD) g s1 s2 pv bv (ζ (φ ⟨rb,0,ν⟩) n c) bs (ts.set i (x,kD)):=by
 have hn:n=ts.length:=by
  rcases h.t.2 with⟨h0,_⟩ | ⟨g',ze,cur,h1,_⟩
  ·cases h0
  ·injection h1
 have ai:=dX h.t rb rfl;have g1:=h.g1;have g2:=h.g2;have hi:=(Ϯ.1 hx).1
 have hG:=wY W ⟨rb,i * 3,ν⟩ kD;have hN:∀k,φ rb=φ k->sE No g bv (ζ (φ ⟨rb,0,ν⟩) n c) k:=λk e=>Or.inr (Or.inl e)
 refine⟨h.box.dV (by simp;omega) _,(by obtain⟨u0,u1,u2,u3,hr⟩:=h.res;exact⟨u0,u1,u2,u3,hr.dV (by simp;omega) _⟩),mh h.p (λk e=>by have:=h.pl k e;simp;omega),mh h.bo (λk e=>by have:=h.bl k e;simp;omega),?_,h.mG,?_,λp hp=>(h.kn p hp).grown hG hN,?_,h.below.setCell (by simp;omega) _,h.gz,h.g1,h.g2,h.pl,h.bl⟩
 ·have:=h.t
  rw[<-hn] at this;rw[List.length_set,<-hn,<-YE hx];exact yu this (by omega)
 ·rw[PJ hx];exact h.oh
 ·intro p hp
  rcases mem_set hp with hp|rfl
  ·exact(h.tp p hp).grown hG hN
  ·exact hk.grown hG hN
def Bk.drew{w:Ψ}{g:Nat}{t:ό}{cs:Array υ}(h:Bk w g t cs):Bk w.drew g t cs:=h
def CI.start{W0 W:Ψ}{q1 q2 q3:υ}(h3:Γ W0.heap.size W0 w3)(h4:Γ w3.heap.size w3 w4)(h5:Γ w4.heap.size w4 W)(hz:w.heap.size+2<=W0.heap.size)
 (kb:Bk W w.heap.size 26 #[ξ κ b.ab,q1,q2,q3])(kr:Bk W (w.heap.size+1) 26 #[ξ κ 0,ζ ν 0 0,ζ ν 0 0,ζ ν 0 0])
 (o9:w3.ownsRow W0.heap.size 72 4 pv b.pieces.length (b.pieces.flatMap fX))(nW:w4.ownsRow w3.heap.size 59 3 bv bs.length (bs.flatMap fc))(CO:W.ownsRow w4.heap.size 95 3 tv ts.length (ts.flatMap cE))
 (fC:bs.map Ď=b.aC)(eK:ts.map Ď=b.aI)(hb:∀p∈bs,cV w No 2 Span.R p.2 p.1.cM)(ht:∀p∈ts,cV w No 1 bI p.2 p.1.pieces)(qp:∀k,No k->k<w.heap.size)(bd:Γ w.heap.size w W0):
 CI No b w (((W.setCell ⟨w.heap.size,1,ν⟩ pv).setCell ⟨w.heap.size,2,ν⟩ bv).setCell ⟨w.heap.size,3,ν⟩ tv) w.heap.size w3.heap.size w4.heap.size pv bv tv bs ts:=by
 have e3:=h3.size;have e4:=h4.size;have e5:=h5.size;have bW:Γ w.heap.size w W:=((bd.trans (h3.mono (by omega))).trans (h4.mono (by omega))).trans (h5.mono (by omega))
 have bF:Γ w.heap.size w (((W.setCell ⟨w.heap.size,1,ν⟩ pv).setCell ⟨w.heap.size,2,ν⟩ bv).setCell ⟨w.heap.size,3,ν⟩ tv):=((bW.setCell (ϊ _) _).setCell (ϊ _) _).setCell (ϊ _) _;have l9:=tx o9;have l12:=tx nW;have g9:=dX o9;have g12:=dX nW;have g15:=dX CO;have hN:∀k,sE No w.heap.size bv tv k->No k\/w.heap.size<=k:=λk hk=>by
  rcases hk with hk|hk|hk|hk
  ·have:=g12 k hk;omega
  ·have:=g15 k hk;omega
  ·omega
  ·exact Or.inl hk
 have p9:W.ownsRow W0.heap.size 72 4 pv b.pieces.length (b.pieces.flatMap fX):=si (si o9 h4 (ϊ _)) h5 (ϊ _);have F5:W.ownsRow w3.heap.size 59 3 bv bs.length (bs.flatMap fc):=si nW h5 (ϊ _);refine⟨?_,⟨_,_,_,_,((kr.dV (by simp) _).dV (by simp) _).dV (by simp) _⟩,?_,?_,?_,fC,eK,λp hp=>(hb p hp).below bF hN,λp hp=>(ht p hp).below bF hN,bF,rfl,by omega,by omega,l9,l12⟩
 ·exact((kb.set 1 pv).set 2 bv).set 3 tv
 ·exact(mh (mh (mh p9 (λk e=>by have:=g9 k e;simp;omega)) (λk e=>by have:=g9 k e;simp;omega)) (λk e=>by have:=g9 k e;simp;omega)).base hz
 ·exact mh (mh (mh F5 (λk e=>by have:=g12 k e;simp;omega)) (λk e=>by have:=g12 k e;simp;omega)) (λk e=>by have:=g12 k e;simp;omega)
 ·exact mh (mh (mh CO (λk e=>by have:=g15 k e;simp;omega)) (λk e=>by have:=g15 k e;simp;omega)) (λk e=>by have:=g15 k e;simp;omega)
def CI.He{p:bN×υ}(h:CI No b w W g s1 s2 pv (ζ (φ ⟨rb,0,ν⟩) n c) tv bs ts)(hx:bs[i]?=φ p)(hu:(fc p)[j]?=φ u): W.cell? ⟨rb,i * 3+j,ν⟩=φ u:=by
 have hn:=yq h.bo;have h2:=h.bo;rw[<-hn] at h2;have:=vK h2 _ _ (Hr (f:=fc) (sz:=3) (λ_=>rfl) bs i _ j u hx hu)
 rwa[kP] at this
def CI.Hf{p:Tape×υ}(h:CI No b w W g s1 s2 pv bv (ζ (φ ⟨rb,0,ν⟩) n c) bs ts)(hx:ts[i]?=φ p)(hu:(cE p)[j]?=φ u): W.cell? ⟨rb,i * 3+j,ν⟩=φ u:=by
 have hn:=yq h.t;have h2:=h.t;rw[<-hn] at h2;have:=vK h2 _ _ (Hr (f:=cE) (sz:=3) (λ_=>rfl) ts i _ j u hx hu)
 rwa[kP] at this
def CI.aga(h:CI No b w W g s1 s2 pv (ζ (φ ⟨rb,0,ν⟩) n c) tv bs ts)(i:Nat): W.frozen? ⟨rb,i,ν⟩=χ:=by
 rcases h.bo.2 with⟨h0,_⟩ | ⟨g',ze,cur,h1,_,h3,_⟩
 ·cases h0
 ·injection h1 with h1;injection h1 with h1;injection h1 with h1;subst h1
  rw[Go.Sim.zp (a:=⟨rb,i,ν⟩) h3];rfl
def CI.agb(h:CI No b w W g s1 s2 pv bv (ζ (φ ⟨rb,0,ν⟩) n c) bs ts)(i:Nat): W.frozen? ⟨rb,i,ν⟩=χ:=by
 rcases h.t.2 with⟨h0,_⟩ | ⟨g',ze,cur,h1,_,h3,_⟩
 ·cases h0
 ·injection h1 with h1;injection h1 with h1;injection h1 with h1;subst h1
  rw[Go.Sim.zp (a:=⟨rb,i,ν⟩) h3];rfl
def CI.J3(h:CI No b w W g s1 s2 pv bv tv bs ts)(hi:i<4):CI No b w (W.setCell ⟨g+1,i,ν⟩ u) g s1 s2 pv bv tv bs ts:=by
 have g1:=h.g1;have g2:=h.g2;have hG:=wY W ⟨g+1,i,ν⟩ u;have hN:∀k,φ (g+1)=φ k->sE No g bv tv k:=λk e=>Or.inr (Or.inr (Or.inl (by injection e with e;exact e.symm)))
 refine⟨h.box.dV (by simp) _,?_,mh h.p (λk e=>by have:=dX h.p k e;simp;omega),mh h.bo (λk e=>by have:=dX h.bo k e;simp;omega),mh h.t (λk e=>by have:=dX h.t k e;simp;omega),h.mG,h.oh,λp hp=>(h.kn p hp).grown hG hN,λp hp=>(h.tp p hp).grown hG hN,h.below.setCell (by simp) _,h.gz,h.g1,h.g2,h.pl,h.bl⟩
 obtain⟨u0,u1,u2,u3,hr⟩:=h.res;have:=hr.set i u;match i,hi with
 |0,_=>exact⟨u,u1,u2,u3,this⟩
 |1,_=>exact⟨u0,u,u2,u3,this⟩
 |2,_=>exact⟨u0,u1,u,u3,this⟩
 |3,_=>exact⟨u0,u1,u2,u,this⟩
def tD{w:Ψ}{sz:Nat}{R':α×β->List υ->Prop}{R:α->List υ->Prop}{ps:List (α×β)}(h:Row w B sz R' v ps)(hR:∀p∈ps,∀cs,R' p cs->R p.1 cs):Row w B sz R v (ps.map Ď):=by
 obtain⟨A,c,hv,h1,h2,h3⟩:=h;refine⟨A,c,by rw[ü];exact hv,by rw[ü];exact h1,h2,λaw=>?_⟩
 obtain⟨ad,ha,hb,hc⟩:=h3 (by intro e;rw[e] at aw;exact aw rfl)
 refine⟨ad,ha,hb,λi x hi=>?_⟩
 rw[Š] at hi
 cases e:ps[i]? with
 |none=>rw[e] at hi;cases hi
 |some p=>
  rw[e] at hi;simp at hi;subst hi
  obtain⟨cs,r,hl,aq⟩:=hc i p e;exact⟨cs,hR p (Ϩ e) cs r,hl,aq⟩
def CI.acQ(h:CI No b w W g s1 s2 pv bv tv bs ts)(hp:∀p∈b.pieces,p.name.size<=ϑ)(hx:∀x∈b.aC,x.name.size<=ϑ)(qp:∀k,No k->k<g):jJ W No b pv bv tv bs ts:=by
 have g1:=h.g1;have g2:=h.g2;refine⟨cV.tt h.p (λ_=>rfl) (λp hm=>⟨rfl,hp p hm⟩) (λk hk=>by have:=qp k hk;omega),cV.tt h.bo (λ_=>rfl) (λp hm=>rfl) (λk hk=>by have:=qp k hk;omega),cV.tt h.t (λ_=>rfl) (λp hm=>rfl) (λk hk=>by have:=qp k hk;omega),h.mG,h.oh,λp hm=>⟨hx p.1 ?_,(h.kn p hm).weaken λk hk=>Or.inr (Or.inr (Or.inr hk))⟩,λp hm=>(h.tp p hm).weaken λk hk=>Or.inr (Or.inr (Or.inr hk))⟩
 rw[<-h.mG];exact ó.2 ⟨p,hm,rfl⟩
def jJ.grown{W':Ψ}{row:Option Nat}(h:jJ W No b pv bv tv bs ts)(hg:W.grownBy W' row)(hr:∀k,row=φ k->No k):jJ W' No b pv bv tv bs ts:=
 ⟨h.p.grown hg hr,h.bo.grown hg hr,h.t.grown hg hr,h.mG,h.oh,λp hp=>⟨(h.kn p hp).1,(h.kn p hp).2.grown hg hr⟩,λp hp=>(h.tp p hp).grown hg hr⟩
def jJ.book(h:jJ W No b pv bv tv bs ts):aQ W W.heap.size b pv bv tv:=by
 refine⟨h.p.row,?_,?_⟩
 ·rw[<-h.mG]
  exact tD h.bo.row (λp hm cs hc=>⟨p.2,hc,(h.kn p hm).1,(h.kn p hm).2.row⟩)
 ·rw[<-h.oh]
  exact tD h.t.row (λp hm cs hc=>⟨p.2,hc,(h.tp p hm).row⟩)
def aQ.pU{B:Nat}(h:aQ W B b pv bv tv)(hB:B<=W.heap.size)(hN:∀k,No k->B<=k):∃bs ts,jJ W No b pv bv tv bs ts:=by
 obtain⟨bs,fC,zL⟩:=CY (R':=λ(p:bN×υ) cs=>cs=fc p/\p.1.name.size<=ϑ/\Row W B 2 Span.R p.2 p.1.cM) h.aC (λx cs ⟨kv,h1,h2,h3⟩=>⟨kv,h1,h2,h3⟩)
 obtain⟨ts,eK,kB⟩:=CY (R':=λ(p:Tape×υ) cs=>cs=cE p/\Row W B 1 bI p.2 p.1.pieces) h.aI (λx cs ⟨kv,h1,h3⟩=>⟨kv,h1,h3⟩)
 have mO:∀p∈bs,p.1.name.size<=ϑ/\Row W B 2 Span.R p.2 p.1.cM:=λp hp=>by obtain⟨cs,h1,h2⟩:=zL.mem p hp;exact h2
 have iF:∀p∈ts,Row W B 1 bI p.2 p.1.pieces:=λp hp=>by obtain⟨cs,h1,h2⟩:=kB.mem p hp;exact h2
 exact⟨bs,ts,h.pieces.pU hB hN,(zL.still (Δ.refl W) λ_ _ h=>h.1).pU hB hN,(kB.still (Δ.refl W) λ_ _ h=>h.1).pU hB hN,fC,eK,λp hp=>⟨(mO p hp).1,(mO p hp).2.pU hB hN⟩,λp hp=>(iF p hp).pU hB hN⟩
end
def X3(x:Piece):∀u∈fX x,u.oneCell'=θ:=by simp[fX,Value.oneCell']
def ajw(x:Int):∀u∈ [ξ κ x],u.oneCell'=θ:=by simp[Value.oneCell']
def apI(x:Span):∀u∈Span.vs x,u.oneCell'=θ:=by simp[Span.vs,Value.oneCell']
def LG(v:υ):Prop:=∃A n c,v=ζ A n c
def ld{base:Nat}{sz:Nat}(h:w.ownsRow base e sz v n xs):LG v:=iI h
def copied{No:Nat->Prop}{bs:List (bN×υ)}{ts:List (Tape×υ)}(hN:jJ w No b pv bv tv bs ts)(qp:∀k,No k->k<w.heap.size)(hv:Valid b):
 ύ prog 136 #[η #[ξ κ b.ab,pv,bv,tv]] w λe w'=>∃fE gH ez lT nh,e=Ω (η #[ξ κ b.ab,fE,gH,ez])/\jJ w' No b fE gH ez lT nh/\Γ w.heap.size w w':=by
 have ah:=hN.book;have HP:Hid (Row w w.heap.size 4 (λx cs=>cs=fX x) pv b.pieces):=ψ (ah.pieces.still (Δ.refl w) λ_ _ h=>h.1)
 have fC:=hN.mG;have eK:=hN.oh;have mO:∀p∈bs,cV w No 2 Span.R p.2 p.1.cM:=λp hp=>(hN.kn p hp).2
 have iF:∀p∈ts,cV w No 1 bI p.2 p.1.pieces:=hN.tp
 have ZJ:Hid (∀p∈b.pieces,p.name.size<=ϑ):=ψ (λp hp=>by obtain⟨cs,h1,h2⟩:=ah.pieces.mem p hp;exact h2)
 have ZS:Hid (∀x∈b.aC,x.name.size<=ϑ):=ψ (λp hp=>by obtain⟨cs,kv,h1,h2,h3⟩:=ah.aC.mem p hp;exact h2)
 have uI:Hid (Row w w.heap.size 3 (λp cs=>cs=fc p) bv bs):=ψ hN.bo.row
 have Bj:Hid (Row w w.heap.size 3 (λp cs=>cs=cE p) tv ts):=ψ hN.t.row
 have rj:=ψ qp;have hB:w.heap.size<=w.heap.size:=ϊ _;have Ew:∀p∈bs,∀u∈fc p,u.oneCell'=θ:=λp hp u hu=>by
  obtain⟨A,c,e,_⟩:=(mO p hp);simp[fc] at hu;rcases hu with rfl|rfl|rfl
  ·rfl
  ·rfl
  ·rw[e];rfl
 have Fe:∀p∈ts,∀u∈cE p,u.oneCell'=θ:=λp hp u hu=>by
  obtain⟨A,c,e,_⟩:=iF p hp;simp[cE] at hu;rcases hu with rfl|rfl|rfl
  ·rw[e];rfl
  ·rfl
  ·rfl
 have gU:bs.length=b.aC.length:=by rw[<-fC,ü]
 have nR:ts.length=b.aI.length:=by rw[<-eK,ü]
 have C1:Hid (∀w',Δ w.heap.size w w'->w.heap.size<=w'.heap.size->ύ prog 155 #[pv] w' λe bz=>∃v',e=Ω v'/\bz.ownsRow w'.heap.size 72 4 v' b.pieces.length (b.pieces.flatMap fX)/\Γ w'.heap.size w' bz):=
  ψ λw' hs hz=>Ty (HP.e.still hs λ_ _ h=>h) hz (λ_=>rfl) (λp _=>X3 p) (by have:=hv.np;omega)
 have C2:Hid (∀w',Δ w.heap.size w w'->w.heap.size<=w'.heap.size->ύ prog 135 #[bv] w' λe bz=>∃v',e=Ω v'/\bz.ownsRow w'.heap.size 59 3 v' bs.length (bs.flatMap fc)/\Γ w'.heap.size w' bz):=
  ψ λw' hs hz=>Tx (uI.e.still hs λ_ _ h=>h) hz (λ_=>rfl) Ew (by have:=hv.nb;omega)
 have C3:Hid (∀w',Δ w.heap.size w w'->w.heap.size<=w'.heap.size->ύ prog 158 #[tv] w' λe bz=>∃v',e=Ω v'/\bz.ownsRow w'.heap.size 95 3 v' ts.length (ts.flatMap cE)/\Γ w'.heap.size w' bz):=
  ψ λw' hs hz=>Tz (Bj.e.still hs λ_ _ h=>h) hz (λ_=>rfl) Fe (by have:=hv.nt;omega)
 have HM:=ψ (Ϗ mO (Ϗ iF (Ϗ fC (Ϗ eK (Ϗ gU nR)))));obtain⟨A1,n1,c1,rfl,-⟩:=ah.pieces.Φ;obtain⟨A2,n2,c2,rfl,-⟩:=ah.aC.Φ;obtain⟨A3,n3,c3,rfl,-⟩:=ah.aI.Φ;have HV:=ψ hv;clear ah hv mO iF Ew Fe fC eK gU nR hN qp;go_enter func136,Tryz.ntmps136;go_wp2;obtain⟨W0,bY⟩:∃W0,W0=((w.alloc (Ξ #[ξ κ b.ab,ζ A1 n1 c1,ζ A2 n2 c2,ζ A3 n3 c3] 26)).alloc (Ξ #[ξ κ 0,ζ ν 0 0,ζ ν 0 0,ζ ν 0 0] 26)):=⟨_,rfl⟩
 rw[<-bY];have kb:Bk W0 w.heap.size 26 #[ξ κ b.ab,ζ A1 n1 c1,ζ A2 n2 c2,ζ A3 n3 c3]:=by rw[bY];exact(Bk.new w _ _).alloc _
 have kr:Bk W0 (w.heap.size+1) 26 #[ξ κ 0,ζ ν 0 0,ζ ν 0 0,ζ ν 0 0]:=by rw[bY];exact Bk.bZ (by simp) _ _
 have bw:Γ w.heap.size w W0:=by rw[bY];exact(((ώ _ _).alloc (ϊ _) _).alloc (by simp) _)
 have cK:W0.heap.size=w.heap.size+2:=by rw[bY];simp
 have KB:=ψ (Ϗ kb kr);have BW:=ψ bw;have k1:=kb.cell 1;have k2:=kb.cell 2;have k3:=kb.cell 3;clear bY kb kr bw;have KD:Hid (Bk W0.drew w.heap.size 26 #[ξ κ b.ab,ζ A1 n1 c1,ζ A2 n2 c2,ζ A3 n3 c3]):=ψ KB.e.1;have BD:Hid (Γ w.heap.size w W0.drew):=ψ (dT BW.e);have ZD:w.heap.size<W0.drew.heap.size:=KD.e.lt;have SB:Hid (∀w',Γ w.heap.size w w'->Δ w.heap.size w w'/\w.heap.size<=w'.heap.size):=ψ λw' h=>⟨Δ.aJ h hB,by have:=h.size;omega⟩
 refine Code.wp_mono (Q:=dK λa W=>∃A9 n9 c9 kL gM c12 qW n15 c15,a={tmps:=#[Value.agg #[Ϝ ϙ b.ab,Value.slice A1 n1 c1,Value.slice A2 n2 c2,Value.slice A3 n3 c3],Value.pointer (φ {block:=w.heap.size,off:=0}),Value.pointer (φ {block:=w.heap.size+1,off:=0}),ω,ω,ω,ω,Value.pointer (φ {block:=w.heap.size,off:=1}),Value.slice A1 n1 c1,Value.slice A9 n9 c9,Value.pointer (φ {block:=w.heap.size,off:=2}),Value.slice A2 n2 c2,Value.slice kL gM c12,Value.pointer (φ {block:=w.heap.size,off:=3}),Value.slice A3 n3 c3,Value.slice qW n15 c15,Value.pointer (φ {block:=w.heap.size,off:=1}),Value.pointer (φ {block:=w.heap.size,off:=2}),Value.pointer (φ {block:=w.heap.size,off:=3}),ω,ω,ω,ω,ω,ω,ω,ω,ω,ω,ω,ω,ω,ω,ω,ω,ω,ω,ω,ω,ω,ω,ω,ω,ω,ω,ω,ω,ω,ω,ω,ω,ω,ω,ω],defers:=[]}/\Hid (∃s1 s2,CI No b w W w.heap.size s1 s2 (ζ A9 n9 c9) (ζ kL gM c12) (ζ qW n15 c15) bs ts)) ?post ?region
 case region=>
  go_region_with (first
   | (go_at_call 155
      refine(C1.e _ ?h1 ?h2).mono ?_
      case h1=>exact(SB.e _ BD.e).1
      case h2=>exact(SB.e _ BD.e).2
      rintro e w3 ⟨v9,rfl,o9,bK⟩;have k1: w3.cell? ⟨w.heap.size,1,ν⟩=φ (ζ A1 n1 c1):=(KD.e.below bK ZD).cell 1;have k2: w3.cell? ⟨w.heap.size,2,ν⟩=φ (ζ A2 n2 c2):=(KD.e.below bK ZD).cell 2;have k3: w3.cell? ⟨w.heap.size,3,ν⟩=φ (ζ A3 n3 c3):=(KD.e.below bK ZD).cell 3;have dR:=ψ bK;have O9:=ψ o9;obtain⟨A9,n9,c9,rfl⟩:=ld o9;clear bK o9)
   | (go_at_call 135
      refine(C2.e _ ?h1 ?h2).mono ?_
      case h1=>exact(SB.e _ (BD.e.trans (dR.e.mono (è ZD)))).1
      case h2=>exact(SB.e _ (BD.e.trans (dR.e.mono (è ZD)))).2
      rintro e w4 ⟨v12,rfl,nW,cU⟩;have k3: w4.cell? ⟨w.heap.size,3,ν⟩=φ (ζ A3 n3 c3):=((KD.e.below dR.e ZD).below cU (by have:=dR.e.size;omega)).cell 3
      have jK:=ψ cU;have rA:=ψ nW;obtain⟨kL,gM,c12,rfl⟩:=ld nW;clear cU nW)
   | (go_at_call 158
      refine(C3.e _ ?h1 ?h2).mono ?_
      case h1=>exact(SB.e _ ((BD.e.trans (dR.e.mono (è ZD))).trans (jK.e.mono (by have:=dR.e.size;omega)))).1
      case h2=>exact(SB.e _ ((BD.e.trans (dR.e.mono (è ZD))).trans (jK.e.mono (by have:=dR.e.size;omega)))).2
      rintro e w5 ⟨v15,rfl,CO,dB⟩;have wD:Hid (Bk w5 w.heap.size 26 #[ξ κ b.ab,ζ A1 n1 c1,ζ A2 n2 c2,ζ A3 n3 c3]):=ψ (((KD.e.below dR.e ZD).below jK.e (by have:=dR.e.size;omega)).below dB (by have:=dR.e.size;have:=jK.e.size;omega))
      have z5:w.heap.size<w5.heap.size:=wD.e.lt;have f1: w5.frozen? ⟨w.heap.size,1,ν⟩=χ:=wD.e.frozen 1;have f2: w5.frozen? ⟨w.heap.size,2,ν⟩=χ:=wD.e.frozen 2;have f3: w5.frozen? ⟨w.heap.size,3,ν⟩=χ:=wD.e.frozen 3;have k1: w5.cell? ⟨w.heap.size,1,ν⟩=φ (ζ A1 n1 c1):=wD.e.cell 1;have k2: w5.cell? ⟨w.heap.size,2,ν⟩=φ (ζ A2 n2 c2):=wD.e.cell 2;have k3: w5.cell? ⟨w.heap.size,3,ν⟩=φ (ζ A3 n3 c3):=wD.e.cell 3;have fS:=ψ dB;have ZV:=ψ CO;obtain⟨qW,n15,c15,rfl⟩:=ld CO;clear dB CO))
  all_goals
   show ∃_,_
   refine⟨_,_,_,_,_,_,_,_,_,rfl,ψ ⟨w3.heap.size,w4.heap.size,?_⟩⟩
   have e3:=dR.e.size;have e4:=jK.e.size;have hd0:w.heap.size+2<=W0.drew.heap.size:=ú cK.symm;refine CI.start (W:=w5) dR.e jK.e fS.e hd0 wD.e (((KB.e.2.drew.below dR.e (by omega)).below jK.e (by omega)).below fS.e (by omega)) O9.e rA.e ZV.e HM.e.2.2.1 HM.e.2.2.2.1 HM.e.1 HM.e.2.1 rj.e BD.e
 case post=>
  clear C1 C2 C3 KB KD BD BW HP k1 k2 k3 SB;refine dK.imp ?_
  rintro a W ⟨A9,n9,c9,kL,gM,c12,qW,n15,c15,rfl,s1,s2,HC⟩;have Vy:gM=bs.length:=yq HC.bo;have Vz:n15=ts.length:=yq HC.t;have asr:gM<=3:=by have:=HV.e.nb;have:=HM.e.2.2.2.2.1;omega
  have ast:n15<=4:=by have:=HV.e.nt;have:=HM.e.2.2.2.2.2;omega
  have k2: W.cell? ⟨w.heap.size,2,ν⟩=φ (ζ kL gM c12):=HC.box.cell 2;have arY:gM<=c12/\c12<=2 ^ 63 - 1:=XU HC.bo;have arZ:n15<=c15/\c15<=2 ^ 63 - 1:=XU HC.t;have HL:=ψ (Ϗ Vy Vz);clear Vy Vz;have HC:=ψ HC;rename_i Ld;clear Ld ZD cK;go_wp2;clear k2;go_loopw [22] (λu wr=>∃i:Nat,i<=gM/\u=ξ κ i/\Hid (∃lT,CI No b w wr w.heap.size s1 s2 (ζ A9 n9 c9) (ζ kL gM c12) (ζ qW n15 c15) lT ts)) (λu _=>gM - (ϗ u).toNat)
  case atStart=>exact⟨0,Ϡ _,rfl,ψ ⟨bs,HC.e⟩⟩
  case round=>
   obtain⟨i,hi,rfl,lT,hC⟩:=hrel;by_cases ao:i<gM
   ·obtain⟨rb,rfl⟩:=JG hC.bo (by omega)
    have vp:gM=lT.length:=yq hC.bo;obtain⟨⟨x,kv⟩,hx⟩:∃p,lT[i]?=φ p:=⟨_,Ã (by omega)⟩
    have cP:=hC.kn _ (Ϩ hx);simp only at cP;have hxs:x.cM.length<=3:=by
     have:x∈b.aC:=by rw[<-hC.mG];exact ó.2 ⟨_,Ϩ hx,rfl⟩
     exact(HV.e.bt x this).cM
    obtain⟨kn,vo⟩:∃k,k=x.cM:=⟨_,rfl⟩
    rw[<-vo] at cP hxs;obtain⟨m5,ta⟩:∃m,m=kn.length:=⟨_,rfl⟩
    obtain⟨A5,c5,rfl,-⟩:=id cP;rw[<-ta] at cP hxs hx;have g0: wr.cell? ⟨rb,i * 3,ν⟩=φ (.string x.name):=hC.He (j:=0) hx rfl;have g1: wr.cell? ⟨rb,i * 3+1,ν⟩=φ (ξ κ x.aL):=hC.He (j:=1) hx rfl;have g2: wr.cell? ⟨rb,i * 3+2,ν⟩=φ (ζ A5 m5 c5):=hC.He (j:=2) hx rfl;have nP:rb<wr.heap.size:=tx hC.bo rb rfl;have Cd:w.heap.size<rb:=by have:=dX hC.bo rb rfl;have:=hC.g1;omega
    have HX:=ψ (Ϗ hx (Ϗ vo ta));have Lo:=ψ cP;have sx:=ψ hC;clear hx cP hC vo ta vp;go_wp2;have pC:=sx.e.grown (W':=(wr.alloc (Ξ #[.string x.name,ξ κ x.aL,ζ A5 m5 c5] 59)).drew) (rH wr _ ν);have Lh:=ψ pC;have FG:(wr.alloc (Ξ #[.string x.name,ξ κ x.aL,ζ A5 m5 c5] 59)).drew.cell? ⟨w.heap.size,2,ν⟩=φ (ζ (φ ⟨rb,0,ν⟩) gM c12):=pC.box.cell 2;have En:(wr.alloc (Ξ #[.string x.name,ξ κ x.aL,ζ A5 m5 c5] 59)).drew.cell? ⟨wr.heap.size,2,ν⟩=φ (ζ A5 m5 c5):=(Bk.new wr _ _).cell 2;have aG:Hid (ύ prog 179 #[ζ A5 m5 c5] (wr.alloc (Ξ #[.string x.name,ξ κ x.aL,ζ A5 m5 c5] 59)).drew λe w'=>∃v',e=Ω v'/\
     cV w' (sE No w.heap.size (ζ (φ ⟨rb,0,ν⟩) gM c12) (ζ qW n15 c15)) 2 Span.R v' kn/\Γ (wr.alloc (Ξ #[.string x.name,ξ κ x.aL,ζ A5 m5 c5] 59)).drew.heap.size (wr.alloc (Ξ #[.string x.name,ξ κ x.aL,ζ A5 m5 c5] 59)).drew w'):=ψ (by
     have hk:=Lo.e.grown (w':=(wr.alloc (Ξ #[.string x.name,ξ κ x.aL,ζ A5 m5 c5] 59)).drew) (rH wr _ ν) (by simp)
     obtain⟨r0,r1,r2,r3,me⟩:=pC.res;refine(adQ hk.row (ϊ _) (λ_=>rfl) (λp _=>apI p) (by rw[<-HX.e.2.2];omega)).mono ?_
     rintro e w' ⟨v',rfl,ho,hb⟩;refine⟨v',rfl,cV.tt ho (λ_=>rfl) (λ_ _=>rfl) (λk hk=>?_),hb⟩
     rcases hk with hk|hk|hk|hk
     ·exact tx pC.bo k hk
     ·exact tx pC.t k hk
     ·rw[hk];exact me.lt
     ·have:=rj.e k hk;have:=me.lt;omega)
    clear pC;go_region_held3 (λw'=> w'.cell? ⟨w.heap.size,2,ν⟩=φ (ζ (φ ⟨rb,0,ν⟩) gM c12)/\ w'.cell? ⟨wr.heap.size,2,ν⟩=φ (ζ A5 m5 c5))
     (first|exact⟨FG,En⟩ |exact⟨nT,an⟩ |exact⟨qM _,eu _⟩)
     (first
       | (go_at_call 179
          refine aG.e.mono ?_
          rintro e w5 ⟨v9,rfl,r9,jR⟩;obtain⟨A7,c7,rfl,-⟩:=id r9;have nT: w5.cell? ⟨w.heap.size,2,ν⟩=φ (ζ (φ ⟨rb,0,ν⟩) gM c12):=(jR.cell (by simp;omega)).trans FG
          have an: w5.cell? ⟨wr.heap.size,2,ν⟩=φ (ζ A5 m5 c5):=(jR.cell (by simp)).trans En
          have dg:=Lh.e.grown (jQ jR (ϊ _) ν);have hg: w5.cell? ⟨rb,i * 3+2,ν⟩=φ (ζ A5 m5 c5):=dg.He (j:=2) HX.e.1 rfl;have hf: w5.frozen? ⟨rb,i * 3+2,ν⟩=χ:=dg.aga _;have qM:∀u,(w5.setCell ⟨rb,i * 3+2,ν⟩ u).cell? ⟨w.heap.size,2,ν⟩=φ (ζ (φ ⟨rb,0,ν⟩) gM c12):=λu=>(Ů _ _ _ _ (by simp;omega)).trans nT
          have eu:∀u,(w5.setCell ⟨rb,i * 3+2,ν⟩ u).cell? ⟨wr.heap.size,2,ν⟩=φ (ζ A5 m5 c5):=λu=>(Ů _ _ _ _ (by simp;omega)).trans an
          have mz:=ψ (Ϗ r9 dg);clear jR r9 dg))
    go_wp2;go_roundw;case rel=>exact⟨i+1,by omega,by go_num,ψ ⟨_,mz.e.2.aoU HX.e.1 (by rw[<-HX.e.2.1];exact mz.e.1)⟩⟩
    case measure=>simp[ϗ];omega
   ·obtain rfl:i=gM:=by omega
    have Le:=ψ hC;obtain⟨wb,rfl⟩:∃wb:Ψ,wb=wr:=⟨_,rfl⟩
    have k3: wb.cell? ⟨w.heap.size,3,ν⟩=φ (ζ qW n15 c15):=hC.box.cell 3;clear hC;go_wp2;clear k3;go_loopw [39] (λu wr=>∃k:Nat,k<=n15/\u=ξ κ k/\Hid (∃nh,CI No b w wr w.heap.size s1 s2 (ζ A9 n9 c9) (ζ kL i c12) (ζ qW n15 c15) lT nh)) (λu _=>n15 - (ϗ u).toNat)
    case atStart=>exact⟨0,Ϡ _,rfl,ψ ⟨ts,Le.e⟩⟩
    case round=>
     obtain⟨k,hk,rfl,nh,hC⟩:=hrel;by_cases ao:k<n15
     ·obtain⟨rb,rfl⟩:=JG hC.t (by omega)
      have vp:n15=nh.length:=yq hC.t;obtain⟨⟨x,kv⟩,hx⟩:∃p,nh[k]?=φ p:=⟨_,Ã (by omega)⟩
      have cP:=hC.tp _ (Ϩ hx);simp only at cP;have hxs:x.pieces.length<=3:=by
       have:x∈b.aI:=by rw[<-hC.oh];exact ó.2 ⟨_,Ϩ hx,rfl⟩
       have:=(HV.e.tape x this).2;have:=HV.e.np;omega
      obtain⟨kn,vo⟩:∃k,k=x.pieces:=⟨_,rfl⟩
      rw[<-vo] at cP hxs;obtain⟨m5,ta⟩:∃m,m=kn.length:=⟨_,rfl⟩
      obtain⟨A5,c5,rfl,-⟩:=id cP;rw[<-ta] at cP hxs hx;have g0: wr.cell? ⟨rb,k * 3,ν⟩=φ (ζ A5 m5 c5):=hC.Hf (j:=0) hx rfl;have g1: wr.cell? ⟨rb,k * 3+1,ν⟩=φ (ξ κ x.sum.lo):=hC.Hf (j:=1) hx rfl;have g2: wr.cell? ⟨rb,k * 3+2,ν⟩=φ (ξ κ x.sum.hi):=hC.Hf (j:=2) hx rfl;have nP:rb<wr.heap.size:=tx hC.t rb rfl;have Cd:w.heap.size<rb:=by have:=dX hC.t rb rfl;have:=hC.g1;have:=hC.g2;omega
      have HX:=ψ (Ϗ hx (Ϗ vo ta));have Lo:=ψ cP;have sx:=ψ hC;clear hx cP hC vo ta vp;go_wp2;have pC:=sx.e.grown (W':=(wr.alloc (Ξ #[ζ A5 m5 c5,ξ κ x.sum.lo,ξ κ x.sum.hi] 95)).drew) (rH wr _ ν);have Lh:=ψ pC;have FG:(wr.alloc (Ξ #[ζ A5 m5 c5,ξ κ x.sum.lo,ξ κ x.sum.hi] 95)).drew.cell? ⟨w.heap.size,3,ν⟩=φ (ζ (φ ⟨rb,0,ν⟩) n15 c15):=pC.box.cell 3;have En:(wr.alloc (Ξ #[ζ A5 m5 c5,ξ κ x.sum.lo,ξ κ x.sum.hi] 95)).drew.cell? ⟨wr.heap.size,0,ν⟩=φ (ζ A5 m5 c5):=(Bk.new wr _ _).cell 0;have aG:Hid (ύ prog 180 #[ζ A5 m5 c5] (wr.alloc (Ξ #[ζ A5 m5 c5,ξ κ x.sum.lo,ξ κ x.sum.hi] 95)).drew λe w'=>∃v',e=Ω v'/\
               cV w' (sE No w.heap.size (ζ kL i c12) (ζ (φ ⟨rb,0,ν⟩) n15 c15)) 1 bI v' kn/\Γ (wr.alloc (Ξ #[ζ A5 m5 c5,ξ κ x.sum.lo,ξ κ x.sum.hi] 95)).drew.heap.size (wr.alloc (Ξ #[ζ A5 m5 c5,ξ κ x.sum.lo,ξ κ x.sum.hi] 95)).drew w'):=ψ (by
       have hk:=Lo.e.grown (w':=(wr.alloc (Ξ #[ζ A5 m5 c5,ξ κ x.sum.lo,ξ κ x.sum.hi] 95)).drew) (rH wr _ ν) (by simp)
       obtain⟨r0,r1,r2,r3,me⟩:=pC.res;refine(adL (f:=λn=> [ξ κ n]) hk.row (ϊ _) (λ_=>rfl) (λp _=>ajw p) (by rw[<-HX.e.2.2];omega)).mono ?_
       rintro e w' ⟨v',rfl,ho,hb⟩;refine⟨v',rfl,cV.tt ho (λ_=>rfl) (λ_ _=>rfl) (λk hk=>?_),hb⟩
       rcases hk with hk|hk|hk|hk
       ·exact tx pC.bo k hk
       ·exact tx pC.t k hk
       ·rw[hk];exact me.lt
       ·have:=rj.e k hk;have:=me.lt;omega)
      clear pC;go_region_held3 (λw'=> w'.cell? ⟨w.heap.size,3,ν⟩=φ (ζ (φ ⟨rb,0,ν⟩) n15 c15)/\ w'.cell? ⟨wr.heap.size,0,ν⟩=φ (ζ A5 m5 c5))
       (first|exact⟨FG,En⟩ |exact⟨nT,an⟩ |exact⟨qM _,eu _⟩)
       (first
               | (go_at_call 180
                  refine aG.e.mono ?_
                  rintro e w5 ⟨v9,rfl,r9,jR⟩;obtain⟨A7,c7,rfl,-⟩:=id r9;have nT: w5.cell? ⟨w.heap.size,3,ν⟩=φ (ζ (φ ⟨rb,0,ν⟩) n15 c15):=(jR.cell (by simp;omega)).trans FG
                  have an: w5.cell? ⟨wr.heap.size,0,ν⟩=φ (ζ A5 m5 c5):=(jR.cell (by simp)).trans En
                  have dg:=Lh.e.grown (jQ jR (ϊ _) ν);have hg: w5.cell? ⟨rb,k * 3,ν⟩=φ (ζ A5 m5 c5):=dg.Hf (j:=0) HX.e.1 rfl;have hf: w5.frozen? ⟨rb,k * 3,ν⟩=χ:=dg.agb _;have qM:∀u,(w5.setCell ⟨rb,k * 3,ν⟩ u).cell? ⟨w.heap.size,3,ν⟩=φ (ζ (φ ⟨rb,0,ν⟩) n15 c15):=λu=>(Ů _ _ _ _ (by simp;omega)).trans nT
                  have eu:∀u,(w5.setCell ⟨rb,k * 3,ν⟩ u).cell? ⟨wr.heap.size,0,ν⟩=φ (ζ A5 m5 c5):=λu=>(Ů _ _ _ _ (by simp;omega)).trans an
                  have mz:=ψ (Ϗ r9 dg);clear jR r9 dg))
      go_wp2;go_roundw;case rel=>exact⟨k+1,by omega,by go_num,ψ ⟨_,mz.e.2.aoW HX.e.1 (by rw[<-HX.e.2.1];exact mz.e.1)⟩⟩
      case measure=>simp[ϗ];omega
     ·obtain rfl:k=n15:=by omega
      have q0:=hC.box.cell 0;have q1:=hC.box.cell 1;have q2:=hC.box.cell 2;have q3:=hC.box.cell 3;obtain⟨r0,r1,r2,r3,me⟩:=hC.res;have p0:=me.cell 0;have p1:=me.cell 1;have p2:=me.cell 2;have p3:=me.cell 3;have f0:=me.frozen 0;have f1:=me.frozen 1;have f2:=me.frozen 2;have f3:=me.frozen 3;have sd:w.heap.size+1<wr.heap.size:=me.lt;have sx:=ψ hC;clear hC;have mf:=((((me.set 0 (ξ κ b.ab)).set 1 (ζ A9 n9 c9)).set 2 (ζ kL i c12)).set 3 (ζ qW k c15));have y0:=mf.cell 0;have y1:=mf.cell 1;have y2:=mf.cell 2;have y3:=mf.cell 3;have RN:=ψ ((((sx.e.J3 (i:=0) (u:=ξ κ b.ab) (by omega)).J3 (i:=1) (u:=ζ A9 n9 c9) (by omega)).J3 (i:=2) (u:=ζ kL i c12) (by omega)).J3 (i:=3) (u:=ζ qW k c15) (by omega))
      clear me mf;go_wp2;refine à (v:=η #[ξ κ b.ab,ζ A9 n9 c9,ζ kL i c12,ζ qW k c15]) (by simp[results,Tryz.results136,go_sem,y0,y1,y2,y3]) rfl ⟨_,_,_,_,_,rfl,RN.e.acQ ZJ.e ZS.e rj.e,RN.e.below⟩
def oe{P:Program}{ops:Array Oper}{a:Act}{w:Ψ}{K:Act->Ψ->Prop}{Q:Exit->Act->Ψ->Prop}{E:Prop}(hg:o.guard=ν)(s x:Operand)(t:ό)
 (ho:o.op=.call {callee:=.builtin .append,args:=#[s,x],argTypes:=#[t,t]})
 (base:Nat)(e:ό)(i:TypeInfo)(z:υ)(size bytes:Nat)(ht:P.underlying t=φ (.slice e))(hi: P.info? e=φ i)(hz:i.zero=φ z)
 (vB:i.size=size)(Ey:i.bytes=bytes)(Pc:z.cells.size=size)(aN:0<size)
 (v:υ)(n:Nat)(xs:List υ)(hs:a.eval s=v)(aH:w.ownsRow base e size v n xs)
 (ad:Addr)(m c:Nat)(news:List υ)(hx:a.eval x=ζ (φ ad) m c)(hl:news.length=m * size)(IP:∀j u,news[j]?=φ u-> w.cell? (ad.add j)=φ u)(h1:∀u∈news,u.oneCell'=θ)
 (Ia:n+m<=ϑ)(Gy:(n+m) * bytes<=140737488355328)(Eu:base<=w.heap.size)
 (h:∀v' w',w'.ownsRow base e size v' (n+m) (xs++news)->w.grownBy w' v.ownBlock->K (a.put o.dst v') w'):if Ä o (yielded ops a.tmps)=θ then Oper.wp P o a w K Q else E:=by
 have hw:Ä o (yielded ops a.tmps)=θ:=by simp[Ä,hg]
 rw[if_pos hw];exact wp_append_own w s x t ho base e i z size bytes ht hi hz vB Ey Pc aN v n xs hs aH ad m c news hx hl IP h1 Ia Gy Eu λv' w' h2 h3 _=>h v' w' h2 h3
def fH(b:eR)(x:bN):eR:={b with aC:=b.aC++ [x]}
def rE:List Int->List Int->Int
 | [],[]=>0
 | [],_::_=> -1
 |_::_,[]=>1
 |x::xs,y::ys=>if Aiy x y=0 then rE xs ys else Aiy x y
def BI{xs:List Int}(hv:Row w B 1 bI v xs)(hu:Row w B 1 bI u ys)(hB:B<=w.heap.size):
 ύ prog 139 #[v,u] w λe w'=>e=Ω (ξ κ (rE xs ys))/\w=w':=by
 obtain⟨A1,n1,c1,rfl,e1,h1,du,r1⟩:=hv.Φ;obtain⟨A2,n2,c2,rfl,e2,h2,ei,r2⟩:=hu.Φ;unfold ϑ at du ei;have R1:=ψ r1;have R2:=ψ r2;have E:=ψ (Ϗ e1 e2);clear r1 r2 e1 e2 hv hu;have aG:Hid (∀(x y:Int) (w:Ψ),ύ Tw.prog 181 #[ξ κ x,ξ κ y] w λe w'=>e=Ω (ξ κ (Aiy x y))/\w'=w):=ψ (λx y w=>Sh.cmp_Compare_int x y w)
 go_enter func139,Tryz.ntmps139;go_wp2;go_loopw [11] (λk wr=>wr=w/\∃i:Nat,i<=n1/\i<=n2/\k=ξ κ i/\Hid (rE xs ys=rE (xs.drop i) (ys.drop i))) (λk _=>n1 - (ϗ k).toNat)
 case atStart=>exact⟨rfl,0,Ϡ _,Ϡ _,rfl,ψ rfl⟩
 case round=>
  obtain⟨rfl,i,hi,xC,rfl,hc⟩:=hrel;by_cases ao:i<n1
  ·obtain⟨ad,x,cs,lZ,aE,hx,rfl,-,aq⟩:=R1.e i ao
   subst lZ;have g0: wr.cell? (ad.add (i * 1))=φ (ξ κ x):=cA aq (Δ.refl wr) aE rfl;rw[Ī] at g0;have EC:xs.drop i=x::xs.drop (i+1):=(Ai5 (Ϯ.1 hx).1).trans (by rw[(Ϯ.1 hx).2])
   have Bh:=ψ EC;clear EC hx aq;by_cases IK:i<n2
   ·obtain⟨cR,y,ju,DX,gT,hy,rfl,-,fa⟩:=R2.e i IK
    subst DX;have g1: wr.cell? (cR.add (i * 1))=φ (ξ κ y):=cA fa (Δ.refl wr) gT rfl;rw[Ī] at g1;have xr:ys.drop i=y::ys.drop (i+1):=(Ai5 (Ϯ.1 hy).1).trans (by rw[(Ϯ.1 hy).2])
    have wu:=ψ xr;clear xr hy fa;have asB:((n2:Int)<=(i:Int))=False:=by simp;omega
    obtain⟨c,dg⟩:∃c,c=Aiy x y:=⟨_,rfl⟩
    have CL:=ψ (aG.e x y wr);rw[<-dg] at CL;have sx:=ψ dg;clear dg;by_cases jS:c=0
    ·have hb:(c !=0)=χ:=by simp[jS]
     go_wp2_with (first
      | (go_at_call 181;refine CL.e.mono ?_;rintro e w1 ⟨rfl,rfl⟩))
     go_roundw;case rel=>exact⟨trivial,i+1,by omega,by omega,by go_num,ψ (by rw[hc.e,Bh.e,wu.e,rE,<-sx.e,if_pos jS])⟩
     case measure=>simp[ϗ];omega
    ·have hb:(c !=0)=θ:=by simp[jS]
     go_wp2_with (first
      | (go_at_call 181;refine CL.e.mono ?_;rintro e w1 ⟨rfl,rfl⟩))
     go_ret;exact⟨bm (by rw[hc.e,Bh.e,wu.e,rE,<-sx.e,if_neg jS]),rfl⟩
   ·obtain rfl:i=n2:=by omega
    have xr:ys.drop i=[]:=ů (ú E.e.2);have wu:=ψ xr;clear xr;go_wp2;go_ret;exact⟨bm (by rw[hc.e,Bh.e,wu.e,rE]),rfl⟩
  ·obtain rfl:i=n1:=by omega
   have EC:xs.drop i=[]:=ů (ú E.e.1);have Bh:=ψ EC;clear EC;by_cases hl:i<n2
   ·obtain⟨y,Tr,hy⟩:∃y Tr,ys.drop i=y::Tr:=⟨_,_,Ai5 (by rw[E.e.2];exact hl)⟩
    have wu:=ψ hy;clear hy;go_wp2;go_ret;exact⟨bm (by rw[hc.e,Bh.e,wu.e,rE]),rfl⟩
   ·have xr:ys.drop i=[]:=ů (by rw[E.e.2];omega)
    have wu:=ψ xr;clear xr;go_wp2;go_ret;exact⟨bm (by rw[hc.e,Bh.e,wu.e,rE]),rfl⟩
def XV{b1 b2 e1 e2 s1 s2 n1 n2:Nat}{v1 v2:υ}{x1 x2:List υ}(h1:w.ownsRow b1 e1 s1 v1 n1 x1)(h2:w.ownsRow b2 e2 s2 v2 n2 x2)(aw:e1≠e2):∀k,v1.ownBlock=φ k->v2.ownBlock≠φ k:=by
 intro k hk eD;rcases h1.2 with⟨h0,_⟩ | ⟨g,cap,cur,a1,a2,a3,_⟩
 ·rw[h0] at hk;cases hk
 ·rcases h2.2 with⟨h0,_⟩ | ⟨g',ze,ary,c1,c2,c3,_⟩
  ·rw[h0] at eD;cases eD
  ·rw[a1] at hk;rw[c1] at eD
   injection hk with hk;injection eD with eD
   simp only at hk eD;subst hk;subst eD
   rw[a3] at c3;injection c3 with c3;injection c3 with _ c3
   exact aw c3
def dQ(m:Nat)(n:Nat):List Nat:=(ε n).filter (λi=>m.testBit i)
def I9(h:m.testBit n=θ):dQ m (n+1)=dQ m n++ [n]:=by simp[dQ,Ŭ,h]
def I8(h:m.testBit n=χ):dQ m (n+1)=dQ m n:=by simp[dQ,Ŭ,h]
def gy(l:List α)(m n:Nat):List α:=(dQ m n).filterMap (λi=>l[i]?)
def XZ{l:List α}{x:α}(h:m.testBit n=θ)(hx:l[n]?=φ x):gy l m (n+1)=gy l m n++ [x]:=by
 unfold gy;rw[I9 h,List.filterMap_append];simp[hx]
def XY{l:List α}(h:m.testBit n=χ):gy l m (n+1)=gy l m n:=by unfold gy;rw[I8 h]
def nY(b:eR)(m:Nat):eR:={b with aI:=gy b.aI m b.aI.length}
def am5(f:α->β)(l:List α)(m n:Nat):gy (l.map f) m n=(gy l m n).map f:=by
 unfold gy;rw[List.map_filterMap];congr 1;funext i;simp
def P3{α:Type}(l:List α)(m:Nat):∀n,n<=l.length->(gy l m n).length=(dQ m n).length
 |0,_=>by simp[gy,dQ]
 |n+1,h=>by
  have ih:=P3 l m n (by omega)
  cases hb:m.testBit n with
  |true=>rw[XZ hb (Ã (by omega)),I9 hb];simp[ih]
  |false=>rw[XY hb,I8 hb];exact ih
def mT(m n:Nat):List υ:=(dQ m n).map λk:Nat=>ξ κ (k:Int)
def Fv(m:Nat)(n:Nat):(dQ m n).length<=n:=by
 unfold dQ;refine ϡ (List.length_filter_le _ _) (by simp)
structure OI(w W:Ψ)(g z:Nat)(ab pv bv c7 v6 v7:υ)(el:Array υ)(n6 n7:Nat)(x6 x7:List υ):Prop where
 o6:W.ownsRow (g+3) 3 1 v6 n6 x6
 o7:W.ownsRow (g+3) 95 3 v7 n7 x7
 kr:Bk W (g+1) 117 #[ξ κ 0,ζ ν 0 0,ζ ν 0 0,ζ ν 0 0]
 kk:Bk W (g+2) 117 #[ab,pv,bv,c7]
 ke:Bk W z 95 el
 hb:Γ g w W
section
variable {w W W':Ψ}{g z n6 n7 m:Nat}{ab pv bv c7 v6 v7 v':υ}{el:Array υ}{x6 x7 ys:List υ}
def OI.alloc(h:OI w W g z ab pv bv c7 v6 v7 el n6 n7 x6 x7)(o:Obj):OI w (W.alloc o) g z ab pv bv c7 v6 v7 el n6 n7 x6 x7:=
 ⟨World.ownsRow.alloc h.o6 o,World.ownsRow.alloc h.o7 o,h.kr.alloc o,h.kk.alloc o,h.ke.alloc o,h.hb.alloc (by have:=h.kr.lt;omega) o⟩
def OI.SD(h:OI w W g z ab pv bv c7 v6 v7 el n6 n7 x6 x7)(ho:W'.ownsRow (g+3) 3 1 v' m ys)(hg:W.grownBy W' v6.ownBlock):OI w W' g z ab pv bv c7 v' v7 el m n7 ys x7:=by
 have ky:=dX h.o6;refine⟨ho,UA h.o7 hg (λk hk e=>XV h.o6 h.o7 (by decide) k e hk),h.kr.grown hg (λe=>by have:=ky _ e.symm;omega),h.kk.grown hg (λe=>by have:=ky _ e.symm;omega),h.ke.grown hg (λe=>?_),h.hb.grown hg (by have:=h.kr.lt;omega) (λk hk=>by have:=ky k hk;omega)⟩
 rcases h.o6.2 with⟨h0,_⟩ | ⟨k,cap,cur,a1,a2,a3,_⟩
 ·rw[h0] at e;cases e
 ·rw[a1] at e;injection e with e
  have vm:=h.ke;unfold Bk at vm;rw[e] at vm;simp only at vm;rw[a3] at vm;injection vm with vm;injection vm with _ vm
  exact absurd vm (by decide)
def OI.SE(h:OI w W g z ab pv bv c7 v6 v7 el n6 n7 x6 x7)(ho:W'.ownsRow (g+3) 95 3 v' m ys)(hg:W.grownBy W' v7.ownBlock):
 W'.ownsRow (g+3) 3 1 v6 n6 x6/\W'.ownsRow (g+3) 95 3 v' m ys/\Bk W' (g+1) 117 #[ξ κ 0,ζ ν 0 0,ζ ν 0 0,ζ ν 0 0]/\Bk W' (g+2) 117 #[ab,pv,bv,c7]/\Γ g w W':=by
 have ky:=dX h.o7;exact⟨UA h.o6 hg (λk hk e=>XV h.o6 h.o7 (by decide) k hk e),ho,h.kr.grown hg (λe=>by have:=ky _ e.symm;omega),h.kk.grown hg (λe=>by have:=ky _ e.symm;omega),h.hb.grown hg (by have:=h.kr.lt;omega) (λk hk=>by have:=ky k hk;omega)⟩
def BF{w:Ψ}{g:Nat}{b c:υ}(h:Bk w g t #[a,b,c]):∀(j:Nat) (u:υ),[a,b,c][j]?=φ u-> w.cell? ((⟨g,0,ν⟩:Addr).add j)=φ u:=by
 intro j u hu;rw[kP];exact(h.cell j).trans (by simpa using hu)
def My{w:Ψ}{g:Nat}(h:Bk w g t #[a]):∀(j:Nat) (u:υ),[a][j]?=φ u-> w.cell? ((⟨g,0,ν⟩:Addr).add j)=φ u:=by
 intro j u hu;rw[kP];exact(h.cell j).trans (by simpa using hu)
def lS{w:Ψ}{b e s g:Nat}{cs:Array υ}(h:Bk w g t cs)(ho:w.ownsRow b e s v n xs)(aw:t≠e)(hk:φ g=v.ownBlock):False:=by
 rcases ho.2 with⟨h0,_⟩ | ⟨k,cap,cur,a1,a2,a3,_⟩
 ·rw[h0] at hk;cases hk
 ·rw[a1] at hk;injection hk with hk
  unfold Bk at h;rw[hk] at h;simp only at h;rw[a3] at h;injection h with h;injection h with _ h
  exact aw h.symm
def ai6{w V:Ψ}{g z n6 n7:Nat}{ab pv bv c7 v6 v7 b c:υ}{el:Array υ}{x6 x7:List υ}{o:Obj}(pq:OI w V.drew g z ab pv bv c7 v6 v7 el n6 n7 x6 x7)
 (gK:((V.drew.alloc o).alloc (Ξ #[a,b,c] 95)).grownBy w6 v6.ownBlock):Bk w6 (V.heap.size+1) 95 #[a,b,c]:=
 (Bk.bZ (g:=V.heap.size+1) (w:=V.drew.alloc o) (by simp) 95 #[a,b,c]).grown gK (λe=>lS (Bk.bZ (g:=V.heap.size+1) (w:=V.drew.alloc o) (by simp) 95 #[a,b,c]) ((pq.alloc o).alloc _).o6 (by decide) e)
def ai2{w V:Ψ}{g z n6 n7:Nat}{ab pv bv c7 v6 v7 b c:υ}{el:Array υ}{x6 x7:List υ}{o:Obj}(pq:OI w V.drew g z ab pv bv c7 v6 v7 el n6 n7 x6 x7)
 (gK:((V.drew.alloc (Ξ #[a,b,c] 95)).alloc o).grownBy w6 v6.ownBlock):Bk w6 V.heap.size 95 #[a,b,c]:=
 ((Bk.new V.drew 95 #[a,b,c]).alloc o).grown gK (λe=>lS ((Bk.new V.drew 95 #[a,b,c]).alloc o) ((pq.alloc _).alloc o).o6 (by decide) e)
def amB{W:Ψ}(h:W.ownsRow (g+3) 3 1 v6 n6 x6/\W.ownsRow (g+3) 95 3 v' m ys/\Bk W (g+1) 117 #[ξ κ 0,ζ ν 0 0,ζ ν 0 0,ζ ν 0 0]/\Bk W (g+2) 117 #[ab,pv,bv,c7]/\Γ g w W):
 let V:=W.setCell ⟨g+2,3,ν⟩ v'
 V.ownsRow (g+3) 3 1 v6 n6 x6/\V.ownsRow (g+3) 95 3 v' m ys/\Bk V (g+1) 117 #[ξ κ 0,ζ ν 0 0,ζ ν 0 0,ζ ν 0 0]/\Bk V (g+2) 117 #[ab,pv,bv,v']/\Γ g w V:=by
 intro V;exact⟨gN h.1 (by simp),gN h.2.1 (by simp),h.2.2.1.dV (by simp) _,h.2.2.2.1.set 3 v',h.2.2.2.2.setCell (by simp) _⟩
end
def amE{v6:υ}{ts:List (Tape×υ)}(hB:B<=w.heap.size)(ah:aQ w B b pv bv tv)(iF:∀p∈ts,Row w B 1 bI p.2 p.1.pieces)(eK:ts.map Ď=b.aI)(hn:n=ts.length)
 (h6:W.ownsRow (w.heap.size+3) 3 1 v6 (dQ m n).length (mT m n))(h7:W.ownsRow (w.heap.size+3) 95 3 v7 (dQ m n).length ((gy ts m n).flatMap cE))(hb:Γ w.heap.size w W){x0 x1 x2 x3:υ}:
 let V:=(((W.setCell ⟨w.heap.size+1,0,ν⟩ x0).setCell ⟨w.heap.size+1,1,ν⟩ x1).setCell ⟨w.heap.size+1,2,ν⟩ x2).setCell ⟨w.heap.size+1,3,ν⟩ x3
 aQ V V.heap.size (nY b m) pv bv v7/\cV V (λk=>k<w.heap.size) 1 bI v6 ((dQ m b.aI.length).map Ĕ)/\Γ w.heap.size w V:=by
 intro V;have hl:b.aI.length=n:=by rw[<-eK,ü,hn]
 have rN:Γ w.heap.size w V:=(((hb.setCell (by simp) _).setCell (by simp) _).setCell (by simp) _).setCell (by simp) _
 have st:Δ B w V:=Δ.aJ rN hB;have aN:B<=V.heap.size:=by have:=rN.size;omega
 have o6:V.ownsRow (w.heap.size+3) 3 1 v6 (dQ m n).length (mT m n):=gN (gN (gN (gN h6 (by simp)) (by simp)) (by simp)) (by simp)
 have o7:V.ownsRow (w.heap.size+3) 95 3 v7 (dQ m n).length ((gy ts m n).flatMap cE):=gN (gN (gN (gN h7 (by simp)) (by simp)) (by simp)) (by simp)
 refine⟨⟨(ah.pieces.still st λ_ _ h=>h).more aN,(ah.aC.still st λ_ _ h=>?_).more aN,?_⟩,?_,rN⟩
 ·obtain⟨k,e1,e2,e3⟩:=h.still st
  exact⟨k,e1,e2,e3.more aN⟩
 ·rw[<-P3 ts m n (by omega)] at o7
  have:=mZ (R:=λp cs=>cs=cE p) o7 (λ_=>rfl) (λp hm=>rfl)
  have e:(nY b m).aI=(gy ts m n).map Ď:=by
   show gy b.aI m b.aI.length=_;rw[hl,<-eK,am5]
  rw[e];refine tD this (λp hm cs hc=>⟨p.2,hc,((iF p ?_).still st λ_ _ h=>h).more aN⟩)
  unfold gy at hm;obtain⟨k,_,hk⟩:=List.mem_filterMap.1 hm;exact Ϩ hk
 ·rw[hl]
  have e:(mT m n)=((dQ m n).map Ĕ).flatMap (λk=> [ξ κ k]):=by
   unfold mT;rw[Ug,List.map_map];rfl
  rw[e] at o6;have hlen:(dQ m n).length=((dQ m n).map Ĕ).length:=by simp
  rw[hlen] at o6;exact cV.tt o6 (λ_=>rfl) (λ_ _=>rfl) (λk hk=>by omega)
def acK:∀(m:Fin 16) (i:Fin 4),(bits BinOp.and ϙ ((m.val:Int) / 2 ^ i.val) 1==1)=m.val.testBit i.val:=by decide+kernel
def only{w:Ψ}{b:eR}{pv bv tv:υ}{B m:Nat}(hB:B<=w.heap.size)(ah:aQ w B b pv bv tv)(hv:b.aI.length<=4)(hm:m<16):
 ύ prog 138 #[η #[ξ κ b.ab,pv,bv,tv],ξ κ m] w λe w'=>∃ez iv,e=Ω (μ #[η #[ξ κ b.ab,pv,bv,ez],iv])/\aQ w' w'.heap.size (nY b m) pv bv ez/\
  cV w' (λk=>k<w.heap.size) 1 bI iv ((dQ m b.aI.length).map Ĕ)/\Γ w.heap.size w w':=by
 obtain⟨ts,eK,kB⟩:=CY (R':=λ(p:Tape×υ) cs=>cs=cE p/\Row w B 1 bI p.2 p.1.pieces) ah.aI (λx cs ⟨kv,h1,h3⟩=>⟨kv,h1,h3⟩)
 have iF:∀p∈ts,Row w B 1 bI p.2 p.1.pieces:=λp hp=>by obtain⟨cs,h1,h2⟩:=kB.mem p hp;exact h2
 have nR:ts.length=b.aI.length:=by rw[<-eK,ü]
 have HM:=ψ (Ϗ iF (Ϗ eK nR));have bD:=ψ ah;obtain⟨A1,n1,c1,rfl,-⟩:=ah.pieces.Φ;obtain⟨A2,n2,c2,rfl,-⟩:=ah.aC.Φ;obtain⟨A3,n3,c3,rfl,e3,h3,xd,r3⟩:=kB.Φ;have R3:=ψ r3;have iW:n3<=4:=by omega
 have E3:=ψ e3;unfold ϑ at xd;clear ah kB iF eK nR r3 e3 hv;go_enter func138,Tryz.ntmps138;go_wp2;have L0:Hid (Bk (((w.alloc (Ξ #[ξ κ b.ab,ζ A1 n1 c1,ζ A2 n2 c2,ζ A3 n3 c3] 117)).alloc (Ξ #[ξ κ 0,ζ ν 0 0,ζ ν 0 0,ζ ν 0 0] 117)).alloc (Ξ #[ξ κ b.ab,ζ A1 n1 c1,ζ A2 n2 c2,ζ ν 0 0] 117)) (w.heap.size+2) 117 #[ξ κ b.ab,ζ A1 n1 c1,ζ A2 n2 c2,ζ ν 0 0]):=ψ (Bk.bZ (by simp) _ _)
 go_loopw [6,17] (λv6 u wr=>∃(i:Nat) (v7:υ),i<=n3/\u=ξ κ i/\Hid (wr.ownsRow (w.heap.size+3) 3 1 v6 (dQ m i).length (mT m i))/\Hid (wr.ownsRow (w.heap.size+3) 95 3 v7 (dQ m i).length ((gy ts m i).flatMap cE))/\
  Hid (Bk wr (w.heap.size+1) 117 #[ξ κ 0,ζ ν 0 0,ζ ν 0 0,ζ ν 0 0])/\Hid (Bk wr (w.heap.size+2) 117 #[ξ κ b.ab,ζ A1 n1 c1,ζ A2 n2 c2,v7])/\Hid (Γ w.heap.size w wr)) (λ_ u _=>n3 - (ϗ u).toNat)
 case atStart=>exact⟨0,_,Ϡ _,rfl,ψ ⟨rfl,.inl ⟨rfl,rfl⟩⟩,ψ ⟨rfl,.inl ⟨rfl,rfl⟩⟩,ψ ((Bk.bZ (by simp) _ _).alloc _),L0,ψ ((((ώ _ _).alloc (ϊ _) _).alloc (by simp) _).alloc (by simp<;>omega) _)⟩
 case round=>
  obtain⟨i,v7,hi,rfl,h6,h7,hr,hk,hb⟩:=hrel;obtain⟨A6,n6,c6,rfl⟩:=ld h6.e;obtain⟨A7,n7,c7,rfl⟩:=ld h7.e;by_cases ao:i<n3
  ·obtain⟨ad,x,cs,lZ,aE,hx,⟨rfl,O8⟩,-,aq⟩:=R3.e i ao
   subst lZ;have st:Δ B w wr:=Δ.aJ hb.e hB;obtain⟨x,kv⟩:=x;simp only at O8;obtain⟨m5,ta⟩:∃k,k=x.pieces.length:=⟨_,rfl⟩
   obtain⟨A5,c5,rfl,-⟩:=id O8;rw[<-ta] at hx aq;clear O8 ta;have g0:=cA aq st aE rfl;have g1:=bj aq st aE 0 rfl;have g2:=bj aq st aE 1 rfl;have aN:=hb.e.size;have rK:(ad.add (i * 3)).block<wr.heap.size:=by rw[b9];omega
   have Iq:=acK ⟨m,hm⟩ ⟨i,by omega⟩
   simp only at Iq;have HX:=ψ hx;have uK:=ψ (Ϗ h6.e (Ϗ h7.e (Ϗ hr.e (Ϗ hk.e hb.e))));clear hx aq st;cases xj:m.testBit i with
   |false=>
    rw[xj] at Iq;go_wp2;go_roundw;case rel=>exact⟨i+1,_,by omega,by go_num,ψ (by unfold mT;rw[I8 xj];exact h6.e.alloc _),ψ (by rw[I8 xj,XY xj];exact h7.e.alloc _),ψ (hr.e.alloc _),ψ (hk.e.alloc _),ψ (hb.e.alloc aN _)⟩
    case measure=>simp[ϗ];omega
   |true=>
    rw[xj] at Iq;go_wp2;obtain⟨i3,fM,gw,iE,bK⟩:=Ą WO;obtain⟨i9,xD,Fq,Cs,jR⟩:=Ą Fz;have pg:=ψ (Ϗ fM (Ϗ gw (Ϗ iE bK)));have fJ:=ψ (Ϗ xD (Ϗ Fq (Ϗ Cs jR)));clear fM gw iE bK xD Fq Cs jR h6 h7 hr hk hb g0 g1 g2 rK Iq;have pK:OI w (wr.alloc (Ξ #[ζ A5 m5 c5,ξ κ x.sum.lo,ξ κ x.sum.hi] 95)) w.heap.size wr.heap.size (ξ κ b.ab) (ζ A1 n1 c1) (ζ A2 n2 c2) (ζ A7 n7 c7) (ζ A6 n6 c6) (ζ A7 n7 c7) #[ζ A5 m5 c5,ξ κ x.sum.lo,ξ κ x.sum.hi] (dQ m i).length (dQ m i).length (mT m i) ((gy ts m i).flatMap cE):=
     ⟨uK.e.1.alloc _,uK.e.2.1.alloc _,uK.e.2.2.1.alloc _,uK.e.2.2.2.1.alloc _,Bk.new wr _ _,uK.e.2.2.2.2.alloc aN _⟩
    have WC:(wr.alloc (Ξ #[ζ A5 m5 c5,ξ κ x.sum.lo,ξ κ x.sum.hi] 95)).heap.size=wr.heap.size+1:=by simp
    generalize (wr.alloc (Ξ #[ζ A5 m5 c5,ξ κ x.sum.lo,ξ κ x.sum.hi] 95))=V at pK WC |-
    have pq:Hid (OI w V.drew w.heap.size wr.heap.size (ξ κ b.ab) (ζ A1 n1 c1) (ζ A2 n2 c2) (ζ A7 n7 c7) (ζ A6 n6 c6) (ζ A7 n7 c7) #[ζ A5 m5 c5,ξ κ x.sum.lo,ξ κ x.sum.hi] (dQ m i).length (dQ m i).length (mT m i) ((gy ts m i).flatMap cE)):=ψ ⟨pK.o6,pK.o7,pK.kr,pK.kk,pK.ke,dT pK.hb⟩;have q7: V.cell? ⟨w.heap.size+2,3,ν⟩=φ (ζ A7 n7 c7):=pK.kk.cell 3;have e0: V.cell? ⟨wr.heap.size,0,ν⟩=φ (ζ A5 m5 c5):=pK.ke.cell 0;have e1: V.cell? ⟨wr.heap.size,1,ν⟩=φ (ξ κ x.sum.lo):=pK.ke.cell 1;have e2: V.cell? ⟨wr.heap.size,2,ν⟩=φ (ξ κ x.sum.hi):=pK.ke.cell 2;have zU:=pK.kk.lt;have ahZ:w.heap.size+2<=V.heap.size:=by omega
    have ah0:w.heap.size+2<V.heap.size+1:=by omega
    have ah1:w.heap.size+2<=V.heap.size+1:=by omega
    have N7:wr.heap.size<V.heap.size:=by omega
    have ahB:wr.heap.size<=V.heap.size:=by omega
    have ahD:wr.heap.size<V.heap.size+1:=by omega
    have ahE:wr.heap.size<=V.heap.size+1:=by omega
    have ai7:w.heap.size+3<=V.heap.size:=zU;have sV:(dQ m i).length<=4:=by have:=Fv m i;omega
    obtain⟨nl,Ck⟩:∃k,k=(dQ m i).length:=⟨_,rfl⟩
    rw[<-Ck] at pq sV;have RZ:=ψ Ck;clear pK uK WC aN Ck;refine Code.wp_mono (Q:=dK λa W=>∃Dl n61 DS Dm FQ DT Zn Zo,a={tmps:=#[Value.agg #[Ϝ ϙ b.ab,Value.slice A1 n1 c1,Value.slice A2 n2 c2,Value.slice (φ ad) n3 c3],Ϝ ϙ (m:Int),Value.pointer (φ {block:=w.heap.size,off:=0}),ω,Value.pointer (φ {block:=w.heap.size+1,off:=0}),Value.slice ν 0 0,Value.slice Dl n61 DS,Value.pointer (φ {block:=w.heap.size+1+1,off:=0}),Ϝ ϙ (i:Int),Value.pointer (φ {block:=wr.heap.size,off:=0}),Value.agg #[Ϝ ϙ b.ab,Value.slice A1 n1 c1,Value.slice A2 n2 c2,Value.slice (φ ad) n3 c3],Value.pointer (φ {block:=w.heap.size+1+1,off:=0}),Value.pointer (φ {block:=w.heap.size+1+1,off:=3}),Value.pointer (φ {block:=w.heap.size,off:=0}),Value.pointer (φ {block:=w.heap.size,off:=3}),Value.slice (φ ad) n3 c3,Ϝ ϙ (n3:Int),Ϝ ϙ (i:Int),Value.bool θ,Ϝ ϙ (i:Int),Value.pointer (φ (ad.add (i * 3))),Value.agg #[Value.slice A5 m5 c5,Ϝ ϙ x.sum.lo,Ϝ ϙ x.sum.hi],Ϝ ϙ (m:Int),Ϝ ϙ (i:Int),Ϝ ϙ ((m:Int) / 2 ^ i),Ϝ ϙ (bits BinOp.and ϙ ((m:Int) / 2 ^ i) 1),Value.bool θ,Value.slice A6 n6 c6,Ϝ ϙ (i:Int),Zn,Value.slice Dl n61 DS,Value.pointer (φ {block:=w.heap.size+1+1,off:=0}),Value.pointer (φ {block:=w.heap.size+1+1,off:=3}),Value.slice A7 n7 c7,Value.agg #[Value.slice A5 m5 c5,Ϝ ϙ x.sum.lo,Ϝ ϙ x.sum.hi],Zo,Value.slice Dm FQ DT,Value.pointer (φ {block:=w.heap.size+1+1,off:=0}),Value.pointer (φ {block:=w.heap.size+1+1,off:=3}),u39,ω,ω],defers:=[]}/\
     Hid (W.ownsRow (w.heap.size+3) 3 1 (ζ Dl n61 DS) (nl+1) (mT m i++ [ξ κ i])/\W.ownsRow (w.heap.size+3) 95 3 (ζ Dm FQ DT) (nl+1) ((gy ts m i).flatMap cE++ [ζ A5 m5 c5,ξ κ x.sum.lo,ξ κ x.sum.hi])/\
      Bk W (w.heap.size+1) 117 #[ξ κ 0,ζ ν 0 0,ζ ν 0 0,ζ ν 0 0]/\Bk W (w.heap.size+2) 117 #[ξ κ b.ab,ζ A1 n1 c1,ζ A2 n2 c2,ζ Dm FQ DT]/\Γ w.heap.size w W)) ?post ?region
    case region=>
     go_region_law (first
      | (first
              |refine oe rfl (.tmp 27) (.tmp 29) 33 rfl (w.heap.size+3) 3 i3 (ξ κ 0) 1 8 (U Tryz.underlying33) pg.e.1 pg.e.2.1 pg.e.2.2.1 pg.e.2.2.2 rfl (by decide) _ nl (mT m i) rfl (pq.e.alloc _).o6 ⟨V.heap.size,0,ν⟩ 1 1 [ξ κ i] rfl rfl ?c1 ?c2 ?c3 ?c4 ?c5 ?_
              |refine oe rfl (.tmp 27) (.tmp 29) 33 rfl (w.heap.size+3) 3 i3 (ξ κ 0) 1 8 (U Tryz.underlying33) pg.e.1 pg.e.2.1 pg.e.2.2.1 pg.e.2.2.2 rfl (by decide) _ nl (mT m i) rfl ((pq.e.alloc _).alloc _).o6 ⟨V.heap.size,0,ν⟩ 1 1 [ξ κ i] rfl rfl ?c1 ?c2 ?c3 ?c4 ?c5 ?_
              |refine oe rfl (.tmp 27) (.tmp 29) 33 rfl (w.heap.size+3) 3 i3 (ξ κ 0) 1 8 (U Tryz.underlying33) pg.e.1 pg.e.2.1 pg.e.2.2.1 pg.e.2.2.2 rfl (by decide) _ nl (mT m i) rfl ((pq.e.alloc _).alloc _).o6 ⟨V.heap.size+1,0,ν⟩ 1 1 [ξ κ i] rfl rfl ?c1 ?c2 ?c3 ?c4 ?c5 ?_
         case c1=>first|exact My (Bk.new V.drew 3 _) |exact My ((Bk.new V.drew 3 _).alloc _) |exact My (Bk.bZ (w:=V.drew.alloc _) (by simp) 3 _)
         case c2=>simp[Value.oneCell']
         case c3=>(simp only[ϑ];omega)
         case c4=>omega
         case c5=>first| (simp;done) | (simp;omega)
         intro v6 w6 aH gK;have Bx:Hid (OI w w6 w.heap.size wr.heap.size (ξ κ b.ab) (ζ A1 n1 c1) (ζ A2 n2 c2) (ζ A7 n7 c7) v6 (ζ A7 n7 c7) #[ζ A5 m5 c5,ξ κ x.sum.lo,ξ κ x.sum.hi] (nl+1) nl (mT m i++ [ξ κ i]) ((gy ts m i).flatMap cE)):=ψ (by first|exact(pq.e.alloc _).SD aH gK|exact((pq.e.alloc _).alloc _).SD aH gK)
         have q7: w6.cell? ⟨w.heap.size+2,3,ν⟩=φ (ζ A7 n7 c7):=Bx.e.kk.cell 3;have e0: w6.cell? ⟨wr.heap.size,0,ν⟩=φ (ζ A5 m5 c5):=Bx.e.ke.cell 0;have e1: w6.cell? ⟨wr.heap.size,1,ν⟩=φ (ξ κ x.sum.lo):=Bx.e.ke.cell 1;have e2: w6.cell? ⟨wr.heap.size,2,ν⟩=φ (ξ κ x.sum.hi):=Bx.e.ke.cell 2;have YL:w.heap.size+2<w6.heap.size:=Bx.e.kk.lt;have he6:wr.heap.size<w6.heap.size:=Bx.e.ke.lt;have ash:w.heap.size+2<=w6.heap.size:=by omega
         have ar7:wr.heap.size<=w6.heap.size:=by omega
         try(have HZ:Hid (Bk w6 (V.heap.size+1) 95 #[ζ A5 m5 c5,ξ κ x.sum.lo,ξ κ x.sum.hi]):=ψ (ai6 pq.e gK))
         try(have HY:Hid (Bk w6 V.heap.size 95 #[ζ A5 m5 c5,ξ κ x.sum.lo,ξ κ x.sum.hi]):=ψ (ai2 pq.e gK))
         obtain⟨Dl,n61,DS,rfl⟩:=ld aH;clear aH gK)
      | (first
              |refine oe rfl (.tmp 33) (.tmp 35) 24 rfl (w.heap.size+3) 95 i9 (η #[ζ ν 0 0,ξ κ 0,ξ κ 0]) 3 40 (U Tryz.underlying24) fJ.e.1 fJ.e.2.1 fJ.e.2.2.1 fJ.e.2.2.2 rfl (by decide) _ nl ((gy ts m i).flatMap cE) rfl (Bx.e.alloc _).o7 ⟨w6.heap.size,0,ν⟩ 1 1 [ζ A5 m5 c5,ξ κ x.sum.lo,ξ κ x.sum.hi] rfl rfl ?c1 ?c2 ?c3 ?c4 ?c5 ?_
              |refine oe rfl (.tmp 33) (.tmp 35) 24 rfl (w.heap.size+3) 95 i9 (η #[ζ ν 0 0,ξ κ 0,ξ κ 0]) 3 40 (U Tryz.underlying24) fJ.e.1 fJ.e.2.1 fJ.e.2.2.1 fJ.e.2.2.2 rfl (by decide) _ nl ((gy ts m i).flatMap cE) rfl Bx.e.o7 ⟨V.heap.size+1,0,ν⟩ 1 1 [ζ A5 m5 c5,ξ κ x.sum.lo,ξ κ x.sum.hi] rfl rfl ?c1 ?c2 ?c3 ?c4 ?c5 ?_
              |refine oe rfl (.tmp 33) (.tmp 35) 24 rfl (w.heap.size+3) 95 i9 (η #[ζ ν 0 0,ξ κ 0,ξ κ 0]) 3 40 (U Tryz.underlying24) fJ.e.1 fJ.e.2.1 fJ.e.2.2.1 fJ.e.2.2.2 rfl (by decide) _ nl ((gy ts m i).flatMap cE) rfl Bx.e.o7 ⟨V.heap.size,0,ν⟩ 1 1 [ζ A5 m5 c5,ξ κ x.sum.lo,ξ κ x.sum.hi] rfl rfl ?c1 ?c2 ?c3 ?c4 ?c5 ?_
         case c1=>first|exact BF (Bk.new w6 95 _) |exact BF HZ.e|exact BF HY.e
         case c2=>simp[Value.oneCell']
         case c3=>(simp only[ϑ];omega)
         case c4=>omega
         case c5=>first|omega| (simp;omega)
         intro v7 w7 aH gK;have Ly:Hid (w7.ownsRow (w.heap.size+3) 3 1 _ (nl+1) (mT m i++ [ξ κ i])/\w7.ownsRow (w.heap.size+3) 95 3 v7 (nl+1) ((gy ts m i).flatMap cE++ [ζ A5 m5 c5,ξ κ x.sum.lo,ξ κ x.sum.hi])/\Bk w7 (w.heap.size+1) 117 #[ξ κ 0,ζ ν 0 0,ζ ν 0 0,ζ ν 0 0]/\Bk w7 (w.heap.size+2) 117 #[ξ κ b.ab,ζ A1 n1 c1,ζ A2 n2 c2,ζ A7 n7 c7]/\Γ w.heap.size w w7):=ψ (by first|exact(Bx.e.alloc _).SE aH gK|exact Bx.e.SE aH gK)
         have q3: w7.cell? ⟨w.heap.size+2,3,ν⟩=φ (ζ A7 n7 c7):=Ly.e.2.2.2.1.cell 3;have f3: w7.frozen? ⟨w.heap.size+2,3,ν⟩=χ:=Ly.e.2.2.2.1.frozen 3;obtain⟨Dm,FQ,DT,rfl⟩:=ld aH;clear aH gK))
     all_goals
      show ∃_,_
      exact⟨_,_,_,_,_,_,_,_,rfl,ψ (amB Ly.e)⟩
    case post=>
     clear pq q7 e0 e1 e2 zU ahZ ah0 ah1 N7 ahB ahD ahE ai7 pg fJ;refine dK.imp ?_
     rintro a W ⟨Dl,n61,DS,Dm,FQ,DT,Zn,Zo,rfl,hW⟩;have HW:=ψ hW;clear hW;go_wp2;go_roundw;case rel=>exact⟨i+1,_,by omega,by go_num,ψ (by unfold mT;rw[I9 xj];have:=HW.e.1;rw[RZ.e] at this;simpa [mT] using this),ψ (by rw[I9 xj,XZ xj HX.e];have:=HW.e.2.1;rw[RZ.e] at this;simpa [cE] using this),ψ HW.e.2.2.1,ψ HW.e.2.2.2.1,ψ HW.e.2.2.2.2⟩
     case measure=>simp[ϗ];omega
  ·obtain rfl:i=n3:=by omega
   have q0:=hk.e.cell 0;have q1:=hk.e.cell 1;have q2:=hk.e.cell 2;have q3:=hk.e.cell 3;have p0:=hr.e.cell 0;have p1:=hr.e.cell 1;have p2:=hr.e.cell 2;have p3:=hr.e.cell 3;have f0:=hr.e.frozen 0;have f1:=hr.e.frozen 1;have f2:=hr.e.frozen 2;have f3:=hr.e.frozen 3;have sd:w.heap.size+1<wr.heap.size:=hr.e.lt;have mf:=((((hr.e.set 0 (ξ κ b.ab)).set 1 (ζ A1 n1 c1)).set 2 (ζ A2 n2 c2)).set 3 (ζ A7 n7 c7));have y0:=mf.cell 0;have y1:=mf.cell 1;have y2:=mf.cell 2;have y3:=mf.cell 3;clear mf;go_wp2;refine à (v:=μ #[η #[ξ κ b.ab,ζ A1 n1 c1,ζ A2 n2 c2,ζ A7 n7 c7],ζ A6 n6 c6]) (by simp[results,Tryz.results138,go_sem,y0,y1,y2,y3]) rfl ⟨_,_,rfl,?_⟩
   exact amE hB bD.e HM.e.1 HM.e.2.1 (by rw[E3.e]) h6.e h7.e hb.e
def y8(b:eR)(m:Nat)(cur:List Int):Bool:=
 let l:=(dQ m b.aI.length).map Ĕ
 (decide (l.length<cur.length) || (decide (l.length=cur.length) && decide (rE l cur<0))) && decide ((aB (nY b m)).length=0)
def kj(b:eR):Nat->List Int
 |0=>(dQ (2 ^ b.aI.length - 1) b.aI.length).map Ĕ
 |m+1=>if y8 b m (kj b m) then(dQ m b.aI.length).map Ĕ else kj b m
def BH(b:eR):List Int:=if(aB b).length=0 then kj b (2 ^ b.aI.length) else []
def AO(h:Valid b):Valid (nY b m):=by
 have ma:∀t∈(nY b m).aI,t∈b.aI:=λt ht=>by
  have:t∈gy b.aI m b.aI.length:=ht;unfold gy at this;obtain⟨k,_,hk⟩:=List.mem_filterMap.1 this;exact Ϩ hk
 refine⟨h.ab,h.np,h.piece,h.nb,h.bt,?_,λt ht=>h.tape t (ma t ht)⟩
 have:(nY b m).aI.length=(dQ m b.aI.length).length:=P3 b.aI m _ (ϊ _);rw[this];exact ϡ (Fv _ _) h.nt
def ajC{K:Act->Ψ->Prop}{a:Act}(F:Ψ->Prop)(h:∀W,F W->K a W)(hw:F w):K a w:=h w hw
def Tv(h:y8 b m (kj b m)=θ):kj b (m+1)=(dQ m b.aI.length).map Ĕ:=by
 show(if y8 b m (kj b m) then(dQ m b.aI.length).map Ĕ else kj b m)=_
 rw[if_pos h]
def Hh(h:y8 b m (kj b m)=χ):kj b (m+1)=kj b m:=by
 show(if y8 b m (kj b m) then(dQ m b.aI.length).map Ĕ else kj b m)=_
 rw[h];rfl
def Tu(b:eR):∀m,(kj b m).length<=b.aI.length
 |0=>by simp[kj];exact Fv _ _
 |m+1=>by
  unfold kj;split
  ·simp;exact Fv _ _
  ·exact Tu b m
def ady(hB:B<=w.heap.size)(ah:aQ w B b pv bv tv)(h0:cZ b=0):
 ύ prog 56 #[η #[ξ κ b.ab,pv,bv,tv]] w λe w'=>∃v,e=Ω (μ #[v,ξ κ 0])/\Row w' w'.heap.size 1 bI v (BH b)/\Γ w.heap.size w w':=by
 have st:Δ B w (w.alloc (Ξ #[ξ κ b.ab,pv,bv,tv] 26)):=(Δ.refl w).alloc hB _;have aG:=ψ (qj (ah.still st) (by simp<;>omega) h0)
 have bD:=ψ ah;have hv:=fG h0;have HV:=ψ hv;have ag9:=DF hv;have Af:=hv.nt;obtain⟨A1,n1,c1,rfl,-⟩:=ah.pieces.Φ;obtain⟨A2,n2,c2,rfl,-⟩:=ah.aC.Φ;obtain⟨A3,n3,c3,rfl,e3,h3,xd,-⟩:=ah.aI.Φ;rw[e3] at Af;have E3:=ψ e3;unfold ϑ at xd;obtain⟨na,xK⟩:∃n,n=(aB b).length:=⟨_,rfl⟩
 rw[<-xK] at ag9;by_cases te:0<na
 ·have Dx:=ψ xK
  have gJ:BH b=[]:=by unfold BH;rw[if_neg (by have:=Dx.e;omega)]
  have sA:=ψ gJ;clear xK gJ;go_enter func56,Tryz.ntmps56;go_wp2_with (first
   | (go_at_call 68;refine aG.e.mono ?_;rintro e w1 ⟨rfl,ai⟩
      have kb:Bk w1 w.heap.size 26 #[ξ κ b.ab,ζ A1 n1 c1,ζ A2 n2 c2,ζ A3 n3 c3]:=(Bk.new w _ _).below ai (by simp)
      have k0:=kb.cell 0;have k1:=kb.cell 1;have k2:=kb.cell 2;have k3:=kb.cell 3;have aW:Hid (Γ w.heap.size w w1):=ψ ((((ώ _ _).alloc (ϊ _) _)).trans (ai.mono (by simp)))
      have KB:=ψ kb;have aO:w.heap.size<w1.heap.size:=kb.lt;have K1:Hid (∀w',Γ w1.heap.size w1 w'->ύ prog 96 #[η #[ξ κ b.ab,ζ A1 n1 c1,ζ A2 n2 c2,ζ A3 n3 c3]] w' λe bz=>∃v,e=Ω v/\fx bz w'.heap.size v (aB b)/\Γ w'.heap.size w' bz):=ψ λw' hw=>by
       have st:Δ B w w':=Δ.aJ (aW.e.trans (hw.mono (by omega))) hB
       exact all (by have:=hw.size;omega) (bD.e.still st) HV.e
      clear kb ai)
   | (go_at_call 96
      refine(K1.e _ ((ώ _ _).alloc (ϊ _) _)).mono ?_
      rintro e w2 ⟨sv,rfl,aH,an⟩;obtain⟨A9,n9,c9,rfl,dh,kW,fg,jz⟩:=aH.row.Φ;have e9:n9=na:=by rw[<-dh];exact Dx.e.symm
      subst e9;have dj:=ψ an;clear an aH dh jz))
  go_ret2
  exact⟨_,rfl,by rw[sA.e];exact Row.nil,aW.e.trans ((((ώ _ _).alloc (ϊ _) _).trans (dj.e.mono (by simp))).mono (by omega))⟩
 obtain rfl:na=0:=by omega
 have Dx:=ψ xK;clear ah st hv h0 xK e3;obtain⟨mp,tb⟩:∃mp,2 ^ n3=mp+1:=⟨2 ^ n3 - 1,by have:0<2 ^ n3:=Nat.two_pow_pos n3;omega⟩
 have hp:((2:Int) ^ n3)=(mp:Int)+1:=by
  have h1:((2:Int) ^ n3)=((2 ^ n3:Nat):Int):=by simp
  rw[h1,tb];simp
 have aie:mp<16:=by
  have:2 ^ n3<=2 ^ 4:=Nat.pow_le_pow_right (by omega) Af
  omega
 have Au:ϙ.wrap ((mp:Int)+1)=(mp:Int)+1:=by rw[Aiw];exact Aix _ (by omega)
 have eL:ϙ.wrap (mp:Int)=(mp:Int):=by rw[Aiw];exact Aix _ (by omega)
 have hw3:ϙ.wrap ((mp:Int)+1 - 1)=(mp:Int):=by rw[Int.add_sub_cancel];exact eL
 have RY:=ψ tb;clear tb;go_enter func56,Tryz.ntmps56;go_wp2_with (first
  | (go_at_call 68;refine aG.e.mono ?_;rintro e w1 ⟨rfl,ai⟩
     have kb:Bk w1 w.heap.size 26 #[ξ κ b.ab,ζ A1 n1 c1,ζ A2 n2 c2,ζ A3 n3 c3]:=(Bk.new w _ _).below ai (by simp)
     have k0:=kb.cell 0;have k1:=kb.cell 1;have k2:=kb.cell 2;have k3:=kb.cell 3;have aW:Hid (Γ w.heap.size w w1):=ψ ((((ώ _ _).alloc (ϊ _) _)).trans (ai.mono (by simp)))
     have KB:=ψ kb;have aO:w.heap.size<w1.heap.size:=kb.lt;have K1:Hid (∀w',Γ w1.heap.size w1 w'->ύ prog 96 #[η #[ξ κ b.ab,ζ A1 n1 c1,ζ A2 n2 c2,ζ A3 n3 c3]] w' λe bz=>∃v,e=Ω v/\fx bz w'.heap.size v (aB b)/\Γ w'.heap.size w' bz):=ψ λw' hw=>by
      have st:Δ B w w':=Δ.aJ (aW.e.trans (hw.mono (by omega))) hB
      exact all (by have:=hw.size;omega) (bD.e.still st) HV.e
     clear kb ai)
  | (go_at_call 96
     refine(K1.e _ ((ώ _ _).alloc (ϊ _) _)).mono ?_
     rintro e w2 ⟨sv,rfl,aH,an⟩;obtain⟨A9,n9,c9,rfl,dh,kW,fg,jz⟩:=aH.row.Φ;have e9:n9=0:=by rw[<-dh,<-Dx.e]
     subst e9;have dj:=ψ an;have nT:Bk w2 w.heap.size 26 #[ξ κ b.ab,ζ A1 n1 c1,ζ A2 n2 c2,ζ A3 n3 c3]:=(KB.e.alloc _).below an (by simp<;>omega)
     have qM:Bk w2 w1.heap.size 117 #[ξ κ b.ab,ζ A1 n1 c1,ζ A2 n2 c2,ζ A3 n3 c3]:=(Bk.new _ _ _).below an (by simp)
     have q3: w2.cell? ⟨w.heap.size,3,ν⟩=φ (ζ A3 n3 c3):=nT.cell 3;have k0:=qM.cell 0;have k1:=qM.cell 1;have k2:=qM.cell 2;have k3:=qM.cell 3;have yY:=ψ (Ϗ nT qM);clear an aH dh jz nT qM))
 have KS:∀w',Hid (Γ w2.heap.size w2 w')-> w'.cell? ⟨w.heap.size,3,ν⟩=φ (ζ A3 n3 c3)/\ w'.cell? ⟨w1.heap.size,0,ν⟩=φ (ξ κ b.ab)/\ w'.cell? ⟨w1.heap.size,1,ν⟩=φ (ζ A1 n1 c1)/\ w'.cell? ⟨w1.heap.size,2,ν⟩=φ (ζ A2 n2 c2)/\ w'.cell? ⟨w1.heap.size,3,ν⟩=φ (ζ A3 n3 c3)/\Hid (Γ w2.heap.size w2 w'):=λw' h=>
  ⟨(h.e.cell yY.e.1.lt).trans q3,(h.e.cell yY.e.2.lt).trans k0,(h.e.cell yY.e.2.lt).trans k1,(h.e.cell yY.e.2.lt).trans k2,(h.e.cell yY.e.2.lt).trans k3,h⟩
 have HD:Hid (Γ w2.heap.size w2 w2.drew):=ψ (dT (ώ _ _));have Rr:Hid (∀(m:Nat) (w':Ψ),m<16->Γ w2.heap.size w2 w'->ύ prog 138 #[η #[ξ κ b.ab,ζ A1 n1 c1,ζ A2 n2 c2,ζ A3 n3 c3],ξ κ m] w' λe bz=>∃ez iv,e=Ω (μ #[η #[ξ κ b.ab,ζ A1 n1 c1,ζ A2 n2 c2,ez],iv])/\aQ bz bz.heap.size (nY b m) (ζ A1 n1 c1) (ζ A2 n2 c2) ez/\
  cV bz (λk=>k<w'.heap.size) 1 bI iv ((dQ m b.aI.length).map Ĕ)/\Γ w'.heap.size w' bz):=ψ λm w' hm hw=>by
  have st:Δ B w w':=Δ.aJ ((aW.e.trans ((((ώ _ _).alloc (ϊ _) _).trans (dj.e.mono (by simp))).mono (by omega))).trans (hw.mono (by have:=yY.e.1.lt;omega))) hB
  exact only (by have:=hw.size;have:=dj.e.size;have:=aW.e.size;simp at *;omega) (bD.e.still st) HV.e.nt hm
 clear q3 k0 k1 k2 k3;go_region_held3 (λw'=> w'.cell? ⟨w.heap.size,3,ν⟩=φ (ζ A3 n3 c3)/\ w'.cell? ⟨w1.heap.size,0,ν⟩=φ (ξ κ b.ab)/\ w'.cell? ⟨w1.heap.size,1,ν⟩=φ (ζ A1 n1 c1)/\ w'.cell? ⟨w1.heap.size,2,ν⟩=φ (ζ A2 n2 c2)/\ w'.cell? ⟨w1.heap.size,3,ν⟩=φ (ζ A3 n3 c3)/\Hid (Γ w2.heap.size w2 w'))
  (first
    |exact KS _ HD|exact KS _ (ψ (HD.e.alloc (ϊ _) _)) |exact KS _ pj|exact KS _ (ψ (pj.e.alloc (pj.e.size) _))
    |exact KS _ (ψ ((((pj.e.setCell (ϊ _) _).setCell (ϊ _) _).setCell (ϊ _) _).setCell (ϊ _) _))
    |exact KS _ (ψ (((((pj.e.alloc (pj.e.size) _).setCell pj.e.size _).setCell pj.e.size _).setCell pj.e.size _).setCell pj.e.size _)))
  (first
    | (go_at_call 138
       refine(Rr.e mp _ aie ?hx).mono ?_
       case hx=>first|exact HD.e|exact HD.e.alloc (ϊ _) _
       rintro e w3 ⟨t6v,i7v,rfl,bK,Cp,Iv⟩;have pj:Hid (Γ w2.heap.size w2 w3):=ψ (by first|exact HD.e.trans Iv|exact(HD.e.alloc (ϊ _) _).trans (Iv.mono (by simp)))
       obtain⟨jI,n31,jN,rfl,-⟩:=bK.aI.Φ;obtain⟨Rm,n32,Tk,rfl,-⟩:=id Cp.row.Φ
       try(
        have qK:Bk w3 w2.heap.size 117 #[ξ κ 0,ζ ν 0 0,ζ ν 0 0,ζ ν 0 0]:=(Bk.new w2.drew _ _).below Iv (by simp)
        have z0: w3.cell? ⟨w2.heap.size,0,ν⟩=φ (ξ κ 0):=qK.cell 0;have z1: w3.cell? ⟨w2.heap.size,1,ν⟩=φ (ζ ν 0 0):=qK.cell 1;have z2: w3.cell? ⟨w2.heap.size,2,ν⟩=φ (ζ ν 0 0):=qK.cell 2;have z3: w3.cell? ⟨w2.heap.size,3,ν⟩=φ (ζ ν 0 0):=qK.cell 3;have y0:=qK.frozen 0;have y1:=qK.frozen 1;have y2:=qK.frozen 2;have y3:=qK.frozen 3;have ZN:Hid (cV w3 (λk=>k=w2.heap.size) 1 bI (ζ Rm n32 Tk) ((dQ mp b.aI.length).map Ĕ)):=ψ (Cp.weaken (λk hk=>by subst hk;simp))
        have y9:w2.heap.size<w3.heap.size:=qK.lt;clear qK)
       have ZL:=ψ Cp.row;clear bK Cp Iv))
 all_goals
  have jS:kj b 0=(dQ mp b.aI.length).map Ĕ:=by
   show(dQ (2 ^ b.aI.length - 1) b.aI.length).map Ĕ=_;rw[E3.e,RY.e,Nat.add_sub_cancel]
  have Ld:=ψ jS;clear jS;simp only[Exit.then];refine ajC (λW=>Hid (Γ w2.heap.size w2 W)/\Hid (Row W W.heap.size 1 bI (ζ Rm n32 Tk) (kj b 0))) ?_ ?_
  rotate_left 1
  ·rw[Ld.e]
   first
    |exact⟨ψ (pj.e.alloc pj.e.size _),ψ ((ZL.e.still (Δ.aJ ((ώ w3.heap.size w3).alloc (ϊ _) _) (ϊ _)) λ_ _ h=>h).more (by simp))⟩
    |exact⟨ψ ((((pj.e.setCell (ϊ _) _).setCell (ϊ _) _).setCell (ϊ _) _).setCell (ϊ _) _),
       ψ ((((ZN.e.grown (wY _ _ _) (λk e=>by injection e with e;exact e.symm)).grown (wY _ _ _) (λk e=>by injection e with e;exact e.symm)).grown (wY _ _ _) (λk e=>by injection e with e;exact e.symm)).grown (wY _ _ _) (λk e=>by injection e with e;exact e.symm)).row⟩
  rintro W ⟨HW,HR⟩;have⟨s3,s0,s1,s2,s4,_⟩:=KS W HW;go_wp2;go_loopw [7,36] (λv7 u wr=>∃m:Nat,m<=mp+1/\u=ξ κ m/\Hid (Γ w2.heap.size w2 wr)/\Hid (Row wr wr.heap.size 1 bI v7 (kj b m))) (λ_ u _=>mp+1 - (ϗ u).toNat)
  case atStart=>exact⟨0,Ϡ _,rfl,HW,HR⟩
  case round=>
   clear s3 s0 s1 s2 s4;obtain⟨m,hm,rfl,jL,pw⟩:=hrel;obtain⟨wq,rfl⟩:∃wq:Ψ,wq=wr:=⟨_,rfl⟩
   have⟨s3,s0,s1,s2,s4,_⟩:=KS wq jL;obtain⟨A7,n7,c7,rfl,e7,h7,h7',-⟩:=pw.e.Φ;unfold ϑ at h7';by_cases ao:m<mp+1
   ·have yL:=ψ (Rr.e m wq (by omega) jL.e)
    obtain⟨L,hL⟩:∃L,L=(dQ m b.aI.length).map Ĕ:=⟨_,rfl⟩
    rw[<-hL] at yL;obtain⟨cur,zP⟩:∃l,l=kj b m:=⟨_,rfl⟩
    rw[<-zP] at pw e7;obtain⟨l,hl⟩:∃l,l=L.length:=⟨_,rfl⟩
    have VA:l<=4:=by rw[hl,hL,ü];have:=Fv m b.aI.length;have:=E3.e;omega
    have hc4:n7<=4:=by rw[<-e7,zP];have:=Tu b m;have:=E3.e;omega
    obtain⟨cm,oI⟩:∃c,c=rE L cur:=⟨_,rfl⟩
    obtain⟨nb,eQ⟩:∃n,n=(aB (nY b m)).length:=⟨_,rfl⟩
    have asx:nb<=27:=by rw[eQ];exact DF (AO HV.e)
    have UU:y8 b m cur=((decide (l<n7) || (decide (l=n7) && decide (cm<0))) && decide (nb=0)):=by
     unfold y8;rw[<-hL];simp only[<-hl,<-oI,<-eQ,e7]
    have HE:=ψ (Ϗ hL (Ϗ zP (Ϗ hl (Ϗ oI (Ϗ eQ (Ϗ e7 UU))))));clear hL zP hl oI eQ e7 UU;have hwm:m+1<=mp+1:=ao;by_cases h1:l<n7
    ·by_cases hE:nb=0
     ·have xe:((nb:Int)==0)=θ:=by simp;omega
      go_wp2_with (first
       | (go_at_call 138
          refine yL.e.mono ?_
          rintro e w4 ⟨sn,se,rfl,cU,de,eJ⟩;have qZ:Hid (∀w',Γ w4.heap.size w4 w'->ύ prog 96 #[η #[ξ κ b.ab,ζ A1 n1 c1,ζ A2 n2 c2,sn]] w' λe bz=>∃v,e=Ω v/\fx bz w'.heap.size v (aB (nY b m))/\Γ w'.heap.size w' bz):=ψ λw' hw=>all hw.size (cU.still (Δ.aJ hw (ϊ _))) (AO HV.e)
          have qY:Hid (∀w',Γ w4.heap.size w4 w'->ύ prog 139 #[se,ζ A7 n7 c7] w' λe bz=>e=Ω (ξ κ cm)/\w'=bz):=ψ λw' hw=>by
             have st:Δ wq.heap.size wq w':=Δ.aJ (eJ.trans (hw.mono eJ.size)) (ϊ _);rw[HE.e.2.2.2.1];exact BI ((de.row.still (Δ.aJ hw (ϊ _)) λ_ _ h=>h)) ((pw.e.still st λ_ _ h=>h).more eJ.size) hw.size
          obtain⟨we,n41,wO,rfl,-⟩:=cU.aI.Φ;obtain⟨Dk,n42,DR,rfl,lY,-⟩:=de.row.Φ;have rF:n42=l:=by rw[<-lY,<-HE.e.2.2.1]
          subst rF;have yZ:=ψ de.row;have fT:Hid (Γ wq.heap.size wq w4):=ψ eJ;clear cU de eJ lY)
       | (go_at_call 139
          refine(qY.e _ ((ώ _ _).alloc (ϊ _) _)).mono ?_
          rintro e w5 ⟨rfl,rfl⟩)
       | (go_at_call 96
          refine(qZ.e _ ((ώ _ _).alloc (ϊ _) _)).mono ?_
          rintro e w6 ⟨sv,rfl,aH,eC⟩;obtain⟨A9,n9,c9,rfl,dh,kW,fg,-⟩:=aH.row.Φ;have e9:n9=nb:=by rw[<-dh];exact HE.e.2.2.2.2.1.symm
          subst e9;have dG:=ψ eC;clear eC aH dh))
      go_roundw;case rel=>exact⟨m+1,by omega,by go_num,ψ ((jL.e.trans (fT.e.mono jL.e.size)).trans ((((ώ w4.heap.size w4).alloc (ϊ _) _).trans (dG.e.mono (by simp))).mono (by have:=fT.e.size;have:=jL.e.size;omega))),ψ (by
       rw[Tv (by rw[<-HE.e.2.1,HE.e.2.2.2.2.2.2];simp;omega),<-HE.e.1]
       exact((yZ.e.still (Δ.aJ (((ώ w4.heap.size w4).alloc (ϊ _) _).trans (dG.e.mono (by simp))) (ϊ _)) λ_ _ h=>h).more (by have:=dG.e.size;simp at this;omega)))⟩
      case measure=>simp[ϗ];omega
     ·have xe:((nb:Int)==0)=χ:=by simp;omega
      go_wp2_with (first
       | (go_at_call 138
          refine yL.e.mono ?_
          rintro e w4 ⟨sn,se,rfl,cU,de,eJ⟩;have qZ:Hid (∀w',Γ w4.heap.size w4 w'->ύ prog 96 #[η #[ξ κ b.ab,ζ A1 n1 c1,ζ A2 n2 c2,sn]] w' λe bz=>∃v,e=Ω v/\fx bz w'.heap.size v (aB (nY b m))/\Γ w'.heap.size w' bz):=ψ λw' hw=>all hw.size (cU.still (Δ.aJ hw (ϊ _))) (AO HV.e)
          have qY:Hid (∀w',Γ w4.heap.size w4 w'->ύ prog 139 #[se,ζ A7 n7 c7] w' λe bz=>e=Ω (ξ κ cm)/\w'=bz):=ψ λw' hw=>by
             have st:Δ wq.heap.size wq w':=Δ.aJ (eJ.trans (hw.mono eJ.size)) (ϊ _);rw[HE.e.2.2.2.1];exact BI ((de.row.still (Δ.aJ hw (ϊ _)) λ_ _ h=>h)) ((pw.e.still st λ_ _ h=>h).more eJ.size) hw.size
          obtain⟨we,n41,wO,rfl,-⟩:=cU.aI.Φ;obtain⟨Dk,n42,DR,rfl,lY,-⟩:=de.row.Φ;have rF:n42=l:=by rw[<-lY,<-HE.e.2.2.1]
          subst rF;have yZ:=ψ de.row;have fT:Hid (Γ wq.heap.size wq w4):=ψ eJ;clear cU de eJ lY)
       | (go_at_call 139
          refine(qY.e _ ((ώ _ _).alloc (ϊ _) _)).mono ?_
          rintro e w5 ⟨rfl,rfl⟩)
       | (go_at_call 96
          refine(qZ.e _ ((ώ _ _).alloc (ϊ _) _)).mono ?_
          rintro e w6 ⟨sv,rfl,aH,eC⟩;obtain⟨A9,n9,c9,rfl,dh,kW,fg,-⟩:=aH.row.Φ;have e9:n9=nb:=by rw[<-dh];exact HE.e.2.2.2.2.1.symm
          subst e9;have dG:=ψ eC;clear eC aH dh))
      go_roundw;case rel=>exact⟨m+1,by omega,by go_num,ψ ((jL.e.trans (fT.e.mono jL.e.size)).trans ((((ώ w4.heap.size w4).alloc (ϊ _) _).trans (dG.e.mono (by simp))).mono (by have:=fT.e.size;have:=jL.e.size;omega))),ψ (by
       rw[Hh (by rw[<-HE.e.2.1,HE.e.2.2.2.2.2.2];simp;omega),<-HE.e.2.1]
       exact((pw.e.still (Δ.aJ (fT.e.trans ((((ώ w4.heap.size w4).alloc (ϊ _) _).trans (dG.e.mono (by simp))).mono fT.e.size)) (ϊ _)) λ_ _ h=>h).more (by have:=dG.e.size;have:=fT.e.size;simp at *;omega)))⟩
      case measure=>simp[ϗ];omega
    ·by_cases h2:l=n7
     ·have ei:((l:Int)==(n7:Int))=θ:=by simp;omega
      by_cases h3:cm<0
      ·by_cases hE:nb=0
       ·have xe:((nb:Int)==0)=θ:=by simp;omega
        go_wp2_with (first
            | (go_at_call 138
               refine yL.e.mono ?_
               rintro e w4 ⟨sn,se,rfl,cU,de,eJ⟩;have qZ:Hid (∀w',Γ w4.heap.size w4 w'->ύ prog 96 #[η #[ξ κ b.ab,ζ A1 n1 c1,ζ A2 n2 c2,sn]] w' λe bz=>∃v,e=Ω v/\fx bz w'.heap.size v (aB (nY b m))/\Γ w'.heap.size w' bz):=ψ λw' hw=>all hw.size (cU.still (Δ.aJ hw (ϊ _))) (AO HV.e)
               have qY:Hid (∀w',Γ w4.heap.size w4 w'->ύ prog 139 #[se,ζ A7 n7 c7] w' λe bz=>e=Ω (ξ κ cm)/\w'=bz):=ψ λw' hw=>by
                have st:Δ wq.heap.size wq w':=Δ.aJ (eJ.trans (hw.mono eJ.size)) (ϊ _);rw[HE.e.2.2.2.1];exact BI ((de.row.still (Δ.aJ hw (ϊ _)) λ_ _ h=>h)) ((pw.e.still st λ_ _ h=>h).more eJ.size) hw.size
               obtain⟨we,n41,wO,rfl,-⟩:=cU.aI.Φ;obtain⟨Dk,n42,DR,rfl,lY,-⟩:=de.row.Φ;have rF:n42=l:=by rw[<-lY,<-HE.e.2.2.1]
               subst rF;have yZ:=ψ de.row;have fT:Hid (Γ wq.heap.size wq w4):=ψ eJ;clear cU de eJ lY)
            | (go_at_call 139
               have fg:=qY.e (w4.alloc (Obj.cells #[Ϝ ϙ b.ab,Value.slice A1 n1 c1,Value.slice A2 n2 c2,Value.slice we n41 wO] 117)) ((ώ _ _).alloc (ϊ _) _);rw[h2] at fg;refine fg.mono ?_
               clear fg;rintro e w5 ⟨rfl,rfl⟩)
            | (go_at_call 96
               refine(qZ.e _ ((ώ _ _).alloc (ϊ _) _)).mono ?_
               rintro e w6 ⟨sv,rfl,aH,eC⟩;obtain⟨A9,n9,c9,rfl,dh,kW,fg,-⟩:=aH.row.Φ;have e9:n9=nb:=by rw[<-dh];exact HE.e.2.2.2.2.1.symm
               subst e9;have dG:=ψ eC;clear eC aH dh))
        go_roundw;case rel=>exact⟨m+1,by omega,by go_num,ψ ((jL.e.trans (fT.e.mono jL.e.size)).trans ((((ώ w4.heap.size w4).alloc (ϊ _) _).trans (dG.e.mono (by simp))).mono (by have:=fT.e.size;have:=jL.e.size;omega))),ψ (by
            rw[Tv (by rw[<-HE.e.2.1,HE.e.2.2.2.2.2.2];simp;omega),<-HE.e.1]
            have Sq:=yZ.e;rw[h2] at Sq;exact((Sq.still (Δ.aJ (((ώ w4.heap.size w4).alloc (ϊ _) _).trans (dG.e.mono (by simp))) (ϊ _)) λ_ _ h=>h).more (by have:=dG.e.size;simp at this;omega)))⟩
        case measure=>simp[ϗ];omega
       ·have xe:((nb:Int)==0)=χ:=by simp;omega
        go_wp2_with (first
            | (go_at_call 138
               refine yL.e.mono ?_
               rintro e w4 ⟨sn,se,rfl,cU,de,eJ⟩;have qZ:Hid (∀w',Γ w4.heap.size w4 w'->ύ prog 96 #[η #[ξ κ b.ab,ζ A1 n1 c1,ζ A2 n2 c2,sn]] w' λe bz=>∃v,e=Ω v/\fx bz w'.heap.size v (aB (nY b m))/\Γ w'.heap.size w' bz):=ψ λw' hw=>all hw.size (cU.still (Δ.aJ hw (ϊ _))) (AO HV.e)
               have qY:Hid (∀w',Γ w4.heap.size w4 w'->ύ prog 139 #[se,ζ A7 n7 c7] w' λe bz=>e=Ω (ξ κ cm)/\w'=bz):=ψ λw' hw=>by
                have st:Δ wq.heap.size wq w':=Δ.aJ (eJ.trans (hw.mono eJ.size)) (ϊ _);rw[HE.e.2.2.2.1];exact BI ((de.row.still (Δ.aJ hw (ϊ _)) λ_ _ h=>h)) ((pw.e.still st λ_ _ h=>h).more eJ.size) hw.size
               obtain⟨we,n41,wO,rfl,-⟩:=cU.aI.Φ;obtain⟨Dk,n42,DR,rfl,lY,-⟩:=de.row.Φ;have rF:n42=l:=by rw[<-lY,<-HE.e.2.2.1]
               subst rF;have yZ:=ψ de.row;have fT:Hid (Γ wq.heap.size wq w4):=ψ eJ;clear cU de eJ lY)
            | (go_at_call 139
               have fg:=qY.e (w4.alloc (Obj.cells #[Ϝ ϙ b.ab,Value.slice A1 n1 c1,Value.slice A2 n2 c2,Value.slice we n41 wO] 117)) ((ώ _ _).alloc (ϊ _) _);rw[h2] at fg;refine fg.mono ?_
               clear fg;rintro e w5 ⟨rfl,rfl⟩)
            | (go_at_call 96
               refine(qZ.e _ ((ώ _ _).alloc (ϊ _) _)).mono ?_
               rintro e w6 ⟨sv,rfl,aH,eC⟩;obtain⟨A9,n9,c9,rfl,dh,kW,fg,-⟩:=aH.row.Φ;have e9:n9=nb:=by rw[<-dh];exact HE.e.2.2.2.2.1.symm
               subst e9;have dG:=ψ eC;clear eC aH dh))
        go_roundw;case rel=>exact⟨m+1,by omega,by go_num,ψ ((jL.e.trans (fT.e.mono jL.e.size)).trans ((((ώ w4.heap.size w4).alloc (ϊ _) _).trans (dG.e.mono (by simp))).mono (by have:=fT.e.size;have:=jL.e.size;omega))),ψ (by
            rw[Hh (by rw[<-HE.e.2.1,HE.e.2.2.2.2.2.2];simp;omega),<-HE.e.2.1]
            exact((pw.e.still (Δ.aJ (fT.e.trans ((((ώ w4.heap.size w4).alloc (ϊ _) _).trans (dG.e.mono (by simp))).mono fT.e.size)) (ϊ _)) λ_ _ h=>h).more (by have:=dG.e.size;have:=fT.e.size;simp at *;omega)))⟩
        case measure=>simp[ϗ];omega
      ·go_wp2_with (first
        | (go_at_call 138
           refine yL.e.mono ?_
           rintro e w4 ⟨sn,se,rfl,cU,de,eJ⟩;have qZ:Hid (∀w',Γ w4.heap.size w4 w'->ύ prog 96 #[η #[ξ κ b.ab,ζ A1 n1 c1,ζ A2 n2 c2,sn]] w' λe bz=>∃v,e=Ω v/\fx bz w'.heap.size v (aB (nY b m))/\Γ w'.heap.size w' bz):=ψ λw' hw=>all hw.size (cU.still (Δ.aJ hw (ϊ _))) (AO HV.e)
           have qY:Hid (∀w',Γ w4.heap.size w4 w'->ύ prog 139 #[se,ζ A7 n7 c7] w' λe bz=>e=Ω (ξ κ cm)/\w'=bz):=ψ λw' hw=>by
             have st:Δ wq.heap.size wq w':=Δ.aJ (eJ.trans (hw.mono eJ.size)) (ϊ _);rw[HE.e.2.2.2.1];exact BI ((de.row.still (Δ.aJ hw (ϊ _)) λ_ _ h=>h)) ((pw.e.still st λ_ _ h=>h).more eJ.size) hw.size
           obtain⟨we,n41,wO,rfl,-⟩:=cU.aI.Φ;obtain⟨Dk,n42,DR,rfl,lY,-⟩:=de.row.Φ;have rF:n42=l:=by rw[<-lY,<-HE.e.2.2.1]
           subst rF;have yZ:=ψ de.row;have fT:Hid (Γ wq.heap.size wq w4):=ψ eJ;clear cU de eJ lY)
        | (go_at_call 139
           have fg:=qY.e (w4.alloc (Obj.cells #[Ϝ ϙ b.ab,Value.slice A1 n1 c1,Value.slice A2 n2 c2,Value.slice we n41 wO] 117)) ((ώ _ _).alloc (ϊ _) _);rw[h2] at fg;refine fg.mono ?_
           clear fg;rintro e w5 ⟨rfl,rfl⟩)
        | (go_at_call 96
           refine(qZ.e _ ((ώ _ _).alloc (ϊ _) _)).mono ?_
           rintro e w6 ⟨sv,rfl,aH,eC⟩;obtain⟨A9,n9,c9,rfl,dh,kW,fg,-⟩:=aH.row.Φ;have e9:n9=nb:=by rw[<-dh];exact HE.e.2.2.2.2.1.symm
           subst e9;have dG:=ψ eC;clear eC aH dh))
       go_roundw;case rel=>exact⟨m+1,by omega,by go_num,ψ ((jL.e.trans (fT.e.mono jL.e.size)).trans (((ώ w4.heap.size w4).alloc (ϊ _) _).mono (by have:=fT.e.size;have:=jL.e.size;omega))),ψ (by
        rw[Hh (by rw[<-HE.e.2.1,HE.e.2.2.2.2.2.2];simp;omega),<-HE.e.2.1]
        exact((pw.e.still (Δ.aJ (fT.e.trans (((ώ w4.heap.size w4).alloc (ϊ _) _).mono fT.e.size)) (ϊ _)) λ_ _ h=>h).more (by have:=fT.e.size;simp;omega)))⟩
       case measure=>simp[ϗ];omega
     ·have ei:((l:Int)==(n7:Int))=χ:=by simp;omega
      go_wp2_with (first
       | (go_at_call 138
          refine yL.e.mono ?_
          rintro e w4 ⟨sn,se,rfl,cU,de,eJ⟩;have qZ:Hid (∀w',Γ w4.heap.size w4 w'->ύ prog 96 #[η #[ξ κ b.ab,ζ A1 n1 c1,ζ A2 n2 c2,sn]] w' λe bz=>∃v,e=Ω v/\fx bz w'.heap.size v (aB (nY b m))/\Γ w'.heap.size w' bz):=ψ λw' hw=>all hw.size (cU.still (Δ.aJ hw (ϊ _))) (AO HV.e)
          have qY:Hid (∀w',Γ w4.heap.size w4 w'->ύ prog 139 #[se,ζ A7 n7 c7] w' λe bz=>e=Ω (ξ κ cm)/\w'=bz):=ψ λw' hw=>by
             have st:Δ wq.heap.size wq w':=Δ.aJ (eJ.trans (hw.mono eJ.size)) (ϊ _);rw[HE.e.2.2.2.1];exact BI ((de.row.still (Δ.aJ hw (ϊ _)) λ_ _ h=>h)) ((pw.e.still st λ_ _ h=>h).more eJ.size) hw.size
          obtain⟨we,n41,wO,rfl,-⟩:=cU.aI.Φ;obtain⟨Dk,n42,DR,rfl,lY,-⟩:=de.row.Φ;have rF:n42=l:=by rw[<-lY,<-HE.e.2.2.1]
          subst rF;have yZ:=ψ de.row;have fT:Hid (Γ wq.heap.size wq w4):=ψ eJ;clear cU de eJ lY)
       | (go_at_call 139
          refine(qY.e _ ((ώ _ _).alloc (ϊ _) _)).mono ?_
          rintro e w5 ⟨rfl,rfl⟩)
       | (go_at_call 96
          refine(qZ.e _ ((ώ _ _).alloc (ϊ _) _)).mono ?_
          rintro e w6 ⟨sv,rfl,aH,eC⟩;obtain⟨A9,n9,c9,rfl,dh,kW,fg,-⟩:=aH.row.Φ;have e9:n9=nb:=by rw[<-dh];exact HE.e.2.2.2.2.1.symm
          subst e9;have dG:=ψ eC;clear eC aH dh))
      go_roundw;case rel=>exact⟨m+1,by omega,by go_num,ψ ((jL.e.trans (fT.e.mono jL.e.size)).trans (((ώ w4.heap.size w4).alloc (ϊ _) _).mono (by have:=fT.e.size;have:=jL.e.size;omega))),ψ (by
       rw[Hh (by rw[<-HE.e.2.1,HE.e.2.2.2.2.2.2];simp;omega),<-HE.e.2.1]
       exact((pw.e.still (Δ.aJ (fT.e.trans (((ώ w4.heap.size w4).alloc (ϊ _) _).mono fT.e.size)) (ϊ _)) λ_ _ h=>h).more (by have:=fT.e.size;simp;omega)))⟩
      case measure=>simp[ϗ];omega
   ·obtain rfl:m=mp+1:=by omega
    have gJ:BH b=kj b (mp+1):=by unfold BH;rw[if_pos Dx.e.symm,E3.e,RY.e]
    have sA:=ψ gJ;clear gJ;have dw:Γ w.heap.size w wq:=(aW.e.trans ((((ώ _ _).alloc (ϊ _) _).trans (dj.e.mono (by simp))).mono (by omega))).trans (jL.e.mono (by have:=yY.e.1.lt;omega))
    have lx:=ψ dw;clear dw;go_wp2
    go_ret2
    exact⟨_,rfl,by rw[sA.e];exact pw.e,lx.e⟩
def wV:List Cut:=[⟨1,0⟩,⟨0,0⟩,⟨0,6⟩]
def uS:bN:=⟨SY,8,[⟨3,3⟩]⟩
def zi:cZ bg=0:=by decide+kernel
def D5:bT bg 0=0:=by decide+kernel
def afb:Hi uS=[⟨0,2⟩,⟨4,7⟩]:=by decide+kernel
def afj:Jj uS 0=4:=by decide+kernel
def afk:Jj uS 1=8:=by decide+kernel
def afo:scan (λ_ s=>s) [] [sf bg [4,3,3],gZ bg ea]=0:=by decide+kernel
def afp:scan (λ_ s=>s) [] [sf bg [4,3,3],gZ bg wV]=0:=by decide+kernel
def afg:db bg (gx [4,3,3]) ea=θ:=by decide+kernel
def afh:db bg (gx [4,3,3]) wV=χ:=by decide+kernel
def ae9:uP bg=2:=by decide+kernel
def afv:pV (aB bg)=⟨10,10⟩:=by decide+kernel
def afm:bT bg (yv bg 0)=0:=by decide+kernel
def afc:(aB bg).map (·.at 0)=[4,5]:=by decide+kernel
def T5:bT bg (gZ bg ea)=0:=by decide+kernel
def T6:bT bg (gZ bg wV)=0:=by decide+kernel
def afd:ng (fL (λL=>db bg L ea) (aB bg)) (aB bg).length=1:=by decide+kernel
def afe:ng (fL (λL=>db bg L wV) (aB bg)) (aB bg).length=0:=by decide+kernel
def afs:Gk bg (aB bg) ea=θ:=by decide+kernel
def aft:Gk bg (aB bg) wV=χ:=by decide+kernel
def afr:C6 bg ea=[1,1]:=by decide+kernel
def Ge{xs:List Int}(hp:xs.Perm ys)(hs:ys.Pairwise (λx y=>decide (x<=y)=θ)):fQ xs=ys:=by
 have h1:(fQ xs).Perm ys:=(Ai7 _ _).trans hp;refine h1.eq_of_pairwise (le:=λx y=>decide (x<=y)=θ) (λa c _ _ h k=>by simp only[decide_eq_true_eq] at h k;omega) ?_ hs
 exact Ai8 (λa b c h k=>by simp only[decide_eq_true_eq] at *;omega) (λa b=>by simp;omega) _
def SR(mI:List Cut->Int):iR bg mI=φ (ea,mI ea):=by
 have s0:search bg (cB (aB bg)) (iG 0) bg.pieces.length []=ν:=by decide+kernel
 have s1:search bg (cB (aB bg)) (iG 1) bg.pieces.length []=ν:=by decide+kernel
 have s2:search bg (cB (aB bg)) (iG 2) bg.pieces.length []=ν:=by decide+kernel
 have s3:search bg (cB (aB bg)) (iG 3) bg.pieces.length []=φ ea:=by decide+kernel
 unfold iR;rw[if_pos D5];show ga bg (cB (aB bg)) mI 4=_;rw[pn,pn,pn,pn];simp only[ga,List.range_zero,Ai9,sH,s0,s1,s2,s3,mF]
def QF:fQ (ea.map (·.bt))=[0,0,1]:=Ge (by decide) (by decide)
def aff:iR bg iH=φ (ea,2):=by
 rw[SR];unfold iH jX;rw[QF];rfl
def afq:iR bg (FO bg)=φ (ea,14):=by
 rw[SR];unfold FO jX;rw[QF]
 have:mV bg (Lib.compact [0,0,1])=14:=by decide+kernel
 rw[this]
def ae8:DG bg=(0,1):=by decide+kernel
def PT:ByteArray:={data:=#[97,115,104]}
def hJ:bN:=⟨PT,13,[]⟩
def ae6:cZ (fH bg hJ)=0:=by decide+kernel
def nE:List Cut:=[⟨2,0⟩,⟨2,6⟩,⟨2,10⟩]
def ae7:iR (fH bg hJ) iH=φ (nE,1):=by
 have s0:search (fH bg hJ) (cB (aB (fH bg hJ))) (iG 0) 3 []=ν:=by decide+kernel
 have s1:search (fH bg hJ) (cB (aB (fH bg hJ))) (iG 1) 3 []=ν:=by decide+kernel
 have s2:search (fH bg hJ) (cB (aB (fH bg hJ))) (iG 2) 3 []=ν:=by decide+kernel
 have s3:search (fH bg hJ) (cB (aB (fH bg hJ))) (iG 3) 3 []=φ ea:=by decide+kernel
 have s4:search (fH bg hJ) (cB (aB (fH bg hJ))) (iG 4) 3 []=φ nE:=by decide+kernel
 have s5:search (fH bg hJ) (cB (aB (fH bg hJ))) (iG 5) 3 []=φ [⟨2,0⟩,⟨0,0⟩,⟨0,4⟩]:=by decide+kernel
 have s6:search (fH bg hJ) (cB (aB (fH bg hJ))) (iG 6) 3 []=φ [⟨1,0⟩,⟨2,0⟩,⟨2,4⟩]:=by decide+kernel
 have s7:search (fH bg hJ) (cB (aB (fH bg hJ))) (iG 7) 3 []=φ ea:=by decide+kernel
 have m3:iH ea=2:=by unfold iH jX;rw[QF];rfl
 have m4:iH nE=1:=by unfold iH jX;rw[Ge (ys:=[2,2,2]) (by decide) (by decide)];rfl
 have m5:iH [⟨2,0⟩,⟨0,0⟩,⟨0,4⟩]=2:=by unfold iH jX;rw[Ge (ys:=[0,0,2]) (by decide) (by decide)];rfl
 have m6:iH [⟨1,0⟩,⟨2,0⟩,⟨2,4⟩]=2:=by unfold iH jX;rw[Ge (ys:=[1,2,2]) (by decide) (by decide)];rfl
 have ho:bT (fH bg hJ) 0=0:=by decide+kernel
 unfold iR;rw[if_pos ho];show ga (fH bg hJ) (cB (aB (fH bg hJ))) iH 8=_;have hl:(fH bg hJ).pieces.length=3:=rfl;rw[pn,pn,pn,pn,pn,pn,pn,pn];simp only[ga,List.range_zero,Ai9,sH,hl,s0,s1,s2,s3,s4,s5,s6,s7,mF,m3,m4,m5,m6]
 decide
def afi:oT bg 0=[4,5]:=by
 unfold oT;rw[afc,Ge (ys:=[4,5]) (by decide) (by decide)];rfl
def BN:eR:={bg with aI:=bg.aI++ [⟨[0],⟨4,4⟩⟩,⟨[2],⟨2,2⟩⟩]}
def afu:cZ BN=0:=by decide+kernel
def AT{b:eR}{n:al}{out:Nat->Bool}:∀(f:Nat) (cs full:List Cut),search b n out f cs=φ full->full.length=cs.length+f/\∀j,j<=f->search b n out (f - j) (full.take (cs.length+j))=φ full
 |0,cs,full,h=>by
  have h':=h;unfold search at h;cases h
  refine⟨rfl,λj hj=>?_⟩
  obtain rfl:j=0:=by omega
  simpa using h'
 |f+1,cs,full,h=>by
  have h':=h;unfold search at h;obtain⟨k,hk,h⟩:=ū h
  unfold jM at h;split at h
  ·cases h
  ·obtain⟨fr,cq,h⟩:=ū h
   unfold jY at h;split at h
   ·obtain⟨h1,h2⟩:=AT f (cs++ [⟨k,fr⟩]) full h
    have hl:full.length=cs.length+(f+1):=by rw[h1];simp;omega
    have h0:=h2 0 (Ϡ _);refine⟨hl,λj hj=>?_⟩
    cases j with
    |zero=>
     have e:full.take (cs.length+0)=cs:=by
      obtain⟨g1,g2⟩:=J0 f (cs++ [⟨k,fr⟩]) full h;rw[<-g2];simp
     rw[e];exact h'
    |succ j=>
     have:=h2 j (by omega)
     simp only[Ĉ,List.length_singleton] at this;rw[show f+1 - (j+1)=f - j by omega,show cs.length+(j+1)=cs.length+1+j by omega]
     exact this
   ·cases h
where
 J0 {b:eR} {n:al} {out:Nat->Bool}:∀(f:Nat) (cs full:List Cut),search b n out f cs=φ full->∃r,cs++r=full
  |0,cs,full,h=>by unfold search at h;cases h;exact⟨[],by simp⟩
  |f+1,cs,full,h=>by
   unfold search at h;obtain⟨k,hk,h⟩:=ū h
   unfold jM at h;split at h
   ·cases h
   ·obtain⟨fr,cq,h⟩:=ū h
    unfold jY at h;split at h
    ·obtain⟨r,hr⟩:=J0 f _ full h
     exact⟨⟨k,fr⟩::r,by rw[<-hr];simp⟩
    ·cases h
def Yv{n:al}{out:Nat->Bool}{cs full:List Cut}(h:search b n out (f+1) cs=φ full):
 ∃k fr:Nat,k<b.aC.length/\out k=χ/\fr<kF b k/\nX b n cs ⟨k,fr⟩=θ/\full[cs.length]?=φ ⟨k,fr⟩/\search b n out f (cs++ [⟨k,fr⟩])=φ full/\
  ∀g,g<fr->jY b n (search b n out f) cs k g=ν:=by
 unfold search at h;obtain⟨l1,k,l2,e1,hk,-⟩:=Aja.1 h
 have zX:k∈ε b.aC.length:=by rw[e1];simp
 have zU:k<b.aC.length:=by simpa using zX
 unfold jM at hk;split at hk
 ·cases hk
 ·rename_i ho
  obtain⟨m1,fr,m2,e2,hf,br⟩:=Aja.1 hk
  have hfm:fr∈ε (kF b k):=by rw[e2];simp
  have sT:fr<kF b k:=by simpa using hfm
  have NH:∀g,g<fr->jY b n (search b n out f) cs k g=ν:=by
   intro g hg;refine br g ?_
   have e3:m1=ε fr:=by
    have h1:=congrArg (List.take m1.length) e2;rw[List.take_range,List.take_left] at h1;have h2:m1.length<=kF b k:=by have:=congrArg List.length e2;simp at this;omega
    rw[Nat.min_eq_left h2] at h1;have h3:=congrArg (λl=>l[m1.length]?) e2
    simp only[Ū (ϊ _),Nat.sub_self,List.getElem?_cons_zero] at h3
    have h4:m1.length<kF b k:=by have:=congrArg List.length e2;simp at this;omega
    rw[List.getElem?_range h4] at h3
    cases h3;exact h1.symm
   rw[e3];simpa using hg
  unfold jY at hf;split at hf
  ·rename_i cD
   obtain⟨r,hr⟩:=AT.J0 f _ full hf;refine⟨k,fr,zU,by simpa using ho,sT,cD,?_,hf,NH⟩
   rw[<-hr];simp
  ·cases hf
def Qp{b:eR}{n:al}{out:Nat->Bool}{l:List Cut}(hk:∀(j:Nat) (c:Cut),l[j]?=φ c->∃k fr:Nat,c=⟨k,fr⟩/\k<b.aC.length/\out k=χ/\fr<kF b k/\nX b n (l.take j) c=θ):
 ∀(f j:Nat),l.length=j+f->search b n out f (l.take j)≠ν
 |0,j,_=>by unfold search;simp
 |f+1,j,hl=>by
  have hj:j<l.length:=by omega
  obtain⟨k,fr,hc,h1,h2,h3,h4⟩:=hk j l[j] (Ã hj)
  have ih:=Qp hk f (j+1) (by omega)
  intro br;unfold search at br;have br:=zq.1 br k h1;unfold jM at br;rw[h2] at br;simp only[Ð,if_false] at br;have br:=zq.1 br fr h3;unfold jY at br;rw[<-hc,h4] at br;simp only[if_true] at br;rw[Ajb,Ã hj] at ih
  exact ih (by simpa using br)
def S7{b:eR}(hv:Valid b):∀(f i:Nat) (n:al),i+f=b.pieces.length->(∀k,k<i->1<=n.at k)->∀L∈dU b f i n,∀k,k<b.pieces.length->1<=L.at k
 |0,i,n,hi,hn,L,hL=>by
  unfold dU at hL;split at hL
  ·simp at hL;subst hL;intro k hk;exact hn k (by omega)
  ·cases hL
 |f+1,i,n,hi,hn,L,hL=>by
  unfold dU at hL;split at hL
  ·rename_i p hp
   obtain⟨k,hk,hL⟩:=ĺ.1 hL;unfold iJ at hk;obtain⟨j,hj,rfl⟩:=ó.1 hk;have oP:=hv.piece p (Ϩ hp);have:=oP.lo;refine S7 hv f (i+1) _ (by omega) (λq hq=>?_) L hL
   have fM:i<3:=by have:=hv.np.2;omega
   by_cases e:q=i
   ·subst e
    have:(n.set q (p.len.lo+(j:Int))).at q=p.len.lo+j:=by
     unfold al.set al.at;have:q=0\/q=1\/q=2:=by omega
     rcases this with rfl|rfl|rfl<;>simp
    rw[this];omega
   ·have oQ:=hn q (by omega)
    have:(n.set i (p.len.lo+(j:Int))).at q=n.at q:=by
     unfold al.set al.at;have Vk:i=0\/i=1\/i=2:=by omega
     have aix:q=0\/q=1\/q=2:=by omega
     rcases Vk with rfl|rfl|rfl<;>rcases aix with rfl|rfl|rfl<;>simp at e |-
    rw[this];exact oQ
  ·cases hL
def Bt(hv:Valid b)(hL:L∈aB b)(hk:k<b.pieces.length):1<=L.at k:=S7 hv _ 0 _ (by omega) (λk hk=>absurd hk (Nat.not_lt_zero _)) L hL k hk
def agq:∀(n:Nat) (l:List al),l.length=n->(∀L∈l,0<=L.at k)->l≠ []->∃L∈l,L.at k=(cB l).at k:=by
 intro n;induction n with
 |zero=>intro l hl _ h;exact absurd (Ō hl) h
 |succ n Fy=>
  intro l' dM h0 aw;obtain⟨l,x,rfl⟩:∃l x,l'=l++ [x]:=⟨l'.dropLast,l'.getLast aw,(List.dropLast_concat_getLast aw).symm⟩
  have ih:=Fy l (by simpa using dM)
  rw[UD];have hx:=h0 x (by simp)
  by_cases hl:l=[]
  ·subst hl
   refine⟨x,by simp,?_⟩
   unfold cB iq al.at;unfold al.at at hx;simp only[Ai9];split
   ·rename_i h;simp only[h,if_true] at hx;simp;omega
   ·split
    ·rename_i h h';simp only[h,h',if_true,if_false] at hx;simp;omega
    ·rename_i h h';simp only[h,h',if_false] at hx;simp;omega
  ·obtain⟨L,hL,e⟩:=ih (λL hL=>h0 L (by simp[hL])) hl
   have hu:(iq (cB l) x 3).at k=if(cB l).at k<x.at k then x.at k else(cB l).at k:=by
    unfold iq al.at;simp only[show 0<3 by omega,show 1<3 by omega,show 2<3 by omega,if_true]
    split
    ·rfl
    ·split<;>rfl
   rw[hu];split
   ·exact⟨x,by simp,rfl⟩
   ·exact⟨L,by simp[hL],e⟩
def agp(l:List al)(h0:∀L∈l,0<=L.at k)(aw:l≠ []):∃L∈l,L.at k=(cB l).at k:=agq _ l rfl h0 aw
def acj{c d:Cut}{n m n' m':Int}(hs:0<=s)(hn:1<=n')(hm:1<=m')(h1:nA s c d n m'=θ)(h2:nA s c d n' m=θ)(kV:1<=n)(sZ:1<=m):nA s c d n m=θ:=by
 unfold nA at *;cases hb:(c.bt==d.bt) with
 |false=>simp
 |true=>
  simp only[hb,Bool.not_true,Bool.false_or,Aip,decide_eq_true_eq] at *;omega
def aep(hv:Valid b)(aw:aB b≠ []){l:List Cut}(hl:l.length=b.pieces.length)(h:∀L∈aB b,db b L l=θ):db b (cB (aB b)) l=θ:=by
 have hg:∀k,k<b.pieces.length->∃L∈aB b,L.at k=(cB (aB b)).at k:=λk hk=>agp _ (λL hL=>by have:=Bt hv hL hk;omega) aw
 refine j7.2 λi hi=>?_
 unfold ql;rw[Ã hi]
 simp only[ϩ];obtain⟨L,hL,e⟩:=hg i (by omega)
 have Ei:=j7.1 (h L hL) i hi;unfold ql at Ei;rw[Ã hi] at Ei
 simp only[ϩ] at Ei;refine⟨by rw[<-e];exact Ei.1,j7.2 λk hk=>?_⟩
 have fj:=j7.1 Ei.2 k hk;obtain⟨L2,oG,e2⟩:=hg k (by omega)
 have Ig:=j7.1 (h L2 oG) i hi;unfold ql at Ig;rw[Ã hi] at Ig
 simp only[ϩ] at Ig;have eD:=j7.1 Ig.2 k hk;have zU:k<l.length:=by omega
 unfold sg at fj eD |-
 rw[Ã zU] at fj eD |-
 simp only at fj eD |-
 rw[e] at fj;rw[e2] at eD;have a1:=Bt hv hL (k:=i) (by omega)
 have a2:=Bt hv hL (k:=k) (by omega)
 have a3:=Bt hv oG (k:=i) (by omega)
 have a4:=Bt hv oG (k:=k) (by omega)
 exact acj hv.ab.1 a3 a2 fj eD (by omega) (by omega)
def aeq{n:al}{l:List Cut}(h:db b n l=θ){c:Cut}(hj:l[j]?=φ c):nX b n (l.take j) c=θ:=by
 have hl:=(Ϯ.1 hj).1
 have h1:=j7.1 h j hl;unfold ql at h1;rw[hj] at h1;simp only[ϩ] at h1;have hlen:(l.take j).length=j:=by rw[Ć];omega
 unfold nX;rw[hlen,ϩ];refine⟨h1.1,j7.2 λk hk=>?_⟩
 have:=j7.1 h1.2 k hk;unfold sg at this |-
 rw[Ajd hk]
 exact this
def amD(hv:Valid b){n:al}{cs:List Cut}{fr:Nat}(hn:1<=n.at cs.length)(h:nX b n cs ⟨k,fr⟩=θ):fr<kF b k:=by
 unfold nX at h;rw[ϩ] at h;have h:=h.1;unfold pN at h;simp only[Int.toNat_natCast] at h;unfold kF;split at h
 ·rename_i p x h1 h2
  rw[h2];simp only;unfold pO at h;simp only[ϩ,decide_eq_true_eq] at h;omega
 ·cases h
def Mf{b:eR}{n:al}{mI:List Cut->Int}:∀(M:Nat) (c:List Cut) (m:Int),ga b n mI M=φ (c,m)->∃k,search b n (iG k) b.pieces.length []=φ c
 |0,c,m,h=>by simp[ga] at h
 |M+1,c,m,h=>by
  rw[pn] at h;unfold sH at h;split at h
  ·exact Mf M c m h
  ·rename_i l hl
   unfold mF at h;split at h
   ·simp at h;rw[<-h.1];exact⟨M,hl⟩
   ·split at h
    ·simp at h;rw[<-h.1];exact⟨M,hl⟩
    ·rename_i c' m' heq _
     simp at h;rw[<-h.1];exact Mf M c' m' heq
def Jh(c:Cut):fO c c=0:=by unfold fO;simp
def MF(l:List Cut):ff l l=0:=by
 induction l with
 |nil=>rfl
 |cons a l ih=>unfold ff;rw[if_neg (by simp[Jh])];exact ih
def ako{a c d:Cut}(h1:fO a c<0)(h2:fO c d<0):fO a d<0:=by
 unfold fO at *;split at h1<;>split at h2<;>split<;>omega
def Ji{a c:Cut}(h:fO a c=0):a=c:=by
 obtain⟨x,y⟩:=a;obtain⟨z,t⟩:=c;unfold fO at h;simp only at h;split at h
 ·omega
 ·rename_i hn
  have hn:x=z:=by simpa using hn
  subst hn;have:y=t:=by omega
  subst this;rfl
def MG:∀ {l m k:List Cut},l.length=m.length->m.length=k.length->ff l m<0->ff m k<0->ff l k<0
 | [],[],_,_,_,h,_=>by simp[ff] at h
 |a::l,b::m,[],_,h,_,_=>by simp at h
 |a::l,b::m,c::k,h1,h2,ha,hb=>by
  unfold ff at ha hb |-
  by_cases e1:fO a b=0
  ·have:=Ji e1
   subst this;rw[if_neg (by simp[Jh])] at ha
   by_cases e2:fO a c=0
   ·have:=Ji e2
    subst this;rw[if_neg (by simp[Jh])] at hb |-
    exact MG (by simpa using h1) (by simpa using h2) ha hb
   ·rw[if_pos e2] at hb |-;exact hb
  ·rw[if_pos e1] at ha
   by_cases e2:fO b c=0
   ·have:=Ji e2
    subst this;rw[if_pos e1];exact ha
   ·rw[if_pos e2] at hb
    have:=ako ha hb;rw[if_pos (by omega)];exact this
def adY{l m:List Cut}{c d:Cut}(ht:l.take j=m.take j)(hc:l[j]?=φ c)(hd:m[j]?=φ d)(h:0<fO c d):¬ff l m<0:=by
 rw[ME hc hd (λi c d hi h1 h2=>by
  have e1:=Ajd (l:=l) hi
  have e2:=Ajd (l:=m) hi
  rw[ht,e2,h2,h1] at e1;cases e1;exact Jh _) (by omega)]
 omega
def M6{α:Type}{F:Nat->Option α}{x:α}:∀ {n:Nat},(ε n).findSome? F=φ x->∃k,k<n/\F k=φ x/\∀i,i<k->F i=ν
 |0,h=>by simp at h
 |n+1,h=>by
  rw[Ŭ,List.findSome?_append] at h
  cases e:(ε n).findSome? F with
  |some y=>
   rw[e] at h;simp at h;subst h;obtain⟨k,hk,h1,h2⟩:=M6 e;exact⟨k,by omega,h1,h2⟩
  |none=>
   rw[e] at h;exact⟨n,by omega,by simpa using h,zq.1 e⟩
def aoG{n:al}{out:Nat->Bool}{cs full:List Cut}(h:search b n out (f+1) cs=φ full){k0 cS:Nat}(g1:k0<b.aC.length)(g2:out k0=χ)(g3:cS<kF b k0)(g4:nX b n cs ⟨k0,cS⟩=θ)
 (found:search b n out f (cs++ [⟨k0,cS⟩])≠ν):∃k fr:Nat,search b n out f (cs++ [⟨k,fr⟩])=φ full/\(k<k0\/k=k0/\fr<=cS)/\out k=χ:=by
 unfold search at h;obtain⟨k,hk,h1,h2⟩:=M6 h;have t0:jY b n (search b n out f) cs k0 cS≠ν:=by unfold jY;rw[if_pos g4];exact found
 have iA:k<=k0:=by
  apply Classical.byContradiction;intro hn;have:=h2 k0 (by omega)
  unfold jM at this;rw[g2] at this;simp only[Ð,if_false] at this;exact t0 (zq.1 this cS g3)
 unfold jM at h1;cases ho:out k with
 |true=>rw[ho] at h1;simp at h1
 |false=>
  rw[ho] at h1;simp only[Ð,if_false] at h1;obtain⟨fr,cq,h3,h4⟩:=M6 h1;have h5:=h3;unfold jY at h5;split at h5
  ·refine⟨k,fr,h5,?_,ho⟩
   rcases Nat.lt_or_ge k k0 with h'|h'
   ·exact .inl h'
   ·obtain rfl:k=k0:=by omega
    refine .inr ⟨rfl,?_⟩
    apply Classical.byContradiction;intro hn;exact t0 (h4 cS (by omega))
  ·cases h5
def Yu{b:eR}{n:al}{out:Nat->Bool}{l:List Cut}(hk:∀(j:Nat) (c:Cut),l[j]?=φ c->∃k fr:Nat,c=⟨k,fr⟩/\k<b.aC.length/\out k=χ/\fr<kF b k/\nX b n (l.take j) c=θ):
 ∀(f j:Nat),l.length=j+f->∃full,search b n out f (l.take j)=φ full/\¬ff l full<0
 |0,j,hl=>by
  refine⟨l.take j,by unfold search;rfl,?_⟩
  rw[Ċ (by omega),MF]
  omega
 |f+1,j,hl=>by
  have hj:j<l.length:=by omega
  have aw:=Qp hk (f+1) j hl;obtain⟨full,hs⟩:=Option.ne_none_iff_exists'.1 aw;refine⟨full,hs,?_⟩
  obtain⟨k0,cS,jS,g1,g2,g3,g4⟩:=hk j l[j] (Ã hj)
  have hlen:(l.take j).length=j:=by rw[Ć];omega
  have td:l.take (j+1)=l.take j++ [⟨k0,cS⟩]:=by rw[Ajb,Ã hj,jS];rfl
  have found:=Qp hk f (j+1) (by omega)
  rw[td] at found;rw[jS] at g4;obtain⟨k,fr,Wc,hle,-⟩:=aoG hs g1 g2 g3 g4 found;obtain⟨r,hr⟩:=AT.J0 f _ full Wc;have tj:l.take j=full.take j:=by
   rw[<-hr,Aje,Ajf (by omega),List.take_take,Nat.min_self]
  have mN:full[j]?=φ ⟨k,fr⟩:=by
   rw[<-hr,Aje,Ū (by omega),hlen,Nat.sub_self];rfl
  by_cases e:k=k0/\fr=cS
  ·obtain⟨rfl,rfl⟩:=e
   obtain⟨Ut,cI,ah6⟩:=Yu hk f (j+1) (by omega)
   rw[td,Wc] at cI;cases cI;exact ah6
  ·refine adY tj (by rw[Ã hj,jS]) mN ?_
   unfold fO;simp only;split
   ·omega
   ·omega
def Yt{b:eR}{n:al}{out:Nat->Bool}:∀(f:Nat) (cs full:List Cut),(∀c∈cs,∃k:Nat,c.bt=k/\out k=χ)->search b n out f cs=φ full->∀c∈full,∃k:Nat,c.bt=k/\out k=χ
 |0,cs,full,h,hs=>by unfold search at hs;cases hs;exact h
 |f+1,cs,full,h,hs=>by
  obtain⟨k,fr,-,ho,-,-,-,hr,-⟩:=Yv hs;exact Yt f _ full (λc hc=>(ĉ.1 hc).elim (h c) λhc=>by simp at hc;subst hc;exact⟨k,rfl,ho⟩) hr
def Mg{b:eR}{n:al}{mI:List Cut->Int}:∀(M k:Nat) (l:List Cut),k<M->search b n (iG k) b.pieces.length []=φ l->∃c m,ga b n mI M=φ (c,m)/\c.length=b.pieces.length/\m=mI c/\(m<mI l\/m=mI l/\¬ff l c<0)
 |0,k,l,hk,_=>by omega
 |M+1,k,l,hk,hl=>by
  rw[pn];have hlen:∀ {q:Nat} {l:List Cut},search b n (iG q) b.pieces.length []=φ l->l.length=b.pieces.length:=λh=>by have:=(AT _ _ _ h).1;simpa using this
  have zr:∀ {c:List Cut} {m:Int},ga b n mI M=φ (c,m)->c.length=b.pieces.length/\m=mI c:=λh=>G9 M _ _ h
  unfold sH;by_cases e:k=M
  ·subst e
   rw[hl];simp only;unfold mF;cases hb:ga b n mI k with
   |none=>exact⟨l,mI l,rfl,hlen hl,rfl,.inr ⟨rfl,by rw[MF];omega⟩⟩
   |some p=>
    obtain⟨c,m⟩:=p;obtain⟨h1,h2⟩:=zr hb;simp only;split
    ·exact⟨l,mI l,rfl,hlen hl,rfl,.inr ⟨rfl,by rw[MF];omega⟩⟩
    ·rename_i br
     refine⟨c,m,rfl,h1,h2,?_⟩
     rcases Int.lt_or_le m (mI l) with h'|h'
     ·exact .inl h'
     ·exact .inr ⟨by omega,λhc=>br (by omega)⟩
  ·obtain⟨c,m,hb,h1,h2,h3⟩:=Mg M k l (by omega) hl
   rw[hb];cases hs:search b n (iG M) b.pieces.length [] with
   |none=>exact⟨c,m,rfl,h1,h2,h3⟩
   |some l2=>
    have g1:=hlen hs;have g0:=hlen hl;simp only;unfold mF;simp only;split
    ·rename_i I7
     refine⟨l2,mI l2,rfl,g1,rfl,?_⟩
     rcases I7 with hy| ⟨hy,pL⟩
     ·left;rcases h3 with h3| ⟨h3,-⟩<;>omega
     ·rcases h3 with h3| ⟨h3,h4⟩
      ·left;omega
      ·exact .inr ⟨by omega,λhc=>h4 (MG (by omega) (by omega) hc pL)⟩
    ·exact⟨c,m,rfl,h1,h2,h3⟩
where
 G9 {b:eR} {n:al} {mI:List Cut->Int}:∀(M:Nat) (c:List Cut) (m:Int),ga b n mI M=φ (c,m)->c.length=b.pieces.length/\m=mI c
  |0,c,m,h=>by simp[ga] at h
  |M+1,c,m,h=>by
   rw[pn] at h;unfold sH at h;split at h
   ·exact G9 M c m h
   ·rename_i l hl
    have hg:=(AT _ _ _ hl).1;simp at hg;unfold mF at h;split at h
    ·simp at h;rw[<-h.1,<-h.2];exact⟨hg,rfl⟩
    ·rename_i c0 m0 hb
     split at h
     ·simp at h;rw[<-h.1,<-h.2];exact⟨hg,rfl⟩
     ·simp at h;rw[<-h.1,<-h.2];exact G9 M _ _ hb
def aqn(M x:al)(k:Nat):M.at k<=(iq M x 3).at k/\x.at k<=(iq M x 3).at k:=by
 have hu:(iq M x 3).at k=if M.at k<x.at k then x.at k else M.at k:=by
  unfold iq al.at;simp only[show 0<3 by omega,show 1<3 by omega,show 2<3 by omega,if_true]
  split
  ·rfl
  ·split<;>rfl
 rw[hu];split<;>omega
def Xg(k:Nat)(l:List al):∀L∈l,L.at k<=(cB l).at k:=by
 have key:∀(l:List al) (M:al),M.at k<=(l.foldl (λM x=>iq M x 3) M).at k/\∀L∈l,L.at k<=(l.foldl (λM x=>iq M x 3) M).at k:=by
  intro l;induction l with
  |nil=>intro M;exact⟨Int.le_refl _,by simp⟩
  |cons a l ih=>
   intro M;obtain⟨h1,h2⟩:=ih (iq M a 3);have:=aqn M a k;refine⟨Ai2 this.1 h1,λL hL=>?_⟩
   rcases Ϧ.1 hL with rfl|hL
   ·exact Ai2 this.2 h1
   ·exact h2 L hL
 exact(key l _).2
def filter_le{α:Type}{p q:α->Bool}:∀(l:List α),(∀x∈l,p x=θ->q x=θ)->(l.filter p).length<=(l.filter q).length
 | [],_=>ϊ _
 |a::l,h=>by
  have ih:=filter_le l λx hx=>h x (by simp[hx])
  have ha:=h a (by simp)
  cases hp:p a with
  |true=>rw[Ajg hp,Ajg (ha hp)];simpa using ih
  |false=>
   rw[Ajh (by simp[hp])]
   cases hq:q a with
   |true=>rw[Ajg hq];simp;omega
   |false=>rw[Ajh (by simp[hq])];exact ih
def aeo{G:al}{l:List Cut}(h:db b G l=θ)(hL:∀k,k<l.length->L.at k<=G.at k):db b L l=θ:=by
 refine j7.2 λi hi=>?_
 have h0:=j7.1 h i hi;unfold ql at h0 |-
 rw[Ã hi] at h0 |-
 simp only[ϩ] at h0 |-
 have e1:=hL i hi;refine⟨?_,j7.2 λk hk=>?_⟩
 ·have h1:=h0.1
  unfold pN at h1 |-
  split
  ·rename_i p x e2 e3
   rw[e2,e3] at h1;simp only at h1;unfold pO at h1 |-
   simp only[ϩ,decide_eq_true_eq] at h1 |-
   refine⟨by omega,Ai2 ?_ h1.2⟩
   unfold lG;have:=filter_le (p:=ye l[i].from_ (l[i].from_+L.at i - 1)) (q:=ye l[i].from_ (l[i].from_+G.at i - 1)) x.cM λy _ hy=>by
    unfold ye at hy |-
    simp at hy |-
    omega
   omega
  ·rename_i br
   split at h1
   ·rename_i p x e2 e3;exact absurd e3 (br p x e2)
   ·cases h1
 ·have h1:=j7.1 h0.2 k hk
  have e2:=hL k (by omega)
  unfold sg at h1 |-
  rw[Ã (show k<l.length by omega)] at h1 |-
  simp only at h1 |-
  unfold nA at h1 |-
  cases hb:(l[i].bt==l[k].bt) with
  |false=>simp
  |true=>
   simp only[hb,Bool.not_true,Bool.false_or,Aip,decide_eq_true_eq] at *;omega
def aoF{n:al}{out:Nat->Bool}{full:List Cut}(hs:search b n out f []=φ full):db b n full=θ:=by
 obtain⟨hl,hj⟩:=AT f [] full hs;refine j7.2 λi hi=>?_
 have h1:=hj i (by simp at hl;omega)
 have hf:f - i=(f - i - 1)+1:=by simp at hl;omega
 rw[hf] at h1;obtain⟨k,fr,-,-,-,cD,mN,-,-⟩:=Yv h1;simp only[List.length_nil,Nat.zero_add] at cD mN;have hlen:(full.take i).length=i:=by rw[Ć];omega
 rw[hlen] at mN;unfold ql;rw[mN];unfold nX at cD;rw[hlen,ϩ] at cD;simp only[ϩ];refine⟨cD.1,j7.2 λq hq=>?_⟩
 have:=j7.1 cD.2 q hq;unfold sg at this |-
 rwa[Ajd hq] at this
def LP(l m:List Int):Prop:=l.Pairwise (· < ·)/\∀x,x∈l↔x∈m
def TH{zs:List Int}(hs:zs.Pairwise (· <= ·)):LP (Lib.compact zs) zs:=by
 have key:∀m,m<=zs.length->(Aiz zs.toArray m).Pairwise (· < ·)/\(∀x,x∈Aiz zs.toArray m↔x∈zs.take m):=by
  intro m;induction m with
  |zero=>intro _;simp[Aiz]
  |succ m ih=>
   intro hm;obtain⟨h1,h2⟩:=ih (by omega)
   have ao:m<zs.length:=by omega
   have eg:zs.toArray[m]! =zs[m]:=by simp[ao]
   have et:zs.take (m+1)=zs.take m++ [zs[m]]:=by rw[Ajb,Ã ao];rfl
   rw[Lib.compactUpTo_succ,et];have le:∀x∈zs.take m,x<=zs[m]:=by
    intro x hx;obtain⟨j,hj,rfl⟩:=Aji hx;have Vp:j<m:=by simp at hj;omega
    rw[List.getElem_take];exact Ajj.1 hs j m (by omega) ao Vp
   by_cases hk:Lib.keeps zs.toArray m=θ
   ·rw[if_pos hk,eg]
    have ne:∀x∈zs.take m,x≠zs[m]:=by
     intro x hx hxe;have sZ:m≠0:=by rintro rfl;simp at hx
     simp only[Lib.keeps,decide_eq_true_eq] at hk;rcases hk with hk|hk
     ·exact sZ hk
     ·rw[eg] at hk
      have e1:zs.toArray[m - 1]! =zs[m - 1]:=by simp[show m - 1<zs.length by omega]
      rw[e1] at hk;obtain⟨j,hj,rfl⟩:=Aji hx;have Vp:j<m:=by simp at hj;omega
      rw[List.getElem_take] at hxe;have a1:zs[m - 1]<=zs[m]:=Ajj.1 hs (m - 1) m (by omega) ao (by omega)
      have a2:zs[j]<=zs[m - 1]:=by
        rcases Nat.lt_or_ge j (m - 1) with h'|h'
        ·exact Ajj.1 hs j (m - 1) (by omega) (by omega) h'
        ·have:j=m - 1:=by omega
         subst this;exact Int.le_refl _
      omega
    refine⟨List.pairwise_append.2 ⟨h1,List.pairwise_singleton _ _,λx hx y hy=>?_⟩,λx=>by rw[ĉ,ĉ,h2]⟩
    rw[List.mem_singleton] at hy;subst hy;have ij:=(h2 x).1 hx;have:=le x ij;have:=ne x ij;omega
   ·rw[if_neg hk,List.append_nil]
    refine⟨h1,λx=>?_⟩
    rw[h2,ĉ,List.mem_singleton];refine⟨.inl,?_⟩
    rintro(h|rfl)
    ·exact h
    ·simp only[Lib.keeps,decide_eq_true_eq,not_or,Classical.not_not] at hk
     obtain⟨sZ,hk⟩:=hk;rw[eg] at hk;have e1:zs.toArray[m - 1]! =zs[m - 1]:=by simp[show m - 1<zs.length by omega]
     rw[e1] at hk;rw[hk];exact List.mem_take_iff_getElem.2 ⟨m - 1,by omega,rfl⟩
 have:=key zs.length (ϊ _);rwa[List.take_length] at this
def Y2(l:List Cut):LP (jX l) (l.map (·.bt)):=by
 have hs:(fQ (l.map (·.bt))).Pairwise (· <= ·):=by
  have:=Ai8 (le:=λx y:Int=>decide (x<=y)) (λa b c h1 h2=>by simp at *;omega) (λa b=>by simp;omega) (l.map (·.bt))
  exact this.imp λh=>by simpa using h
 obtain⟨h1,h2⟩:=TH hs;exact⟨h1,λx=>(h2 x).trans (by unfold fQ;exact(Ai7 _ _).mem_iff)⟩
def JQ:∀ {l m:List Int},l.Pairwise (· < ·)->m.Pairwise (· < ·)->(∀x∈l,x∈m)->l.Sublist m
 | [],m,_,_,_=>List.nil_sublist _
 |a::l,[],_,_,h=>by have:=h a (by simp);simp at this
 |a::l,b::m,hl,hm,h=>by
  rw[Ajk] at hl hm;rcases Ϧ.1 (h a (by simp)) with rfl|ha
  ·refine(JQ hl.2 hm.2 λx hx=>?_).cons₂ a
   rcases Ϧ.1 (h x (by simp[hx])) with rfl|h'
   ·have:=hl.1 x hx;omega
   ·exact h'
  ·refine(JQ (Ajk.2 hl) hm.2 λx hx=>?_).cons b
   rcases Ϧ.1 (h x hx) with rfl|h'
   ·have h1:=hm.1 a ha
    rcases Ϧ.1 hx with rfl|hx
    ·omega
    ·have:=hl.1 x hx;omega
   ·exact h'
def akn(a c:Cut):fO a c= - fO c a:=by
 unfold fO;by_cases h:a.bt=c.bt
 ·rw[if_neg (by simp[h]),if_neg (by simp[h])];omega
 ·rw[if_pos h,if_pos (λe=>h e.symm)];omega
def TD:∀ {l m:List Cut},l.length=m.length->ff l m= - ff m l
 | [],[],_=>rfl
 | [],_::_,h=>by simp at h
 |_::_,[],h=>by simp at h
 |a::l,c::m,h=>by
  unfold ff;rw[akn a c];by_cases e:fO c a=0
  ·rw[if_neg (by omega),if_neg (by omega)];exact TD (by simpa using h)
  ·rw[if_pos (by omega),if_pos e]
def TC:∀ {l m:List Cut},l.length=m.length->ff l m=0->l=m
 | [],[],_,_=>rfl
 | [],_::_,h,_=>by simp at h
 |_::_,[],h,_=>by simp at h
 |a::l,c::m,h,e=>by
  unfold ff at e;by_cases e1:fO a c=0
  ·rw[if_neg (by omega)] at e
   rw[Ji e1,TC (by simpa using h) e]
  ·rw[if_pos e1] at e;exact absurd e e1
def alb(p:Nat->Bool):∀n,n<=3->∃k,k<2 ^ n/\∀i,i<n->k.testBit i=p i
 |0,_=>⟨0,by decide,λi hi=>by omega⟩
 |1,_=>by
  refine⟨(p 0).toNat,by cases p 0<;>decide,λi hi=>?_⟩
  obtain rfl:i=0:=by omega
  cases p 0<;>decide
 |2,_=>by
  refine⟨(p 0).toNat+2 * (p 1).toNat,by cases p 0<;>cases p 1<;>decide,λi hi=>?_⟩
  have:i=0\/i=1:=by omega
  rcases this with rfl|rfl<;>cases p 0<;>cases p 1<;>decide
 |3,_=>by
  refine⟨(p 0).toNat+2 * (p 1).toNat+4 * (p 2).toNat,by cases p 0<;>cases p 1<;>cases p 2<;>decide,λi hi=>?_⟩
  have:i=0\/i=1\/i=2:=by omega
  rcases this with rfl|rfl|rfl<;>cases p 0<;>cases p 1<;>cases p 2<;>decide
 |n+4,h=>by omega
def Sk(mI:List Cut->Int):Prop:=∀l m:List Cut,(∀c∈l,∃d∈m,c.bt=d.bt)->mI l<=mI m
def Ri(hv:Valid b)(aw:aB b≠ []){c:List Cut}(hc:mr b c)(hd:∀L∈aB b,db b L c=θ){out:Nat->Bool}(ho:∀d∈c,∀q:Nat,d.bt=q->q<b.aC.length->out q=χ):
 ∃full,search b (cB (aB b)) out b.pieces.length []=φ full/\¬ff c full<0:=by
 have hG:=aep hv aw hc.1 hd;have ahn:∀(j:Nat) (d:Cut),c[j]?=φ d->∃q fr:Nat,d=⟨q,fr⟩/\q<b.aC.length/\out q=χ/\fr<kF b q/\nX b (cB (aB b)) (c.take j) d=θ:=by
  intro j d hj;have oL:=(Ϯ.1 hj).1
  have cD:=hc.2 d (Ϩ hj);obtain⟨q,hq,IW⟩:=cD.bt;have hf:=cD.from_;have e:d=⟨(q:Nat),(d.from_.toNat:Nat)⟩:=by
   obtain⟨x,y⟩:=d;simp only at hq hf |-
   rw[hq,Int.toNat_of_nonneg hf.1]
  have H8:=aeq hG hj;refine⟨q,d.from_.toNat,e,IW,ho d (Ϩ hj) q hq IW,?_,H8⟩
  rw[e] at H8;refine amD hv ?_ H8
  obtain⟨L,hL⟩:=List.exists_mem_of_ne_nil _ aw;have h1:=Bt hv hL (k:=(c.take j).length) (by rw[Ć];have:=hc.1;omega)
  have h2:=Xg (c.take j).length (aB b) L hL;omega
 obtain⟨full,hs,hle⟩:=Yu ahn b.pieces.length 0 (by rw[hc.1];omega)
 rw[ë] at hs;exact⟨full,hs,hle⟩
def acC(hv:Valid b){mI:List Cut->Int}(hm:Sk mI)(aw:aB b≠ []){c:List Cut}(hc:mr b c)(hd:∀L∈aB b,db b L c=θ):
 ∃x m,ga b (cB (aB b)) mI (2 ^ b.aC.length)=φ (x,m)/\m<=mI c/\(m=mI c->¬ff c x<0):=by
 obtain⟨k,hk,eP⟩:=alb (λi=>c.any λd=>d.bt==i) b.aC.length hv.nb
 obtain⟨full,hs,hle⟩:=Ri hv aw hc hd (out:=iG k) (λd hd q hq IW=>by
  unfold iG;rw[eP q IW];simp only[Bool.not_eq_false',Ajl];exact⟨d,hd,by simp[hq]⟩)
 have sT:full.length=b.pieces.length:=by have:=(AT _ _ _ hs).1;simpa using this
 have dc:=Yt _ [] full (by simp) hs
 have vi:=J1 hv _ [] full (by simp) hs
 have hmf:mI full<=mI c:=hm full c λd Ez=>by
  obtain⟨q,hq,ho⟩:=dc d Ez;obtain⟨q',oQ,IW⟩:=(vi.2 d Ez).bt;have:q=q':=by omega
  subst this;unfold iG at ho;rw[eP q IW] at ho;simp only[Bool.not_eq_false',Ajl] at ho;obtain⟨d2,h1,h2⟩:=ho;exact⟨d2,h1,by rw[hq];simpa using(by simpa using h2:d2.bt=q).symm⟩
 obtain⟨x,m,hb,Cx,hxm,h3⟩:=Mg (mI:=mI) _ k full hk hs;refine⟨x,m,hb,by rcases h3 with h3|h3<;>omega,λhe ao=>?_⟩
 have h4:m=mI full/\¬ff full x<0:=by
  rcases h3 with h3|h3
  ·omega
  ·exact h3
 have gJ:=hc.1;by_cases e0:ff c full=0
 ·have:=TC (by omega) e0
  subst this;exact h4.2 ao
 ·have h5:ff full c<0:=by have:=TD (l:=full) (m:=c) (by omega);omega
  exact h4.2 (MG (by omega) (by omega) h5 ao)
def acA{mI:List Cut->Int}{M:Nat}{x:List Cut}{m:Int}(hb:ga b (cB (aB b)) mI M=φ (x,m)):(∀L∈aB b,db b L x=θ)/\m=mI x:=by
 obtain⟨k,hk⟩:=Mf M x m hb;refine⟨λL hL=>aeo (aoF hk) λq _=>Xg q _ L hL,(Mg.G9 M x m hb).2⟩
def alq:Sk iH:=λl m h=>by
 obtain⟨a1,a2⟩:=Y2 l;obtain⟨b1,b2⟩:=Y2 m;have Ao:=JQ a1 b1 λx hx=>by
  obtain⟨c,hc,rfl⟩:=ó.1 ((a2 x).1 hx);obtain⟨d,hd,e⟩:=h c hc;exact(b2 _).2 (ó.2 ⟨d,hd,e.symm⟩)
 unfold iH;exact_mod_cast Ao.length_le
def uR(c:Int):Bool:=decide (48<=c) && decide (c<=57)
def digit(c:Int)(w:Ψ):ύ prog 207 #[.int .u8 c] w λe w'=>e=Ω (.bool (uR c))/\w=w':=by
 go_enter func207,Tryz.ntmps207;go_wp2;all_goals go_ret
 all_goals (refine⟨bU ?_,rfl⟩;unfold uR;first| (simp;done) | (simp[*];done) | (simp;omega))
def JN{s:ByteArray}(hs:s.size<=ϑ)(w:Ψ):
 ύ prog 186 #[.string s] w λe w'=>e=Ω (.bool (nU s.data.toList))/\w=w':=by
 unfold ϑ at hs;by_cases h1:s.size<1
 ·go_enter func186,Tryz.ntmps186
  go_wp2;go_ret;refine⟨bU ?_,rfl⟩
  have e:cj s.data.toList.length 1 10=χ:=by unfold cj;simp;omega
  unfold nU;rw[e,Bool.and_false]
 by_cases h2:10<s.size
 ·go_enter func186,Tryz.ntmps186
  go_wp2;go_ret;refine⟨bU ?_,rfl⟩
  have e:cj s.data.toList.length 1 10=χ:=by unfold cj;simp;omega
  unfold nU;rw[e,Bool.and_false]
 have hlen:cj s.data.toList.length 1 10=θ:=by unfold cj;simp;omega
 have VE:cj (s.size:Int) 1 10=θ:=by simpa using hlen
 have HL:=ψ VE;clear VE;have h0:0<s.size:=by omega
 cases hd:uR s[0].toNat with
 |true=>
  go_enter func186,Tryz.ntmps186;go_wp2_with (first
   | (go_at_call 207;refine(digit _ _).mono ?_;rintro e w' ⟨rfl,rfl⟩;try rw[hd]))
  go_ret;refine⟨bU (Eq.symm (PU (DQ h0) ?_)),rfl⟩
  simp only[uR,ϩ,decide_eq_true_eq] at hd;simp only[kh,Aiq,Air,decide_eq_false_iff_not];omega
 |false=>
  go_enter func186,Tryz.ntmps186;go_wp2_with (first
   | (go_at_call 207;refine(digit _ _).mono ?_;rintro e w' ⟨rfl,rfl⟩;try rw[hd]))
  go_loop [3] (λk=>∃n:Nat,n<=s.size/\k=ξ κ n/\∀j c,j<n->s.data.toList[j]?=φ c->kh j c.toNat=θ) (λk=>s.size - (ϗ k).toNat)
  case atStart=>exact⟨0,Ϡ _,rfl,λj _ hj=>by omega⟩
  case round=>
   obtain⟨n,hn,rfl,bS⟩:=hrel;have HA:=ψ bS;clear bS;by_cases ao:n<s.size
   ·have bad:kh n s[n].toNat=χ->Ending.returned (.bool χ)=Ω (.bool (nU s.data.toList)):=λh=>bU (Eq.symm (PU (DQ ao) h))
    have gW:=ψ bad;have hz:n=0->uR s[n].toNat=χ:=λe=>by subst e;exact hd
    have HZ:=ψ hz;clear bad hz;have zr:kh n s[n].toNat=θ->∀j c,j<n+1->s.data.toList[j]?=φ c->kh j c.toNat=θ:=λh j c hj qu=>by
     rcases Æ.1 hj with h'|rfl
     ·exact HA.e j c h' qu
     ·have e:c=s[j]:=by simpa using((DQ ao).symm.trans qu).symm
      subst e;exact h
    have RJ:=ψ zr;clear zr;cases xq:uR s[n].toNat with
    |true=>
     have hc:kh n s[n].toNat=θ:=by
      have kV:n≠0:=λe=>by have:=HZ.e e;rw[xq] at this;cases this
      simp only[uR,ϩ,decide_eq_true_eq] at xq;simp only[kh,Aip,ϩ,decide_eq_true_eq];omega
     have HC:=ψ hc;clear hc;go_wp2_with (first
      | (go_at_call 207;refine(digit _ _).mono ?_;rintro e w' ⟨rfl,rfl⟩;try rw[xq]))
     go_round
     case rel=>exact⟨n+1,by omega,by go_num,RJ.e HC.e⟩
     case measure=>simp[ϗ];omega
    |false=>
     have oN:¬ (48<=s[n].toNat/\s[n].toNat<=57):=by
      intro h;have:uR s[n].toNat=θ:=by simp only[uR,ϩ,decide_eq_true_eq];omega
      rw[this] at xq;cases xq
     by_cases ha:s[n].toNat<97
     ·have hc:kh n s[n].toNat=χ:=by
       simp only[kh,Aiq,Air,decide_eq_false_iff_not];omega
      have R:=ψ (gW.e hc);clear hc;go_wp2_with (first
       | (go_at_call 207;refine(digit _ _).mono ?_;rintro e w' ⟨rfl,rfl⟩;try rw[xq]))
      go_ret;exact⟨R.e,rfl⟩
     by_cases hb:122<s[n].toNat
     ·have hc:kh n s[n].toNat=χ:=by
       simp only[kh,Aiq,Air,decide_eq_false_iff_not];omega
      have R:=ψ (gW.e hc);clear hc;go_wp2_with (first
       | (go_at_call 207;refine(digit _ _).mono ?_;rintro e w' ⟨rfl,rfl⟩;try rw[xq]))
      go_ret;exact⟨R.e,rfl⟩
     have hc:kh n s[n].toNat=θ:=by
      simp only[kh,Aip,ϩ,decide_eq_true_eq];omega
     have HC:=ψ hc;clear hc;go_wp2_with (first
      | (go_at_call 207;refine(digit _ _).mono ?_;rintro e w' ⟨rfl,rfl⟩;try rw[xq]))
     go_round
     case rel=>exact⟨n+1,by omega,by go_num,RJ.e HC.e⟩
     case measure=>simp[ϗ];omega
   ·obtain rfl:n=s.size:=by omega
    go_wp2;go_ret;refine⟨bU ?_,rfl⟩
    simp[nU,HL.e,MB s.data.toList 0 (λk c hk=>by
     have:=HA.e k c (by have:=(Ϯ.1 hk).1;simpa using this) hk;simpa using this)]
def rising{np:Nat}(hv:Row w B 1 bI v l)(hB:B<=w.heap.size)(kX:np<=ϑ):
 ύ prog 57 #[v,ξ κ np] w λe w'=>e=Ω (ξ κ (eN np ν l))/\Γ w.heap.size w w':=by
 obtain⟨A,n,c,rfl,hl,ey,hc,hr⟩:=hv.Φ;unfold ϑ at hc kX;have KR:=ψ hr;have KL:=ψ hl;clear hv hr hl;go_enter func57,Tryz.ntmps57;go_wp2;go_loopw [4,5] (λr k wr=>∃j:Nat,j<=n/\k=ξ κ j/\r=ξ κ 0/\eN np ν l=eN np (mY l j) (l.drop j)/\Γ w.heap.size w wr) (λ_ k _=>n - (ϗ k).toNat)
 case atStart=>exact⟨0,Ϡ _,rfl,rfl,rfl,ώ _ _⟩
 case round=>
  obtain⟨j,hj,rfl,rfl,xP,hb⟩:=hrel;have RE:=ψ xP;have HB:=ψ hb;clear xP;by_cases oL:j<n
  ·obtain⟨kd,y,cs,rfl,rR,hy,rfl,-,aq⟩:=KR.e j oL
   have st:Δ B w wr:=Δ.aJ hb hB;have ST:=ψ st;have q0:kd.block<wr.heap.size:=by have:=hb.size;omega
   have g1:=cA aq st rR rfl;rw[Ī] at g1;have HY:=ψ hy;clear hy aq st hb;cases dc:cj y 0 (np - 1) with
   |false=>
    go_wp2_with (first
     | (go_at_call 62;refine(oS _ _ _ _).mono ?_;rintro e w' ⟨rfl,rfl⟩))
    go_ret;refine⟨bm ?_,HB.e⟩
    rw[RE.e,drop_cons HY.e];cases mY l j<;>simp[eN,dc]
   |true=>
    rcases Nat.eq_zero_or_pos j with wZ|wZ
    ·subst wZ
     rw[show kd.add 0=kd from rfl] at g1
     go_wp2_with (first
      | (go_at_call 62;refine(oS _ _ _ _).mono ?_;rintro e w' ⟨rfl,rfl⟩))
     go_quiet (fail);go_wp2;have hrel:eN np ν l=eN np (mY l 1) (l.drop 1):=by rw[RE.e,drop_cons HY.e];simp[mY,eN,dc,HY.e]
     go_roundw;case rel=>exact⟨1,oL,by go_num,rfl,hrel,by first|exact HB.e|exact jr HB.e _⟩
     case measure=>simp[ϗ];omega
    ·obtain⟨q,rfl⟩:∃q,j=q+1:=⟨j - 1,by omega⟩
     obtain⟨fl,z,TL,DY,Vs,hz,rfl,-,xm⟩:=KR.e q (by omega)
     cases DY;rw[show kd.add (q+1)=⟨kd.block,kd.off+(q+1),ν⟩ from rfl] at g1
     have g3:=cA xm ST.e rR rfl;rw[Ī] at g3;have HZ:=ψ hz;clear hz xm;have ig:decide ((0:Int)<((q+1:Nat):Int))=θ:=by simp<;>omega
     by_cases sa:y<=z
     ·have hd:decide (y<=z)=θ:=by simpa using sa
      go_wp2_with (first
          | (go_at_call 62;refine(oS _ _ _ _).mono ?_;rintro e w' ⟨rfl,rfl⟩))
      go_quiet (fail);go_wp2;go_ret;refine⟨bm ?_,by first|exact HB.e|exact jr HB.e _⟩
      rw[RE.e,drop_cons HY.e];simp[mY,HZ.e,eN,dc,sa]
     ·have hd:decide (y<=z)=χ:=by simpa using sa
      have hrel:eN np ν l=eN np (mY l (q+2)) (l.drop (q+2)):=by rw[RE.e,drop_cons HY.e];simp[mY,HZ.e,HY.e,eN,dc];omega
      have HR:=ψ hrel;clear hrel;go_wp2_with (first
          | (go_at_call 62;refine(oS _ _ _ _).mono ?_;rintro e w' ⟨rfl,rfl⟩))
      go_quiet (fail);go_wp2;go_roundw;case rel=>exact⟨q+2,by omega,by go_num,rfl,HR.e,by first|exact HB.e|exact jr HB.e _⟩
      case measure=>simp[ϗ];omega
  ·obtain rfl:j=n:=by omega
   go_wp2;go_ret;refine⟨bm ?_,HB.e⟩
   rw[RE.e,ů (by rw[KL.e];exact ϊ _)]
   cases mY l j<;>rfl
def Gf{a b lo hi m:Int}:kI a b lo hi m=(vg a b lo hi && decide (b - a<m)):=by
 unfold kI vg;cases decide (lo<=a)<;>cases decide (a<=b)<;>cases decide (b<=hi)<;>rfl
def anq{l:List Piece}(hv:Row w B 4 Piece.R pv l)(hB:B<=w.heap.size):
 ύ prog 145 #[pv] w λe w'=>e=Ω (ξ κ (jh l))/\Γ w.heap.size w w':=by
 obtain⟨A,m,c,rfl,hl,ey,hc,hr⟩:=hv.Φ;have dM:=ψ hl;unfold ϑ at hc;have H2:=ψ hr;clear hl hr hv;cases hlen:cj m 1 3 with
 |false=>
  go_enter func145,Tryz.ntmps145;go_wp2_with (first
   | (go_at_call 62;refine(oS _ _ _ _).mono ?_;rintro e w' ⟨rfl,rfl⟩))
  go_ret;exact⟨bm (by unfold jh;rw[dM.e,hlen];rfl),ώ _ _⟩
 |true=>
  have IL:m<=3:=by have:=nS hlen;omega
  go_enter func145,Tryz.ntmps145;go_wp2_with (first
   | (go_at_call 62;refine(oS _ _ _ _).mono ?_;rintro e w' ⟨rfl,rfl⟩))
  go_loopw [2,3,4,5] (λr k u v wr=>∃i:Nat,i<=m/\k=ξ κ i/\(∀(j:Nat) (x:Piece),j<i->l[j]?=φ x->lI (l.take j) x=0)/\Γ w.heap.size w wr) (λ_ k _ _ _=>m - (ϗ k).toNat)
  case atStart=>exact⟨0,Ϡ _,rfl,λj _ hj=>by omega,ώ _ _⟩
  case round=>
   obtain⟨i,hi,rfl,bS,hb⟩:=hrel;have HH:=ψ (Ϗ bS hb);have vA:w.heap.size<=wr.heap.size:=hb.size;by_cases ao:i<m
   ·obtain⟨ad,x,cs,rfl,aE,hx,⟨rfl,dD⟩,-,aq⟩:=H2.e i ao
    have st:Δ B w wr:=Δ.aJ hb hB;have ST:=ψ st;have h0:=cA aq st aE rfl;have h1:=bj aq st aE 0 rfl;have h2:=bj aq st aE 1 rfl;have h3:=bj aq st aE 2 rfl;have qb:(ad.add (i * 4)).block<wr.heap.size:=by rw[b9];omega
    have HX:=ψ hx;have sA:=ψ aq;clear bS hb hx aq st;have bad:∀s:Int,lI (l.take i) x=s->s≠0->s=jh l:=λs hs h0=>by
     unfold jh;rw[dM.e,hlen,if_pos rfl,vQ HX.e HH.e.1 (by rw[hs];exact h0),hs]
    have gW:=ψ bad;clear bad;cases ej:nU x.name.data.toList with
    |false=>
     go_wp2_with (first
      | (go_at_call 186;refine(JN dD _).mono ?_;rintro e w1 ⟨rfl,rfl⟩;try rw[ej]))
     go_ret;exact⟨bm (gW.e 4 (by unfold lI;rw[ej];rfl) (by omega)),HH.e.2⟩
    |true=>
     go_wp2_with (first
      | (go_at_call 186;refine(JN dD _).mono ?_;rintro e w1 ⟨rfl,rfl⟩;try rw[ej]))
     clear h0;have HN:=ψ dD;go_loopw [4] (λk wq=>∃j:Nat,j<=i/\k=ξ κ j/\(∀(q:Nat) (y:Piece),q<j->l[q]?=φ y->kH y.name x.name=χ)/\Γ w.heap.size w wq) (λk _=>i - (ϗ k).toNat)
     case atStart=>exact⟨0,Ϡ _,rfl,λq _ hq=>by omega,HH.e.2⟩
     case round=>
      obtain⟨j,hj,rfl,br,Iu⟩:=hrel;have HO:=ψ (Ϗ br Iu);have E9:w.heap.size<=wr.heap.size:=Iu.size;have C7:Δ B w wr:=Δ.aJ Iu hB;have ZX:=ψ C7;have h0:=cA sA.e C7 aE rfl;have h1:=bj sA.e C7 aE 0 rfl;have h2:=bj sA.e C7 aE 1 rfl;have h3:=bj sA.e C7 aE 2 rfl;have qb':(ad.add (i * 4)).block<wr.heap.size:=by rw[b9];omega
      clear br Iu C7;by_cases qv:j<i
      ·obtain⟨DE,y,bu,e',ag7,hy,⟨rfl,OF⟩,-,Cb⟩:=H2.e j (by omega)
       cases e';have g0:=cA Cb ZX.e aE rfl;have qc:(ad.add (j * 4)).block<wr.heap.size:=by rw[b9];omega
       have HY:=ψ hy;clear hy Cb OF;cases hs:kH y.name x.name with
       |true=>
        have cI:(y.name.toList==x.name.toList)=θ:=hs;go_wp2;go_quiet (fail);go_wp2;go_ret;refine⟨bm (gW.e 5 ?_ (by omega)),by first|exact HO.e.2|exact jr HO.e.2 _⟩
        unfold lI;rw[ej,if_pos rfl,if_pos];rw[Ajl];exact⟨y,Ϩ (i:=j) (by rw[ĕ,if_pos qv];exact HY.e),hs⟩
       |false=>
        have cI:(y.name.toList==x.name.toList)=χ:=hs;go_wp2;go_quiet (fail);go_wp2;go_roundw;case rel=>exact⟨j+1,by omega,by go_num,λq z hq hz=>by
            rcases Æ.1 hq with h|rfl
            ·exact HO.e.1 q z h hz
            ·rw[HY.e] at hz;cases hz;exact hs,by first|exact HO.e.2|exact jr HO.e.2 _⟩
        case measure=>simp[ϗ];omega
      ·obtain rfl:j=i:=by omega
       have Er:(l.take j).any (λq=>kH q.name x.name)=χ:=by
           rw[Ajn];intro z hz;obtain⟨q,hq⟩:=Ai3 hz
           rw[ĕ] at hq
           split at hq
           ·rename_i Aj;simpa using HO.e.1 q z Aj hq
           ·cases hq
       have wj:=ψ Er;clear Er;cases hw:vg x.len.lo x.len.hi 1 40 with
       |false=>
        go_wp2_with (first
            | (go_at_call 49;refine(within _).mono ?_;rintro e w2 ⟨rfl,an⟩;try rw[hw]))
        go_ret;refine⟨bm (gW.e 1 (by unfold lI;rw[ej,wj.e,Gf,hw];rfl) (by omega)),da HO.e.2 an E9⟩
       |true=>
        have Ct:1<=x.len.lo/\x.len.lo<=x.len.hi/\x.len.hi<=40:=by
            simp only[vg,ϩ,decide_eq_true_eq] at hw;exact hw
        obtain⟨b1,b2,b3⟩:=Ct;by_cases zQ:3<=x.len.hi - x.len.lo
        ·go_wp2_with (first
             | (go_at_call 49;refine(within _).mono ?_;rintro e w2 ⟨rfl,an⟩;obtain⟨eu,oJ⟩:=gG an rfl;have aZ:wr.heap.size<w2.heap.size:=pM an;have eH:=ψ (da HO.e.2 an E9);clear an;try rw[hw]))
         go_ret;refine⟨bm (gW.e 1 (by unfold lI;rw[ej,wj.e,Gf,hw];simp;omega) (by omega)),eH.e⟩
        ·have mQ:kI x.len.lo x.len.hi 1 40 3=θ:=by rw[Gf,hw];simp;omega
         have Sa:=ψ mQ;clear mQ;cases Ah:cj x.bears 0 2 with
         |false=>
          go_wp2_with (first
             | (go_at_call 49;refine(within _).mono ?_;rintro e w2 ⟨rfl,an⟩;obtain⟨eu,oJ⟩:=gG an rfl;have aZ:wr.heap.size<w2.heap.size:=pM an;have eH:=ψ (da HO.e.2 an E9);clear an;try rw[hw])
             | (go_at_call 62;refine(oS _ _ _ _).mono ?_;rintro e w' ⟨rfl,rfl⟩;try rw[Ah]))
          go_ret;refine⟨bm (gW.e 1 (by unfold lI;rw[ej,wj.e,Sa.e,Ah];rfl) (by omega)),eH.e⟩
         |true=>
          go_wp2_with (first
             | (go_at_call 49;refine(within _).mono ?_;rintro e w2 ⟨rfl,an⟩;obtain⟨eu,oJ⟩:=gG an rfl;have aZ:wr.heap.size<w2.heap.size:=pM an;have eH:=ψ (da HO.e.2 an E9);clear an;try rw[hw])
             | (go_at_call 62;refine(oS _ _ _ _).mono ?_;rintro e w' ⟨rfl,rfl⟩;try rw[Ah]))
          go_roundw;case rel=>exact⟨j+1,by omega,by go_num,λq y hq hy=>by
             rcases Æ.1 hq with h|rfl
             ·exact HH.e.1 q y h hy
             ·rw[HX.e] at hy;cases hy;unfold lI;rw[ej,wj.e,Sa.e,Ah];rfl,eH.e⟩
          case measure=>simp[ϗ];omega
   ·obtain rfl:i=m:=by omega
    go_wp2;go_ret;refine⟨bm ?_,HH.e.2⟩
    unfold jh;rw[dM.e,hlen,if_pos rfl,vP (λj x hj=>HH.e.1 j x (by have:=(Ϯ.1 hj).1;have:=dM.e;omega) hj)]
def vI(l:List Span)(i:Nat):Int:=if i=0 then -1 else match l[i - 1]? with
 |some k=>k.hi
 |none=>0
def Jd{last:Int}{k:Span}{l:List Span}:mU aL last (k::l)=if kI k.lo k.hi 0 (aL - 1) aL then if k.lo<=last then 7 else mU aL k.hi l else 1:=rfl
def Je{a b:Int}:kI a b 0 (aL - 1) aL=vg a b 0 (aL - 1):=by
 rw[Gf];by_cases h:vg a b 0 (aL - 1)=θ
 ·rw[h]
  simp only[vg,ϩ,decide_eq_true_eq] at h;simp;omega
 ·simp only[Bool.not_eq_true] at h;rw[h];rfl
def ano{kv:υ}{l:List bN}(dD:x.name.size<=ϑ)(hk:Row w B 2 Span.R kv x.cM)(hv:Row w B 3 (bN.R w B) v l)(hB:B<=w.heap.size):
 ύ prog 146 #[v,η #[.string x.name,ξ κ x.aL,kv]] w λe w'=>e=Ω (ξ κ (iw l x))/\Γ w.heap.size w w':=by
 obtain⟨A0,m0,c0,rfl,Vw,asA,jS,IX⟩:=hv.Φ;obtain⟨A,m,c,rfl,hl,ey,hc,hr⟩:=hk.Φ;have dM:=ψ hl;have Y6:=ψ Vw;have H0:=ψ IX;unfold ϑ at hc jS;have H2:=ψ hr;clear hl hr hk hv Vw IX;have kb:Bk (w.alloc (Ξ #[.string x.name,ξ κ x.aL,ζ A m c] 59)) w.heap.size 59 #[.string x.name,ξ κ x.aL,ζ A m c]:=Bk.new _ _ _;have KB:=ψ kb;have rL:Γ w.heap.size w (w.alloc (Ξ #[.string x.name,ξ κ x.aL,ζ A m c] 59)):=(ώ _ _).alloc (ϊ _) _;have iN:=ψ rL;clear kb rL;cases ej:nU x.name.data.toList with
 |false=>
  go_enter func146,Tryz.ntmps146;go_wp2_with (first
   | (go_at_call 186;refine(JN dD _).mono ?_;rintro e w1 ⟨rfl,rfl⟩;try rw[ej]))
  go_ret;exact⟨bm (by unfold iw;rw[ej];rfl),iN.e⟩
 |true=>
  go_enter func146,Tryz.ntmps146;go_wp2_with (first
   | (go_at_call 186;refine(JN dD _).mono ?_;rintro e w1 ⟨rfl,rfl⟩;try rw[ej]))
  go_loopw [5] (λk wr=>∃i:Nat,i<=m0/\k=ξ κ i/\(∀(q:Nat) (y:bN),q<i->l[q]?=φ y->kH y.name x.name=χ)/\Γ (w.heap.size+1) (w.alloc (Ξ #[.string x.name,ξ κ x.aL,ζ A m c] 59)) wr) (λk _=>m0 - (ϗ k).toNat)
  case atStart=>exact⟨0,Ϡ _,rfl,λq _ hq=>by omega,ώ _ _⟩
  case round=>
   obtain⟨i,hi,rfl,br,hb⟩:=hrel;have HO:=ψ (Ϗ br hb);have gI:Γ w.heap.size w wr:=iN.e.trans (hb.mono (by omega))
   have BW:=ψ gI;have aN:w.heap.size<wr.heap.size:=by have:=hb.size;simp at this;omega
   have kr:=KB.e.below hb (by omega)
   have r0:=kr.cell 0;have r1:=kr.cell 1;have r2:=kr.cell 2;have st:Δ B w wr:=Δ.aJ gI hB;have ST:=ψ st;have KR:=ψ kr;clear br hb gI kr;by_cases ao:i<m0
   ·obtain⟨ad,y,cs,rfl,aE,hy,⟨kD,rfl,OF,-⟩,-,aq⟩:=H0.e i ao
    have g0:=cA aq st aE rfl;have qc:(ad.add (i * 3)).block<wr.heap.size:=by rw[b9];omega
    have HY:=ψ hy;clear hy aq st OF;cases hs:kH y.name x.name with
    |true=>
     have cI:(y.name.toList==x.name.toList)=θ:=hs;go_wp2;go_quiet (fail);go_wp2;go_ret;refine⟨bm ?_,by first|exact BW.e|exact jr BW.e _⟩
     unfold iw;rw[ej,if_pos rfl,if_pos];rw[Ajl];exact⟨y,Ϩ HY.e,hs⟩
    |false=>
     have cI:(y.name.toList==x.name.toList)=χ:=hs;go_wp2;go_quiet (fail);go_wp2;go_roundw;case rel=>exact⟨i+1,by omega,by go_num,λq z hq hz=>by
      rcases Æ.1 hq with h|rfl
      ·exact HO.e.1 q z h hz
      ·rw[HY.e] at hz;cases hz;exact hs,by first|exact HO.e.2|exact jr HO.e.2 _⟩
     case measure=>simp[ϗ];omega
   ·obtain rfl:i=m0:=by omega
    have Er:l.any (λq=>kH q.name x.name)=χ:=by
     rw[Ajn];intro z hz;obtain⟨q,hq⟩:=Ai3 hz
     simpa using HO.e.1 q z (by have:=(Ϯ.1 hq).1;have:=Y6.e;omega) hq
    have wj:=ψ Er;clear Er st;cases iX:cj x.aL 1 40 with
    |false=>
     go_wp2_with (first
      | (go_at_call 62;refine(oS _ _ _ _).mono ?_;rintro e w' ⟨rfl,rfl⟩;try rw[iX]))
     go_ret;exact⟨bm (by unfold iw;rw[ej,wj.e,iX];rfl),BW.e⟩
    |true=>
     obtain⟨qx,Vj⟩:=nS iX;by_cases h3:3<m
     ·go_wp2_with (first
       | (go_at_call 62;refine(oS _ _ _ _).mono ?_;rintro e w' ⟨rfl,rfl⟩;try rw[iX]))
      go_ret;exact⟨bm (by unfold iw;rw[ej,wj.e,iX,dM.e];simp[h3]),BW.e⟩
     ·go_wp2_with (first
       | (go_at_call 62;refine(oS _ _ _ _).mono ?_;rintro e w' ⟨rfl,rfl⟩;try rw[iX]))
      have fC:iw l x=mU x.aL (-1) x.cM:=by unfold iw;rw[ej,wj.e,iX,dM.e];simp[h3]
      have nv:=ψ fC;clear fC;clear r0 r1 r2;go_loopw [6] (λk wq=>∃j:Nat,j<=m/\k=ξ κ j/\mU x.aL (-1) x.cM=mU x.aL (vI x.cM j) (x.cM.drop j)/\Γ (w.heap.size+1) (w.alloc (Ξ #[.string x.name,ξ κ x.aL,ζ A m c] 59)) wq) (λk _=>m - (ϗ k).toNat)
      case atStart=>exact⟨0,Ϡ _,rfl,rfl,HO.e.2⟩
      case round=>
       obtain⟨j,hj,rfl,xP,hb⟩:=hrel;have RE:=ψ xP;have HQ:=ψ hb;have gI:Γ w.heap.size w wr:=iN.e.trans (hb.mono (by omega))
       have BQ:=ψ gI;have aN:w.heap.size<wr.heap.size:=by have:=hb.size;simp at this;omega
       have hle:w.heap.size+1<=wr.heap.size:=by omega
       have kr:=KB.e.below hb (by omega)
       have r0:=kr.cell 0;have r1:=kr.cell 1;have r2:=kr.cell 2;have KQ:=ψ kr;have st:Δ B w wr:=Δ.aJ gI hB;have ST:=ψ st;clear xP hb gI kr;by_cases oL:j<m
       ·obtain⟨ad,y,cs,rfl,aE,hy,rfl,-,aq⟩:=H2.e j oL
        have h0:=cA aq st aE rfl;have h1:=bj aq st aE 0 rfl;have qc:(ad.add (j * 2)).block<wr.heap.size:=by rw[b9];omega
        have HY:=ψ hy;have HC:=ψ aq;clear hy aq st;go_wp2;refine tA 8 (by kernel_rfl) (by kernel_rfl) ?_
        simp only[ê,ë,ñ,ò];repeat still_step
        refine Ait ?_
        cases hw:vg y.lo y.hi 0 (x.aL - 1) with
        |false=>
         go_wp2_with (first
             | (go_at_call 49;refine(within _).mono ?_;rintro e w2 ⟨rfl,an⟩;try rw[hw]))
         go_ret;refine⟨bm ?_,chain BQ.e (uN an) (by omega)⟩
         rw[nv.e,RE.e,drop_cons HY.e];rw[Jd,Je,hw];rfl
        |true=>
         rcases Nat.eq_zero_or_pos j with wZ|wZ
         ·subst wZ
          have hrel:mU x.aL (-1) x.cM=mU x.aL (vI x.cM 1) (x.cM.drop 1):=by
             rw[RE.e,drop_cons HY.e];have qx:0<=y.lo:=by simp only[vg,ϩ,decide_eq_true_eq] at hw;exact hw.1
             have hn:¬ (y.lo<=vI x.cM 0):=by simp[vI];omega
             rw[Jd,Je,hw,if_pos rfl,if_neg hn];simp[vI,HY.e]
          have HR:=ψ hrel;clear hrel;go_wp2
          go_at_call 49
          refine(within _).mono ?_
          rintro e w2 ⟨rfl,an⟩;have b2:Γ wr.heap.size wr w2:=uN an;have k2:=KQ.e.below b2 aN;have s0:=k2.cell 0;have s1:=k2.cell 1;have s2:=k2.cell 2;have aZ:w.heap.size<w2.heap.size:=by have:=b2.size;omega
          have lf:Δ B w w2:=ST.e.trans (Δ.aJ b2 (by omega))
          have t0:=cA HC.e lf aE rfl;have t1:=bj HC.e lf aE 0 rfl;have q2:(ad.add (0 * 2)).block<w2.heap.size:=by rw[b9];omega
          have eH:=ψ (HQ.e.trans (b2.mono hle));have GD:=ψ (BQ.e.trans (b2.mono (by omega)))
          clear an b2 k2 lf
          try rw[hw]
          go_wp2;go_quiet (fail);go_wp2;go_roundw;case rel=>exact⟨1,oL,by go_num,HR.e,by first|exact eH.e|exact jr eH.e _⟩
          case measure=>simp[ϗ];omega
         ·obtain⟨q,rfl⟩:∃q,j=q+1:=⟨j - 1,by omega⟩
          obtain⟨DE,z,TL,DY,Vs,hz,rfl,-,xm⟩:=H2.e q (by omega)
          cases DY;have HZ:=ψ hz;have RM:=ψ xm;clear hz xm;have VC:vI x.cM (q+1)=z.hi:=by simp[vI,HZ.e]
          have RR:=ψ VC;clear VC;have ig:decide ((0:Int)<((q+1:Nat):Int))=θ:=by simp<;>omega
          by_cases sa:y.lo<=z.hi
          ·have hd:decide (y.lo<=z.hi)=θ:=by simpa using sa
           go_wp2
           go_at_call 49
           refine(within _).mono ?_
           rintro e w2 ⟨rfl,an⟩;have b2:Γ wr.heap.size wr w2:=uN an;have k2:=KQ.e.below b2 aN;have s0:=k2.cell 0;have s1:=k2.cell 1;have s2:=k2.cell 2;have aZ:w.heap.size<w2.heap.size:=by have:=b2.size;omega
           have lf:Δ B w w2:=ST.e.trans (Δ.aJ b2 (by omega))
           have t0:=cA HC.e lf aE rfl;have t1:=bj HC.e lf aE 0 rfl;have q2:(ad.add ((q+1) * 2)).block<w2.heap.size:=by rw[b9];omega
           have eH:=ψ (HQ.e.trans (b2.mono hle));have GD:=ψ (BQ.e.trans (b2.mono (by omega)))
           have t3:=bj RM.e lf aE 0 rfl;have q3:(ad.add (q * 2)).block<w2.heap.size:=by rw[b9];omega
           clear an b2 k2 lf
           try rw[hw]
           go_wp2;go_quiet (fail);go_wp2;go_ret;refine⟨bm ?_,by first|exact GD.e|exact jr GD.e _⟩
           rw[nv.e,RE.e,drop_cons HY.e,RR.e];rw[Jd,Je,hw,if_pos rfl,if_pos sa]
          ·have hd:decide (y.lo<=z.hi)=χ:=by simpa using sa
           have hrel:mU x.aL (-1) x.cM=mU x.aL (vI x.cM (q+2)) (x.cM.drop (q+2)):=by
               rw[RE.e,drop_cons HY.e,RR.e];rw[Jd,Je,hw,if_pos rfl,if_neg sa];simp[vI,HY.e]
           have HR:=ψ hrel;clear hrel;go_wp2
           go_at_call 49
           refine(within _).mono ?_
           rintro e w2 ⟨rfl,an⟩;have b2:Γ wr.heap.size wr w2:=uN an;have k2:=KQ.e.below b2 aN;have s0:=k2.cell 0;have s1:=k2.cell 1;have s2:=k2.cell 2;have aZ:w.heap.size<w2.heap.size:=by have:=b2.size;omega
           have lf:Δ B w w2:=ST.e.trans (Δ.aJ b2 (by omega))
           have t0:=cA HC.e lf aE rfl;have t1:=bj HC.e lf aE 0 rfl;have q2:(ad.add ((q+1) * 2)).block<w2.heap.size:=by rw[b9];omega
           have eH:=ψ (HQ.e.trans (b2.mono hle));have GD:=ψ (BQ.e.trans (b2.mono (by omega)))
           have t3:=bj RM.e lf aE 0 rfl;have q3:(ad.add (q * 2)).block<w2.heap.size:=by rw[b9];omega
           clear an b2 k2 lf
           try rw[hw]
           go_wp2;go_quiet (fail);go_wp2;go_roundw;case rel=>exact⟨q+2,by omega,by go_num,HR.e,by first|exact eH.e|exact jr eH.e _⟩
           case measure=>simp[ϗ];omega
       ·obtain rfl:j=m:=by omega
        go_wp2;go_ret;refine⟨bm ?_,BQ.e⟩
        rw[nv.e,RE.e,ů (by rw[dM.e];exact ϊ _)]
        rfl
def Y0{a b:Int}:kI a b 0 120 121=vg a b 0 120:=by
 rw[Gf];by_cases h:vg a b 0 120=θ
 ·rw[h]
  simp only[vg,ϩ,decide_eq_true_eq] at h;simp;omega
 ·simp only[Bool.not_eq_true] at h;rw[h];rfl
def anr{n:Int}{lp:List Piece}{l:List Tape}(hp:Row w B 4 Piece.R pv lp)(Ex:∃A n c,bv=ζ A n c)(hv:Row w B 3 (Tape.R w B) tv l)(hB:B<=w.heap.size):
 ύ prog 147 #[η #[ξ κ n,pv,bv,tv]] w λe w'=>e=Ω (ξ κ (lJ lp.length l))/\Γ w.heap.size w w':=by
 obtain⟨PA,np,pc,rfl,kX,rV,xO,-⟩:=hp.Φ;obtain⟨A,m,c,rfl,hl,ey,hc,hr⟩:=hv.Φ;obtain⟨BA,bn,bc,rfl⟩:=Ex;have dM:=ψ hl;have EW:=ψ kX;have Lx:=ψ (ϡ rV xO);unfold ϑ at hc xO;have H2:=ψ hr;have kb:Bk (w.alloc (Ξ #[ξ κ n,ζ PA np pc,ζ BA bn bc,ζ A m c] 26)) w.heap.size 26 #[ξ κ n,ζ PA np pc,ζ BA bn bc,ζ A m c]:=Bk.new _ _ _;have KB:=ψ kb;have iN:Hid (Γ w.heap.size w (w.alloc (Ξ #[ξ κ n,ζ PA np pc,ζ BA bn bc,ζ A m c] 26))):=ψ ((ώ _ _).alloc (ϊ _) _);clear hl hr hv kX hp kb;by_cases hlen:4<m
 ·go_enter func147,Tryz.ntmps147
  go_wp2;go_ret;exact⟨bm (by unfold lJ;rw[dM.e,if_pos hlen]),iN.e⟩
 ·go_enter func147,Tryz.ntmps147
  go_wp2;go_loopw [2,3,4,5] (λr k u v wr=>∃i:Nat,i<=m/\k=ξ κ i/\(∀(j:Nat) (x:Tape),j<i->l[j]?=φ x->lh np x=0)/\Γ (w.heap.size+1) (w.alloc (Ξ #[ξ κ n,ζ PA np pc,ζ BA bn bc,ζ A m c] 26)) wr) (λ_ k _ _ _=>m - (ϗ k).toNat)
  case atStart=>exact⟨0,Ϡ _,rfl,λj _ hj=>by omega,ώ _ _⟩
  case round=>
   obtain⟨i,hi,rfl,bS,hb⟩:=hrel;have HH:=ψ (Ϗ bS hb);have gI:Γ w.heap.size w wr:=iN.e.trans (hb.mono (by omega))
   have BW:=ψ gI;have aN:w.heap.size<wr.heap.size:=by have:=hb.size;simp at this;omega
   have hle:w.heap.size+1<=wr.heap.size:=by omega
   have kr:=KB.e.below hb (by omega)
   have r0:=kr.cell 0;have r1:=kr.cell 1;have r2:=kr.cell 2;have r3:=kr.cell 3;have KR:=ψ kr;have st:Δ B w wr:=Δ.aJ gI hB;have ST:=ψ st;clear bS hb gI kr;by_cases ao:i<m
   ·obtain⟨ad,x,cs,rfl,aE,hx,⟨kv,rfl,dC⟩,-,aq⟩:=H2.e i ao
    obtain⟨KA,kn,kc,rfl,cP,Vr,EO,zY⟩:=id dC.Φ;have YA:=ψ dC;unfold ϑ at EO;have KL:=ψ cP;have h0:=cA aq st aE rfl;have h1:=bj aq st aE 0 rfl;have h2:=bj aq st aE 1 rfl;have qc:(ad.add (i * 3)).block<wr.heap.size:=by rw[b9];omega
    have HX:=ψ hx;clear hx aq st dC cP zY;have bad:∀s:Int,lh np x=s->s≠0->s=lJ lp.length l:=λs hs h0=>by
     unfold lJ;rw[dM.e,if_neg hlen,EW.e,vQ (f:=λ_ t=>lh np t) HX.e HH.e.1 (by rw[hs];exact h0),hs]
    have gW:=ψ bad;clear bad;have HO:Hid (Γ (w.heap.size+1) (w.alloc (Ξ #[ξ κ n,ζ PA np pc,ζ BA bn bc,ζ (φ ad) m c] 26)) (wr.alloc (Ξ #[ζ KA kn kc,ξ κ x.sum.lo,ξ κ x.sum.hi] 95))):=ψ (HH.e.2.alloc hle _);have yV:Hid (Γ w.heap.size w (wr.alloc (Ξ #[ζ KA kn kc,ξ κ x.sum.lo,ξ κ x.sum.hi] 95))):=ψ (BW.e.alloc (by omega) _)
    by_cases iA:kn=0
    ·subst iA
     go_wp2;go_ret;exact⟨bm (gW.e 2 (by unfold lh;rw[KL.e];rfl) (by omega)),yV.e⟩
    ·have eP:((kn:Int)==0)=χ:=by simp;omega
     have Lp:Hid (Row (wr.alloc (Ξ #[ζ KA kn kc,ξ κ x.sum.lo,ξ κ x.sum.hi] 95)) B 1 bI (ζ KA kn kc) x.pieces):=ψ (YA.e.still (Δ.aJ yV.e hB) λ_ _ h=>h)
     by_cases ef:eN np ν x.pieces=0
     ·cases hw:vg x.sum.lo x.sum.hi 0 120 with
      |false=>
       go_wp2
       go_at_call 57
       refine(rising Lp.e (by simp;omega) Lx.e).mono ?_
       rintro e w2 ⟨rfl,an⟩;rw[ef];have oR:(wr.alloc (Ξ #[ζ KA kn kc,ξ κ x.sum.lo,ξ κ x.sum.hi] 95)).heap.size=wr.heap.size+1:=by simp
       have k2:Bk w2 wr.heap.size 95 #[ζ KA kn kc,ξ κ x.sum.lo,ξ κ x.sum.hi]:=(Bk.new wr 95 _).below an (by omega)
       have s0:=k2.cell 0;have s1:=k2.cell 1;have s2:=k2.cell 2;have aZ:wr.heap.size<w2.heap.size:=k2.lt;have BX:Hid (Γ (w.heap.size+1) (w.alloc (Ξ #[ξ κ n,ζ PA np pc,ζ BA bn bc,ζ (φ ad) m c] 26)) w2):=ψ (HO.e.trans (an.mono (by omega)))
       have KE:Hid (Γ w.heap.size w w2):=ψ (yV.e.trans (an.mono (by omega)))
       clear an k2 oR;go_wp2
       go_at_call 49
       refine(within _).mono ?_
       rintro e w3 ⟨rfl,bK⟩;have BY:Hid (Γ (w.heap.size+1) (w.alloc (Ξ #[ξ κ n,ζ PA np pc,ζ BA bn bc,ζ (φ ad) m c] 26)) w3):=ψ (BX.e.trans (bK.mono (by omega)))
       have Rn:Hid (Γ w.heap.size w w3):=ψ (KE.e.trans (bK.mono (by omega)))
       clear bK;rw[hw];go_wp2;go_ret;exact⟨bm (gW.e 1 (by unfold lh;rw[KL.e,if_neg iA,ef,Y0,hw];rfl) (by omega)),Rn.e⟩
      |true=>
       go_wp2
       go_at_call 57
       refine(rising Lp.e (by simp;omega) Lx.e).mono ?_
       rintro e w2 ⟨rfl,an⟩;rw[ef];have oR:(wr.alloc (Ξ #[ζ KA kn kc,ξ κ x.sum.lo,ξ κ x.sum.hi] 95)).heap.size=wr.heap.size+1:=by simp
       have k2:Bk w2 wr.heap.size 95 #[ζ KA kn kc,ξ κ x.sum.lo,ξ κ x.sum.hi]:=(Bk.new wr 95 _).below an (by omega)
       have s0:=k2.cell 0;have s1:=k2.cell 1;have s2:=k2.cell 2;have aZ:wr.heap.size<w2.heap.size:=k2.lt;have BX:Hid (Γ (w.heap.size+1) (w.alloc (Ξ #[ξ κ n,ζ PA np pc,ζ BA bn bc,ζ (φ ad) m c] 26)) w2):=ψ (HO.e.trans (an.mono (by omega)))
       have KE:Hid (Γ w.heap.size w w2):=ψ (yV.e.trans (an.mono (by omega)))
       clear an k2 oR;go_wp2
       go_at_call 49
       refine(within _).mono ?_
       rintro e w3 ⟨rfl,bK⟩;have BY:Hid (Γ (w.heap.size+1) (w.alloc (Ξ #[ξ κ n,ζ PA np pc,ζ BA bn bc,ζ (φ ad) m c] 26)) w3):=ψ (BX.e.trans (bK.mono (by omega)))
       have Rn:Hid (Γ w.heap.size w w3):=ψ (KE.e.trans (bK.mono (by omega)))
       clear bK;rw[hw];go_wp2;go_roundw;case rel=>exact⟨i+1,by omega,by go_num,λj y hj hy=>by
           rcases Æ.1 hj with h|rfl
           ·exact HH.e.1 j y h hy
           ·rw[HX.e] at hy;cases hy;unfold lh;rw[KL.e,if_neg iA,ef,Y0,hw];rfl,BY.e⟩
       case measure=>simp[ϗ];omega
     ·have OV:(eN np ν x.pieces !=0)=θ:=by simpa using ef
      obtain⟨s,hs⟩:∃s,s=eN np ν x.pieces:=⟨_,rfl⟩
      rw[<-hs] at ef OV;have HS:=ψ hs;go_wp2
      go_at_call 57
      refine(rising Lp.e (by simp;omega) Lx.e).mono ?_
      rintro e w2 ⟨rfl,an⟩;rw[<-HS.e];have BX:=ψ (yV.e.trans (an.mono (by simp;omega)))
      clear an hs;go_wp2;go_ret;exact⟨bm (gW.e s (by unfold lh;rw[KL.e,if_neg iA,<-HS.e,if_pos ef]) ef),BX.e⟩
   ·obtain rfl:i=m:=by omega
    go_wp2;go_ret;refine⟨bm ?_,BW.e⟩
    unfold lJ;rw[dM.e,if_neg hlen,EW.e,vP (f:=λ_ t=>lh np t) (λj x hj=>HH.e.1 j x (by have:=(Ϯ.1 hj).1;have:=dM.e;omega) hj)]
def adj(h:cj b.ab 0 3=χ):cZ b=1:=by
 unfold cZ kR;rw[h];rfl
def adi(h:cj b.ab 0 3=θ)(h1:jh b.pieces≠0):cZ b=jh b.pieces:=by
 unfold cZ kR;rw[h];simp[scan,h1]
def Tq(h:cj b.ab 0 3=θ)(h1:jh b.pieces=0)(h2:lB b.aC≠0):cZ b=lB b.aC:=by
 unfold cZ kR;rw[h];simp[scan,h1,h2]
def adk(h:cj b.ab 0 3=θ)(h1:jh b.pieces=0)(h2:lB b.aC=0):cZ b=lJ b.pieces.length b.aI:=by
 unfold cZ kR;rw[h]
 by_cases h3:lJ b.pieces.length b.aI=0
 ·simp[scan,h1,h2,h3]
 ·simp[scan,h1,h2,h3]
def anp(ah:aQ w B b pv bv tv)(hB:B<=w.heap.size):
 ύ prog 69 #[η #[ξ κ b.ab,pv,bv,tv]] w λe w'=>e=Ω (ξ κ (cZ b))/\Γ w.heap.size w w':=by
 have bD:=ψ ah;obtain⟨PA,np,pc,rfl,kX,rV,xO,-⟩:=ah.pieces.Φ;obtain⟨TA,nt,tc,rfl,Af,htc,OY,-⟩:=ah.aI.Φ;obtain⟨A,m,c,rfl,hl,ey,hc,hr⟩:=ah.aC.Φ;have dM:=ψ hl;unfold ϑ at hc xO OY;have H2:=ψ hr;have kb:Bk (w.alloc (Ξ #[ξ κ b.ab,ζ PA np pc,ζ A m c,ζ TA nt tc] 26)) w.heap.size 26 #[ξ κ b.ab,ζ PA np pc,ζ A m c,ζ TA nt tc]:=Bk.new _ _ _;have KB:=ψ kb;have iN:Hid (Γ w.heap.size w (w.alloc (Ξ #[ξ κ b.ab,ζ PA np pc,ζ A m c,ζ TA nt tc] 26))):=ψ ((ώ _ _).alloc (ϊ _) _);have oR:(w.alloc (Ξ #[ξ κ b.ab,ζ PA np pc,ζ A m c,ζ TA nt tc] 26)).heap.size=w.heap.size+1:=by simp
 have LF:=ψ oR;have Z3:Hid (ύ prog 145 #[ζ PA np pc] (w.alloc (Ξ #[ξ κ b.ab,ζ PA np pc,ζ A m c,ζ TA nt tc] 26)) λe w'=>e=Ω (ξ κ (jh b.pieces))/\Γ (w.heap.size+1) (w.alloc (Ξ #[ξ κ b.ab,ζ PA np pc,ζ A m c,ζ TA nt tc] 26)) w'):=ψ (by
  have:=anq (bD.e.pieces.still (Δ.aJ iN.e hB) λ_ _ h=>h) (by rw[oR];omega)
  rw[oR] at this;exact this)
 clear hl hr ah kX Af kb oR;cases h1:cj b.ab 0 3 with
 |false=>
  go_enter func69,Tryz.ntmps69;go_wp2_with (first
   | (go_at_call 62;refine(oS _ _ _ _).mono ?_;rintro e w' ⟨rfl,rfl⟩;try rw[h1]))
  go_ret;exact⟨bm (adj h1).symm,iN.e⟩
 |true=>
  by_cases h2:jh b.pieces=0
  ·go_enter func69,Tryz.ntmps69
   go_wp2_with (first
    | (go_at_call 62;refine(oS _ _ _ _).mono ?_;rintro e w' ⟨rfl,rfl⟩;try rw[h1]))
   go_at_call 145
   refine Z3.e.mono ?_
   rintro e w1 ⟨rfl,ai⟩;rw[h2];have k1:=KB.e.below ai (by omega)
   have r0:=k1.cell 0;have r1:=k1.cell 1;have r2:=k1.cell 2;have r3:=k1.cell 3;have aO:w.heap.size<w1.heap.size:=k1.lt;have dY:Hid (Γ w.heap.size w w1):=ψ (iN.e.trans (ai.mono (by omega)))
   have U3:=ψ ai;clear k1 ai;by_cases h3:3<m
   ·go_wp2
    go_ret;exact⟨bm (by rw[Tq h1 h2 (by unfold lB;rw[dM.e,if_pos h3];omega)];unfold lB;rw[dM.e,if_pos h3]),dY.e⟩
   ·go_wp2
    clear r0 r1 r2 r3;go_loopw [2,4,5] (λr k u wr=>∃i:Nat,i<=m/\k=ξ κ i/\(∀(j:Nat) (x:bN),j<i->b.aC[j]?=φ x->iw (b.aC.take j) x=0)/\Γ (w.heap.size+1) (w.alloc (Ξ #[ξ κ b.ab,ζ PA np pc,ζ A m c,ζ TA nt tc] 26)) wr) (λ_ k _ _=>m - (ϗ k).toNat)
    case atStart=>exact⟨0,Ϡ _,rfl,λj _ hj=>by omega,U3.e⟩
    case round=>
     obtain⟨i,hi,rfl,bS,hb⟩:=hrel;have HH:=ψ (Ϗ bS hb);have gI:Γ w.heap.size w wr:=iN.e.trans (hb.mono (by omega))
     have BW:=ψ gI;have aN:w.heap.size<wr.heap.size:=by have:=hb.size;have:=LF.e;omega
     have hle:w.heap.size+1<=wr.heap.size:=by omega
     have kr:=KB.e.below hb (by omega)
     have r0:=kr.cell 0;have r1:=kr.cell 1;have r2:=kr.cell 2;have r3:=kr.cell 3;have st:Δ B w wr:=Δ.aJ gI hB;have ST:=ψ st;clear bS hb gI kr;by_cases ao:i<m
     ·obtain⟨ad,x,cs,rfl,aE,hx,⟨kv,rfl,dD,dC⟩,-,aq⟩:=H2.e i ao
      obtain⟨A2,c2,rfl,-⟩:=id dC;obtain⟨n2,dn⟩:∃n2,n2=x.cM.length:=⟨_,rfl⟩
      rw[<-dn] at dC aq;clear dn;have uL:=ψ dC;have g0:=cA aq st aE rfl;have g1:=bj aq st aE 0 rfl;have g2:=bj aq st aE 1 rfl;have HX:=ψ hx;clear hx aq st dC;have EJ:i<=c:=by omega
      go_wp2;refine tA 9 (by kernel_rfl) (by kernel_rfl) ?_
      simp only[ê,ë,ñ,ò];repeat still_step
      refine Ait ?_
      have HR:=ψ ((bD.e.aC.take hi).still ST.e λ_ _ h=>h.still ST.e)
      have GM:=ψ (uL.e.still ST.e λ_ _ h=>h)
      have KP:Hid (ύ prog 146 #[ζ (φ ad) i c,η #[.string x.name,ξ κ x.aL,ζ A2 n2 c2]] wr.drew λe w'=>e=Ω (ξ κ (iw (b.aC.take i) x))/\Γ wr.heap.size wr w'):=ψ (by
       have:=ano (w:=wr.drew) dD GM.e HR.e (by show B<=wr.heap.size;omega)
       exact this.mono λe w' ⟨h1,h2⟩=>⟨h1,uN h2⟩)
      by_cases hz:iw (b.aC.take i) x=0
      ·go_wp2
       go_at_call 146
       refine KP.e.mono ?_
       rintro e w2 ⟨rfl,an⟩;rw[hz];have BX:=ψ (HH.e.2.trans (an.mono hle));clear an;go_wp2;go_roundw;case rel=>exact⟨i+1,by omega,by go_num,λj y hj hy=>by
        rcases Æ.1 hj with h|rfl
        ·exact HH.e.1 j y h hy
        ·rw[HX.e] at hy;cases hy;exact hz,BX.e⟩
       case measure=>simp[ϗ];omega
      ·obtain⟨s,hs⟩:∃s,s=iw (b.aC.take i) x:=⟨_,rfl⟩
       rw[<-hs] at hz KP;have OV:(s !=0)=θ:=by simpa using hz
       have HS:=ψ hs;clear hs;go_wp2
       go_at_call 146
       refine KP.e.mono ?_
       rintro e w2 ⟨rfl,an⟩;have BX:=ψ (BW.e.trans (an.mono (by omega)))
       clear an;go_wp2;go_ret;have fC:lB b.aC=s:=by
        unfold lB;rw[dM.e,if_neg h3,vQ HX.e HH.e.1 (by rw[<-HS.e];exact hz),<-HS.e]
       exact⟨bm (by rw[Tq h1 h2 (by rw[fC];exact hz),fC]),BX.e⟩
     ·obtain rfl:i=m:=by omega
      have fC:lB b.aC=0:=by
       unfold lB;rw[dM.e,if_neg h3,vP (λj x hj=>HH.e.1 j x (by have:=(Ϯ.1 hj).1;have:=dM.e;omega) hj)]
      have nv:=ψ fC;have aaD:Hid (ύ prog 147 #[η #[ξ κ b.ab,ζ PA np pc,ζ A i c,ζ TA nt tc]] wr λe w'=>e=Ω (ξ κ (lJ b.pieces.length b.aI))/\Γ wr.heap.size wr w'):=ψ
       (anr (bD.e.pieces.still ST.e λ_ _ h=>h) ⟨_,_,_,rfl⟩ (bD.e.aI.still ST.e λ_ _ h=>h.still ST.e) (by omega))
      clear fC st;go_wp2
      go_at_call 147
      refine aaD.e.mono ?_
      rintro e w2 ⟨rfl,an⟩;have BX:=ψ (BW.e.trans (an.mono (by omega)))
      clear an;go_wp2;go_ret;exact⟨bm (adk h1 h2 nv.e).symm,BX.e⟩
  ·obtain⟨s,hs⟩:∃s,s=jh b.pieces:=⟨_,rfl⟩
   have qt:=adi h1 h2;rw[<-hs] at h2 Z3 qt;have OV:(s !=0)=θ:=by simpa using h2
   have W8:=ψ qt;clear hs qt;go_enter func69,Tryz.ntmps69;go_wp2_with (first
    | (go_at_call 62;refine(oS _ _ _ _).mono ?_;rintro e w' ⟨rfl,rfl⟩;try rw[h1]))
   go_at_call 145
   refine Z3.e.mono ?_
   rintro e w1 ⟨rfl,ai⟩;have dY:Hid (Γ w.heap.size w w1):=ψ (iN.e.trans (ai.mono (by omega)))
   clear ai;go_wp2;go_ret;exact⟨bm W8.e.symm,dY.e⟩
def sI(x:bN):Bool:=decide (100<x.name.size) ||decide (20<x.cM.length)
def By(x:Piece):Bool:=decide (100<x.name.size)
def Bz(x:Tape):Bool:=decide (20<x.pieces.length)
def wX(b:eR):Bool:=(decide (20<b.pieces.length) || (decide (20<b.aC.length) ||decide (20<b.aI.length))) || (b.pieces.any By|| (b.aC.any sI||b.aI.any Bz))
def zl(b:eR):Bool:= !wX b && decide (cZ b=0)
def acD{kv:υ}(dD:x.name.size<=ϑ)(hk:Row w B 2 Span.R kv x.cM):
 ύ prog 51 #[η #[.string x.name,ξ κ x.aL,kv]] w λe w'=>e=Ω (.bool (sI x))/\Γ w.heap.size w w':=by
 obtain⟨A,m,c,rfl,hl,ey,hc,-⟩:=hk.Φ;unfold ϑ at hc dD;have HL:=ψ hl;clear hl hk;by_cases h1:100<x.name.size
 ·go_enter func51,Tryz.ntmps51
  go_wp2;go_ret;exact⟨bU (by unfold sI;simp[h1]),(ώ _ _).alloc (ϊ _) _⟩
 ·by_cases h2:20<m
  ·go_enter func51,Tryz.ntmps51
   go_wp2;go_ret;exact⟨bU (by unfold sI;rw[HL.e];simp[h2];omega),(ώ _ _).alloc (ϊ _) _⟩
  ·go_enter func51,Tryz.ntmps51
   go_wp2;go_ret;exact⟨bU (by unfold sI;rw[HL.e];simp[h1,h2];omega),(ώ _ _).alloc (ϊ _) _⟩
def L8{p:α->Bool}{l:List α}{x:α}(h:l[i]?=φ x)(hp:p x=θ):l.any p=θ:=Ajl.2 ⟨x,Ϩ h,hp⟩
def L7{p:α->Bool}{l:List α}(hn:l.length=n)(h:∀(j:Nat) (x:α),j<n->l[j]?=φ x->p x=χ):l.any p=χ:=by
 rw[Ajn];intro z hz;obtain⟨q,hq⟩:=Ai3 hz
 simpa using h q z (by have:=(Ϯ.1 hq).1;omega) hq
def ago(ah:aQ w B b pv bv tv)(hB:B<=w.heap.size):
 ύ prog 20 #[η #[ξ κ b.ab,pv,bv,tv]] w λe w'=>e=Ω (.bool (wX b))/\Γ w.heap.size w w':=by
 obtain⟨PA,np,pc,rfl,kX,rV,xO,V6⟩:=ah.pieces.Φ;obtain⟨TA,nt,tc,rfl,Af,htc,OY,kB⟩:=ah.aI.Φ;obtain⟨A,m,c,rfl,hl,ey,hc,hr⟩:=ah.aC.Φ;have Ls:=ψ kX;have Lr:=ψ hl;have Lu:=ψ Af;have HP:=ψ V6;have HT:=ψ kB;have H2:=ψ hr;unfold ϑ at hc xO OY;have kb:Bk (w.alloc (Ξ #[ξ κ b.ab,ζ PA np pc,ζ A m c,ζ TA nt tc] 26)) w.heap.size 26 #[ξ κ b.ab,ζ PA np pc,ζ A m c,ζ TA nt tc]:=Bk.new _ _ _;have KB:=ψ kb;have iN:Hid (Γ w.heap.size w (w.alloc (Ξ #[ξ κ b.ab,ζ PA np pc,ζ A m c,ζ TA nt tc] 26))):=ψ ((ώ _ _).alloc (ϊ _) _);have LF:Hid ((w.alloc (Ξ #[ξ κ b.ab,ζ PA np pc,ζ A m c,ζ TA nt tc] 26)).heap.size=w.heap.size+1):=ψ (by simp)
 have I7:∀q:Bool,q=θ->(decide (20<b.pieces.length) || (decide (20<b.aC.length) ||decide (20<b.aI.length)))=q->θ=wX b:=λq h1 h2=>by unfold wX;rw[h2,h1];rfl
 have LD:=ψ I7;clear hl hr ah kX Af kb V6 kB I7;by_cases h1:20<np
 ·go_enter func20,Tryz.ntmps20
  go_wp2;go_ret;exact⟨bU (LD.e θ rfl (by rw[Ls.e];simp[h1])),iN.e⟩
 by_cases h2:20<m
 ·go_enter func20,Tryz.ntmps20
  go_wp2;go_ret;exact⟨bU (LD.e θ rfl (by rw[Lr.e];simp[h2])),iN.e⟩
 by_cases h3:20<nt
 ·go_enter func20,Tryz.ntmps20
  go_wp2;go_ret;exact⟨bU (LD.e θ rfl (by rw[Lu.e];simp[h3])),iN.e⟩
 have br:wX b=(b.pieces.any By|| (b.aC.any sI||b.aI.any Bz)):=by
  unfold wX;rw[Ls.e,Lr.e,Lu.e];simp[h1,h2,h3]
 have rj:=ψ br;clear br;go_enter func20,Tryz.ntmps20;go_wp2;go_loopw [2,3] (λr k wr=>∃i:Nat,i<=np/\k=ξ κ i/\(∀(j:Nat) (x:Piece),j<i->b.pieces[j]?=φ x->By x=χ)/\Γ (w.heap.size+1) (w.alloc (Ξ #[ξ κ b.ab,ζ PA np pc,ζ A m c,ζ TA nt tc] 26)) wr) (λ_ k _=>np - (ϗ k).toNat)
 case atStart=>exact⟨0,Ϡ _,rfl,λj _ hj=>by omega,by rw[<-LF.e];exact ώ _ _⟩
 case round=>
  obtain⟨i,hi,rfl,bS,hb⟩:=hrel;have HH:=ψ (Ϗ bS hb);have gI:Γ w.heap.size w wr:=iN.e.trans (hb.mono (by omega))
  have BW:=ψ gI;have kr:=KB.e.below hb (by omega)
  have aN:w.heap.size<wr.heap.size:=kr.lt;have r0:=kr.cell 0;have r1:=kr.cell 1;have r2:=kr.cell 2;have r3:=kr.cell 3;have st:Δ B w wr:=Δ.aJ gI hB;clear bS hb gI kr;by_cases ao:i<np
  ·obtain⟨ad,x,cs,rfl,aE,hx,⟨rfl,dD⟩,-,aq⟩:=HP.e i ao
   have g0:=cA aq st aE rfl;have qc:(ad.add (i * 4)).block<wr.heap.size:=by rw[b9];omega
   have HX:=ψ hx;unfold ϑ at dD;clear hx aq st;by_cases hg:100<x.name.size
   ·go_wp2
    go_ret;exact⟨bU (by rw[rj.e,L8 HX.e (by unfold By;simpa using hg)];rfl),BW.e⟩
   ·go_wp2
    go_roundw;case rel=>exact⟨i+1,by omega,by go_num,λj y hj hy=>by
     rcases Æ.1 hj with h|rfl
     ·exact HH.e.1 j y h hy
     ·rw[HX.e] at hy;cases hy;unfold By;simpa using hg,HH.e.2⟩
    case measure=>simp[ϗ];omega
  ·obtain rfl:i=np:=by omega
   have qF:b.pieces.any By=χ:=L7 Ls.e HH.e.1;have lP:=ψ qF;have pe:=ψ HH.e.2;clear qF st;go_wp2;clear r0 r1 r2 r3;go_loopw [2,4] (λr k wr=>∃j:Nat,j<=m/\k=ξ κ j/\(∀(q:Nat) (x:bN),q<j->b.aC[q]?=φ x->sI x=χ)/\Γ (w.heap.size+1) (w.alloc (Ξ #[ξ κ b.ab,ζ PA i pc,ζ A m c,ζ TA nt tc] 26)) wr) (λ_ k _=>m - (ϗ k).toNat)
   case atStart=>exact⟨0,Ϡ _,rfl,λj _ hj=>by omega,pe.e⟩
   case round=>
    obtain⟨j,hj,rfl,bS,hb⟩:=hrel;have HG:=ψ (Ϗ bS hb);have gI:Γ w.heap.size w wr:=iN.e.trans (hb.mono (by omega))
    have BV:=ψ gI;have kr:=KB.e.below hb (by omega)
    have nQ:w.heap.size<wr.heap.size:=kr.lt;have hle:w.heap.size+1<=wr.heap.size:=nQ;have r0:=kr.cell 0;have r1:=kr.cell 1;have r2:=kr.cell 2;have r3:=kr.cell 3;have st:Δ B w wr:=Δ.aJ gI hB;have ST:=ψ st;clear bS hb gI kr;by_cases ao:j<m
    ·obtain⟨ad,x,cs,rfl,aE,hx,⟨kv,rfl,dD,dC⟩,-,aq⟩:=H2.e j ao
     obtain⟨A2,c2,rfl,-⟩:=id dC;obtain⟨n2,dn⟩:∃n2,n2=x.cM.length:=⟨_,rfl⟩
     rw[<-dn] at dC aq;clear dn;have Rv:Hid (ύ prog 51 #[η #[.string x.name,ξ κ x.aL,ζ A2 n2 c2]] wr λe w'=>e=Ω (.bool (sI x))/\Γ wr.heap.size wr w'):=ψ (acD dD (dC.still st λ_ _ h=>h))
     have g0:=cA aq st aE rfl;have g1:=bj aq st aE 0 rfl;have g2:=bj aq st aE 1 rfl;have qc:(ad.add (j * 3)).block<wr.heap.size:=by rw[b9];omega
     have HX:=ψ hx;clear hx aq st dC;cases hg:sI x with
     |true=>
      go_wp2
      go_at_call 51
      refine Rv.e.mono ?_
      rintro e w2 ⟨rfl,an⟩;rw[hg];have BX:=ψ (BV.e.trans (an.mono (by omega)))
      clear an;go_wp2;go_ret;exact⟨bU (by rw[rj.e,L8 HX.e hg];simp),BX.e⟩
     |false=>
      go_wp2
      go_at_call 51
      refine Rv.e.mono ?_
      rintro e w2 ⟨rfl,an⟩;rw[hg];have BX:=ψ (HG.e.2.trans (an.mono hle));clear an;go_wp2;go_roundw;case rel=>exact⟨j+1,by omega,by go_num,λq y hq hy=>by
       rcases Æ.1 hq with h|rfl
       ·exact HG.e.1 q y h hy
       ·rw[HX.e] at hy;cases hy;exact hg,BX.e⟩
      case measure=>simp[ϗ];omega
    ·obtain rfl:j=m:=by omega
     have dn:b.aC.any sI=χ:=L7 Lr.e HG.e.1;have Zm:=ψ dn;have tn:=ψ HG.e.2;clear dn st;go_wp2;clear r0 r1 r2 r3;go_loopw [2,5] (λr k wr=>∃q:Nat,q<=nt/\k=ξ κ q/\(∀(z:Nat) (x:Tape),z<q->b.aI[z]?=φ x->Bz x=χ)/\Γ (w.heap.size+1) (w.alloc (Ξ #[ξ κ b.ab,ζ PA i pc,ζ A j c,ζ TA nt tc] 26)) wr) (λ_ k _=>nt - (ϗ k).toNat)
     case atStart=>exact⟨0,Ϡ _,rfl,λj _ hj=>by omega,tn.e⟩
     case round=>
      obtain⟨q,hq,rfl,bS,hb⟩:=hrel;have HK:=ψ (Ϗ bS hb);have gI:Γ w.heap.size w wr:=iN.e.trans (hb.mono (by omega))
      have BZ:=ψ gI;have kr:=KB.e.below hb (by omega)
      have E9:w.heap.size<wr.heap.size:=kr.lt;have r0:=kr.cell 0;have r1:=kr.cell 1;have r2:=kr.cell 2;have r3:=kr.cell 3;have st:Δ B w wr:=Δ.aJ gI hB;clear bS hb gI kr;by_cases ao:q<nt
      ·obtain⟨ad,x,cs,rfl,aE,hx,⟨kv,rfl,dC⟩,-,aq⟩:=HT.e q ao
       obtain⟨KA,kn,kc,rfl,cP,Vr,EO,-⟩:=dC.Φ;unfold ϑ at EO;have KL:=ψ cP;have g0:=cA aq st aE rfl;have qc:(ad.add (q * 3)).block<wr.heap.size:=by rw[b9];omega
       have HX:=ψ hx;clear hx aq st dC cP;by_cases hg:20<kn
       ·go_wp2
        go_ret;exact⟨bU (by rw[rj.e,L8 HX.e (by unfold Bz;rw[KL.e];simpa using hg)];simp),BZ.e⟩
       ·go_wp2
        go_roundw;case rel=>exact⟨q+1,by omega,by go_num,λz y hz hy=>by
             rcases Æ.1 hz with h|rfl
             ·exact HK.e.1 z y h hy
             ·rw[HX.e] at hy;cases hy;unfold Bz;rw[KL.e];simpa using hg,HK.e.2⟩
        case measure=>simp[ϗ];omega
      ·obtain rfl:q=nt:=by omega
       have iW:b.aI.any Bz=χ:=L7 Lu.e HK.e.1;have Zs:=ψ iW;clear iW st;go_wp2;go_ret;exact⟨bU (by rw[rj.e,lP.e,Zm.e,Zs.e];rfl),BZ.e⟩
def fit(ah:aQ w B b pv bv tv)(hB:B<=w.heap.size):
 ύ prog 40 #[η #[ξ κ b.ab,pv,bv,tv]] w λe w'=>e=Ω (.bool (zl b))/\Γ w.heap.size w w':=by
 have bD:=ψ ah;obtain⟨PA,np,pc,rfl,-⟩:=ah.pieces.Φ;obtain⟨TA,nt,tc,rfl,-⟩:=ah.aI.Φ;obtain⟨A,m,c,rfl,-⟩:=ah.aC.Φ;have kb:Bk (w.alloc (Ξ #[ξ κ b.ab,ζ PA np pc,ζ A m c,ζ TA nt tc] 26)) w.heap.size 26 #[ξ κ b.ab,ζ PA np pc,ζ A m c,ζ TA nt tc]:=Bk.new _ _ _;have KB:=ψ kb;have iN:Hid (Γ w.heap.size w (w.alloc (Ξ #[ξ κ b.ab,ζ PA np pc,ζ A m c,ζ TA nt tc] 26))):=ψ ((ώ _ _).alloc (ϊ _) _);have oR:(w.alloc (Ξ #[ξ κ b.ab,ζ PA np pc,ζ A m c,ζ TA nt tc] 26)).heap.size=w.heap.size+1:=by simp
 have Rs:Hid (ύ prog 20 #[η #[ξ κ b.ab,ζ PA np pc,ζ A m c,ζ TA nt tc]] (w.alloc (Ξ #[ξ κ b.ab,ζ PA np pc,ζ A m c,ζ TA nt tc] 26)) λe w'=>e=Ω (.bool (wX b))/\Γ (w.heap.size+1) (w.alloc (Ξ #[ξ κ b.ab,ζ PA np pc,ζ A m c,ζ TA nt tc] 26)) w'):=ψ (by
  have:=ago (bD.e.still (Δ.aJ iN.e hB)) (by rw[oR];omega)
  rw[oR] at this;exact this)
 clear ah kb;cases hg:wX b with
 |true=>
  go_enter func40,Tryz.ntmps40;go_wp2
  go_at_call 20
  refine Rs.e.mono ?_
  rintro e w1 ⟨rfl,ai⟩;rw[hg];have BX:=ψ (iN.e.trans (ai.mono (by omega)))
  clear ai;go_wp2;go_ret;exact⟨bU (by unfold zl;rw[hg];rfl),BX.e⟩
 |false=>
  go_enter func40,Tryz.ntmps40;go_wp2
  go_at_call 20
  refine Rs.e.mono ?_
  rintro e w1 ⟨rfl,ai⟩;rw[hg];have k1:=KB.e.below ai (by omega)
  have r0:=k1.cell 0;have r1:=k1.cell 1;have r2:=k1.cell 2;have r3:=k1.cell 3;have aO:w.heap.size<w1.heap.size:=k1.lt;have bx:Γ w.heap.size w w1:=iN.e.trans (ai.mono (by omega))
  have V9:Hid (ύ prog 69 #[η #[ξ κ b.ab,ζ PA np pc,ζ A m c,ζ TA nt tc]] w1 λe w'=>e=Ω (ξ κ (cZ b))/\Γ w1.heap.size w1 w'):=ψ (anp (bD.e.still (Δ.aJ bx hB)) (by omega))
  have BX:=ψ bx;clear ai bx k1;go_wp2
  go_at_call 69
  refine V9.e.mono ?_
  rintro e w2 ⟨rfl,an⟩;have BY:=ψ (BX.e.trans (an.mono (by omega)))
  clear an;go_wp2;go_ret;exact⟨bU (by unfold zl;rw[hg];simp;rfl),BY.e⟩
def abm{α:Type}{f:List α->α->Int}:∀(l dZ:List α),scan f dZ l=0->∀(j:Nat) (y:α),l[j]?=φ y->f (dZ++l.take j) y=0
 | [],_,_,j,y,h=>by simp at h
 |a::l,dZ,h,j,y,hy=>by
  unfold scan at h;split at h
  ·rename_i h1;exact absurd h h1
  ·rename_i h1
   match j,hy with
   |0,hy=>
    simp at hy;subst hy;simpa using h1
   |j+1,hy=>
    have:=abm l (dZ++ [a]) h j y (by simpa using hy)
    simpa using this
def Rt(np:Int):∀(l:List Int) (prev:Option Int),l.Pairwise (· < ·)->(∀k∈l,cj k 0 (np - 1)=θ)->(∀p,prev=φ p->∀k∈l,p<k)->eN np prev l=0
 | [],prev,_,_,_=>by cases prev<;>rfl
 |k::l,prev,h1,h2,h3=>by
  rw[Ajk] at h1;have ih:=Rt np l (φ k) h1.2 (λj hj=>h2 j (List.mem_cons_of_mem _ hj)) (λp hp j hj=>by cases hp;exact h1.1 j hj)
  have hk:=h2 k (List.mem_cons_self ..);cases prev with
  |none=>
   show(if cj k 0 (np - 1) then eN np (φ k) l else 6)=0
   rw[if_pos hk];exact ih
  |some p=>
   have:=h3 p rfl k (List.mem_cons_self ..);show(if cj k 0 (np - 1) then if k<=p then 7 else eN np (φ k) l else 6)=0
   rw[if_pos hk,if_neg (by omega)];exact ih
def anT(P:Program)(w:Ψ)(base:Nat)(t ty e:ό)(i:TypeInfo)(size c:Nat)(ht:P.underlying t=φ (.slice e))(hi: P.info? e=φ i)
 (v:υ)(n:Nat)(xs:List υ)(aH:w.ownsRow base e size v n xs):
 (Builtin.append_ #[t,t] ty #[v,ζ ν 0 c]).run P w=.ok v w:=by
 rcases aH.2 with⟨rfl,rfl⟩ | ⟨g,cap,cur,rfl,_,_,ey,_⟩
 ·simp[Builtin.append_,Aiu ht,sizeOf,typeInfo,hi,Builtin.lenOf,Builtin.firstCells]
 ·simp[Builtin.append_,Aiu ht,sizeOf,typeInfo,hi,Builtin.lenOf,Builtin.firstCells,ey,storeCells]
def apB:Tryz.prog.stoodInHeld 72=χ:=by decide+kernel
def agv:Tryz.prog.eqGuardType Tryz.prog.depth 72=χ:=by decide+kernel
def ae1(d:Nat)(w:Ψ)(a b:Int):(Op.equalIn (d+2) 37 (η #[ξ κ a,ξ κ b]) (η #[ξ κ a,ξ κ b])).run prog w=.ok θ w:=by
 have hu:=U Tryz.underlying37;rw[run_equalIn_struct w (d+1) 37 _ _ (by simp[ň,hu]) (by rw[Kd];exact YW)]
 have h3:=U Tryz.underlying3;have hf:(prog.fieldsOf 37).toList=[{name:= "Low",type:=3,offset:=0,embedded:=χ,tag:= "",pkgPath:= "",byteOffset:=0},{name:= "High",type:=3,offset:=1,embedded:=χ,tag:= "",pkgPath:= "",byteOffset:=8}]:=by simp[ň,hu]
 rw[hf];simp[Op.eqFields,go_sem,run_equalIn_int,h3]
def ae3(w:Ψ)(n:ByteArray)(a b c:Int):(Op.equalIn 10000 72 (η #[.string n,ξ κ a,ξ κ b,ξ κ c]) (η #[.string n,ξ κ a,ξ κ b,ξ κ c])).run prog w=.ok θ w:=by
 have hu:=U Tryz.underlying72;rw[run_equalIn_struct w 9999 72 _ _ (by simp[ň,hu]) (by rw[Kd];exact apB)]
 have h3:=U Tryz.underlying3;have h9:=U Tryz.underlying9;have h37:=ae1 9997 w a b;have hf:(prog.fieldsOf 72).toList=[{name:= "Name",type:=9,offset:=0,embedded:=χ,tag:= "",pkgPath:= "",byteOffset:=0},{name:= "Length",type:=37,offset:=1,embedded:=χ,tag:= "",pkgPath:= "",byteOffset:=16},{name:= "Bears",type:=3,offset:=3,embedded:=χ,tag:= "",pkgPath:= "",byteOffset:=32}]:=by simp[ň,hu]
 rw[hf];simp[Op.eqFields,go_sem,run_equalIn_int,run_equalIn_string,h3,h9,h37]
def amf(w:Ψ)(n:ByteArray)(a b c:Int):(binOp .neq 72 (η #[.string n,ξ κ a,ξ κ b,ξ κ c]) (η #[.string n,ξ κ a,ξ κ b,ξ κ c])).run prog w=.ok (.bool χ) w:=by
 rw[run_neq_struct,ae3];rfl
def agk(w:Ψ)(op:BinOp)(x y:Operand)(xs ys:Array υ):(eqGuard op 72 x y (.agg xs) (.agg ys)).run prog w=.ok () w:=run_eqGuard_agg w op 72 x y xs ys (by simpa using agv)
def aou{av:υ}(ha:Row w B 2 Span.R av x.cM)(hb:Row w B 2 Span.R bv x.cM)(hB:B<=w.heap.size):
 ύ prog 137 #[η #[.string x.name,ξ κ x.aL,av],η #[.string x.name,ξ κ x.aL,bv]] w λe w'=>e=Ω (.bool θ)/\Γ w.heap.size w w':=by
 obtain⟨A1,n1,c1,rfl,-⟩:=ha.Φ;obtain⟨A2,n2,c2,rfl,-⟩:=hb.Φ;have st:Δ B w ((w.alloc (Ξ #[.string x.name,ξ κ x.aL,ζ A1 n1 c1] 59)).alloc (Ξ #[.string x.name,ξ κ x.aL,ζ A2 n2 c2] 59)):=((Δ.refl w).alloc hB _).alloc (by simp;omega) _
 have aG:=ψ (T1 (ha.still st λ_ _ h=>h) (hb.still st λ_ _ h=>h) (by simp;omega))
 clear ha hb st;go_enter func137,Tryz.ntmps137;go_wp2
 go_at_call 75
 refine aG.e.mono ?_
 rintro e w' ⟨rfl,hb⟩;have HB:=ψ hb;clear hb;go_wp2;go_ret;exact⟨bU (by simp),(((ώ _ _).alloc (ϊ _) _).alloc (by simp) _).trans (HB.e.mono (by simp;omega))⟩
def JV{X2 Tf Y9:υ}(h1:aQ w B b pv bv tv)(h2:aQ w B b X2 Tf Y9)(hB:B<=w.heap.size):
 ύ prog 54 #[η #[ξ κ b.ab,pv,bv,tv],η #[ξ κ b.ab,X2,Tf,Y9]] w λe w'=>e=Ω (.bool θ)/\Γ w.heap.size w w':=by
 obtain⟨A1,n1,c1,rfl,e1,l1,m1,r1⟩:=h1.pieces.Φ;obtain⟨A2,n2,c2,rfl,e2,l2,m2,r2⟩:=h1.aC.Φ;obtain⟨A3,n3,c3,rfl,e3,l3,m3,r3⟩:=h1.aI.Φ;obtain⟨D1,q1,d1,rfl,k1,-,o1,s1⟩:=h2.pieces.Φ;obtain⟨D2,q2,d2,rfl,k2,-,o2,s2⟩:=h2.aC.Φ;obtain⟨D3,q3,d3,rfl,k3,-,o3,s3⟩:=h2.aI.Φ;rw[e1] at k1;subst k1
 rw[e2] at k2;subst k2
 rw[e3] at k3;subst k3
 unfold ϑ at m1 m2 m3 o1 o2 o3;have R1:=ψ r1;have R2:=ψ r2;have R3:=ψ r3;have S1:=ψ s1;have S2:=ψ s2;have S3:=ψ s3;clear h1 h2 r1 r2 r3 s1 s2 s3 e1 e2 e3;have j1:((n1:Int) !=(n1:Int))=χ:=by simp
 have j2:((n2:Int) !=(n2:Int))=χ:=by simp
 have j3:((n3:Int) !=(n3:Int))=χ:=by simp
 have j0:(b.ab !=b.ab)=χ:=by simp
 obtain⟨W0,bY⟩:∃W0,W0=((w.alloc (Ξ #[ξ κ b.ab,ζ A1 n1 c1,ζ A2 n2 c2,ζ A3 n3 c3] 26)).alloc (Ξ #[ξ κ b.ab,ζ D1 n1 d1,ζ D2 n2 d2,ζ D3 n3 d3] 26)):=⟨_,rfl⟩
 have Z0:W0.heap.size=w.heap.size+2:=by rw[bY];simp
 have BW:Hid (Γ w.heap.size w W0):=ψ (by rw[bY];exact((ώ _ _).alloc (ϊ _) _).alloc (by simp) _)
 have KA:Hid (Bk W0 w.heap.size 26 #[ξ κ b.ab,ζ A1 n1 c1,ζ A2 n2 c2,ζ A3 n3 c3]):=ψ (by rw[bY];exact(Bk.new _ _ _).alloc _)
 have KB:Hid (Bk W0 (w.heap.size+1) 26 #[ξ κ b.ab,ζ D1 n1 d1,ζ D2 n2 d2,ζ D3 n3 d3]):=ψ (by rw[bY];exact Bk.bZ (by simp) _ _)
 have SX:Hid (∀W,Γ (w.heap.size+2) W0 W->(W.cell? ⟨w.heap.size,1,ν⟩=φ (ζ A1 n1 c1)/\ W.cell? ⟨w.heap.size,2,ν⟩=φ (ζ A2 n2 c2)/\ W.cell? ⟨w.heap.size,3,ν⟩=φ (ζ A3 n3 c3))/\
  (W.cell? ⟨w.heap.size+1,1,ν⟩=φ (ζ D1 n1 d1)/\ W.cell? ⟨w.heap.size+1,2,ν⟩=φ (ζ D2 n2 d2)/\ W.cell? ⟨w.heap.size+1,3,ν⟩=φ (ζ D3 n3 d3))/\w.heap.size+2<=W.heap.size/\Hid (Δ B w W)):=ψ λW hW=>
  have k:=KA.e.below hW (by omega)
  have k':=KB.e.below hW (by omega)
  ⟨⟨k.cell 1,k.cell 2,k.cell 3⟩,⟨k'.cell 1,k'.cell 2,k'.cell 3⟩,k'.lt,ψ (Δ.aJ (BW.e.trans (hW.mono (by omega))) hB)⟩
 go_enter func54,Tryz.ntmps54;go_wp2;rw[<-bY];go_loopw [5] (λk wr=>∃i:Nat,i<=n1/\k=ξ κ i/\Hid (Γ (w.heap.size+2) W0 wr)) (λk _=>n1 - (ϗ k).toNat)
 case atStart=>exact⟨0,Ϡ _,rfl,ψ (ώ _ _)⟩
 case round=>
  obtain⟨i,hi,rfl,hb⟩:=hrel;obtain⟨⟨g1,g2,g3⟩,⟨u1,u2,u3⟩,hz,st⟩:=SX.e wr hb.e;by_cases ao:i<n1
  ·obtain⟨ad,x,cs,rfl,aE,hx,⟨rfl,-⟩,-,aq⟩:=R1.e i ao
   obtain⟨ae,y,ju,rfl,qq,hy,⟨rfl,-⟩,-,fa⟩:=S1.e i ao;rw[hx] at hy;cases hy
   have p0:=cA aq st.e aE rfl;have p1:=bj aq st.e aE 0 rfl;have p2:=bj aq st.e aE 1 rfl;have p3:=bj aq st.e aE 2 rfl;have t0:=cA fa st.e qq rfl;have t1:=bj fa st.e qq 0 rfl;have t2:=bj fa st.e qq 1 rfl;have t3:=bj fa st.e qq 2 rfl;have v0:(ad.add (i * 4)).block<wr.heap.size:=by rw[b9];omega
   have v1:(ae.add (i * 4)).block<wr.heap.size:=by rw[b9];omega
   have xI:(i:Int)<n1:=by omega
   have qn:=amf;have qg:=agk;clear aq fa hx;go_wp2;go_quiet (fail);go_wp2;go_roundw;case rel=>exact⟨i+1,by omega,by go_num,ψ (jr hb.e _)⟩
   case measure=>simp[ϗ];omega
  ·obtain rfl:i=n1:=by omega
   have HB:=ψ hb.e;clear hb;go_wp2;go_loopw [6] (λk wr=>∃j:Nat,j<=n2/\k=ξ κ j/\Hid (Γ (w.heap.size+2) W0 wr)) (λk _=>n2 - (ϗ k).toNat)
   case atStart=>exact⟨0,Ϡ _,rfl,HB⟩
   case round=>
    rename Ψ=>wq
    obtain⟨j,hj,rfl,hb⟩:=hrel;clear g1 g2 g3 u1 u2 u3 hz st;obtain⟨⟨g1,g2,g3⟩,⟨u1,u2,u3⟩,hz,st⟩:=SX.e wq hb.e;by_cases IK:j<n2
    ·obtain⟨ad,x,cs,rfl,aE,hx,⟨kv,rfl,-,cP⟩,-,aq⟩:=R2.e j IK
     obtain⟨ae,y,ju,rfl,qq,hy,⟨Pw,rfl,-,qw⟩,-,fa⟩:=S2.e j IK;rw[hx] at hy;cases hy
     have aG:Hid (ύ prog 137 #[η #[.string x.name,ξ κ x.aL,kv],η #[.string x.name,ξ κ x.aL,Pw]] wq.drew λe w'=>e=Ω (.bool θ)/\Γ wq.drew.heap.size wq.drew w'):=ψ
      (aou (cP.still (st.e.trans (Δ.aJ (dT (ώ _ _)) (ϊ _))) λ_ _ h=>h) (qw.still (st.e.trans (Δ.aJ (dT (ώ _ _)) (ϊ _))) λ_ _ h=>h) (show B<=wq.heap.size by omega))
     obtain⟨ZT,nk,kc,rfl,-⟩:=cP.Φ;obtain⟨ZU,nk2,qM,rfl,-⟩:=qw.Φ;have p0:=cA aq st.e aE rfl;have p1:=bj aq st.e aE 0 rfl;have p2:=bj aq st.e aE 1 rfl;have t0:=cA fa st.e qq rfl;have t1:=bj fa st.e qq 0 rfl;have t2:=bj fa st.e qq 1 rfl;have v0:(ad.add (j * 3)).block<wq.heap.size:=by rw[b9];omega
     have v1:(ae.add (j * 3)).block<wq.heap.size:=by rw[b9];omega
     have xI:(j:Int)<n2:=by omega
     clear aq fa hx cP qw;go_wp2;refine tA 10 (by kernel_rfl) (by kernel_rfl) ?_
     simp only[ê,ë,ñ,ò];repeat still_step
     refine Ait ?_
     go_wp2
     go_at_call 137
     refine aG.e.mono ?_
     rintro e w2 ⟨rfl,an⟩;have dR:=ψ ((dT hb.e).trans (an.mono (show w.heap.size+2<=wq.heap.size from hz)))
     clear an;go_wp2;go_roundw;case rel=>exact⟨j+1,by omega,by go_num,dR⟩
     case measure=>simp[ϗ];omega
    ·obtain rfl:j=n2:=by omega
     have dj:=ψ hb.e;clear hb;go_wp2;go_loopw [7] (λk wr=>∃l:Nat,l<=n3/\k=ξ κ l/\Hid (Γ (w.heap.size+2) W0 wr)) (λk _=>n3 - (ϗ k).toNat)
     case atStart=>exact⟨0,Ϡ _,rfl,dj⟩
     case round=>
      rename Ψ=>wt
      obtain⟨l,hl,rfl,hb⟩:=hrel;clear g1 g2 g3 u1 u2 u3 hz st;obtain⟨⟨g1,g2,g3⟩,⟨u1,u2,u3⟩,hz,st⟩:=SX.e wt hb.e;by_cases VN:l<n3
      ·obtain⟨ad,x,cs,rfl,aE,hx,⟨kv,rfl,cP⟩,-,aq⟩:=R3.e l VN
       obtain⟨ae,y,ju,rfl,qq,hy,⟨Pw,rfl,qw⟩,-,fa⟩:=S3.e l VN;rw[hx] at hy;cases hy
       have aG:Hid (ύ prog 30 #[kv,Pw] wt.drew λe w'=>e=Ω (.bool θ)/\Γ wt.drew.heap.size wt.drew w'):=ψ (by
           have:=D4 (cP.still (st.e.trans (Δ.aJ (dT (ώ _ _)) (ϊ _))) λ_ _ h=>h) (qw.still (st.e.trans (Δ.aJ (dT (ώ _ _)) (ϊ _))) λ_ _ h=>h) (show B<=wt.drew.heap.size from ϡ hB (ϡ (by omega) hz))
           rwa[show decide (x.pieces=x.pieces)=θ from decide_eq_true rfl] at this)
       obtain⟨ZT,nk,kc,rfl,-⟩:=cP.Φ;obtain⟨ZU,nk2,qM,rfl,-⟩:=qw.Φ;have p0:=cA aq st.e aE rfl;have p1:=bj aq st.e aE 0 rfl;have p2:=bj aq st.e aE 1 rfl;have t0:=cA fa st.e qq rfl;have t1:=bj fa st.e qq 0 rfl;have t2:=bj fa st.e qq 1 rfl;have v0:(ad.add (l * 3)).block<wt.heap.size:=by rw[b9];omega
       have v1:(ae.add (l * 3)).block<wt.heap.size:=by rw[b9];omega
       have xI:(l:Int)<n3:=by omega
       have qn:=PW;have qg:=M8;clear aq fa hx cP qw;go_wp2;refine tA 26 (by kernel_rfl) (by kernel_rfl) ?_
       simp only[ê,ë,ñ,ò];repeat still_step
       refine Ait ?_
       go_wp2
       go_at_call 30
       refine aG.e.mono ?_
       rintro e w2 ⟨rfl,an⟩;have dR:=ψ ((dT hb.e).trans (an.mono (show w.heap.size+2<=wt.heap.size from hz)))
       clear an;go_wp2;go_roundw;case rel=>exact⟨l+1,by omega,by go_num,dR⟩
       case measure=>simp[ϗ];omega
      ·obtain rfl:l=n3:=by omega
       have pe:=ψ hb.e;clear hb;go_wp2;go_ret;exact⟨bU rfl,BW.e.trans (pe.e.mono (by omega))⟩
def oy(No:Nat->Prop)(W U:Ψ):Prop:=W.heap.size<=U.heap.size/\∀p:Addr,p.block<W.heap.size->¬No p.block-> U.cell? p= W.cell? p
def F8{No:Nat->Prop}{U:Ψ}{sz:Nat}{R:α->List υ->Prop}{xs:List α}(h:cV W No sz R v xs)(hU:oy No W U):Row U U.heap.size sz R v xs:=by
 obtain⟨A,c,hv,h1,h2,h3⟩:=h;refine⟨A,c,hv,h1,h2,λhx=>?_⟩
 obtain⟨ad,ha,hb,hn,hc⟩:=h3 hx;have hz:=hU.1;refine⟨ad,ha,by omega,λi x hi=>?_⟩
 obtain⟨cs,r,hl,aq⟩:=hc i x hi;exact⟨cs,r,hl,λj u hu=>(hU.2 _ (by rw[b9];exact hb) (by rw[b9];exact hn)).trans (aq j u hu)⟩
def jJ.kept{No:Nat->Prop}{U:Ψ}{bs:List (bN×υ)}{ts:List (Tape×υ)}(h:jJ W No b pv bv tv bs ts)(hU:oy No W U):aQ U U.heap.size b pv bv tv:=by
 refine⟨F8 h.p hU,?_,?_⟩
 ·rw[<-h.mG]
  exact tD (F8 h.bo hU) λp hm cs hc=>⟨p.2,hc,(h.kn p hm).1,F8 (h.kn p hm).2 hU⟩
 ·rw[<-h.oh]
  exact tD (F8 h.t hU) λp hm cs hc=>⟨p.2,hc,F8 (h.tp p hm) hU⟩
def oy.qT{No:Nat->Prop}{U:Ψ}{q:Addr}(h:oy No (W.setCell q u) U)(hq:No q.block):oy No W U:=by
 refine⟨by simpa using h.1,λp hp hn=>?_⟩
 rw[<-Ů W q p u (λe=>hn (e▸hq))]
 exact h.2 p (by simpa using hp) hn
def oy.weaken{No oz:Nat->Prop}{U:Ψ}(h:oy No W U)(hN:∀k,No k->oz k):oy oz W U:=⟨h.1,λp hp hn=>h.2 p hp λhk=>hn (hN _ hk)⟩
def jG:eR:=⟨0,[],[],[]⟩
def Rj(w:Ψ)(B:Nat):aQ w B jG (ζ ν 0 0) (ζ ν 0 0) (ζ ν 0 0):=⟨Row.nil,Row.nil,Row.nil⟩
def yR(No:Nat->Prop)(w w':Ψ)(o:eR)(s:Int)(e:Ending):Prop:=
 ∃P' n1 c1 A' n2 c2 T' n3 c3,e=Ω (μ #[η #[ξ κ o.ab,ζ P' n1 c1,ζ A' n2 c2,ζ T' n3 c3],ξ κ s])/\(∀U,oy No w' U->aQ U U.heap.size o (ζ P' n1 c1) (ζ A' n2 c2) (ζ T' n3 c3))/\Γ w.heap.size w w'
def Uz{No:Nat->Prop}(hb:Γ w.heap.size w w'):yR No w w' jG s (Ω (μ #[η #[ξ κ 0,ζ ν 0 0,ζ ν 0 0,ζ ν 0 0],ξ κ s])):=
 ⟨ν,0,0,ν,0,0,ν,0,0,rfl,λU _=>Rj U _,hb⟩
def fF(b:eR)(t:Tape):eR:={b with aI:=b.aI++ [t]}
def nf(b:eR)(t:Tape):eR:=if bT (fF b t) 0=0 then fF b t else jG
def hasB(l:List Int)(n:Int):Bool:=decide (n∈l)
def abw{lv:υ}{n:Int}(hl:Row w B 1 bI lv l)(h3:l.length<=1000):
 ύ prog 79 #[lv,ξ κ n] w λe w'=>e=Ω (.bool (hasB l n))/\w=w':=by
 obtain⟨A,m,c,rfl,e1,h1,du,r1⟩:=hl.Φ;unfold ϑ at du;have hm:m<=1000:=by omega
 have E:=ψ e1;have R1:=ψ r1;clear hl e1 r1 h3;go_enter func79,Tryz.ntmps79;go_wp2;go_loopw [5] (λu wr=>∃i:Nat,i<=m/\u=ξ κ i/\w=wr/\(∀j,j<i->l[j]?≠φ n)) (λu _=>m - (ϗ u).toNat)
 case atStart=>exact⟨0,Ϡ _,rfl,rfl,λj hj=>by omega⟩
 case round=>
  obtain⟨i,hi,rfl,rfl,br⟩:=hrel;by_cases ao:i<m
  ·obtain⟨ad,x,cs,rfl,aE,hx,rfl,-,aq⟩:=R1.e i ao
   have g0:=aq 0 _ rfl;simp only[Ī,Nat.add_zero] at g0;have xI:(i:Int)<m:=by omega
   have HX:=ψ (Ϗ hx br);clear hx aq br;by_cases Aw:x=n
   ·subst Aw
    go_wp2;go_ret;exact⟨bU (by unfold hasB;rw[decide_eq_true_iff.2 (Ϩ HX.e.1)]),rfl⟩
   ·go_wp2
    go_roundw;case rel=>exact⟨i+1,by omega,by go_num,trivial,λj hj=>by
     by_cases h:j=i
     ·subst h;rw[HX.e.1];simpa using Aw
     ·exact HX.e.2 j (by omega)⟩
    case measure=>simp[ϗ];omega
  ·obtain rfl:i=m:=by omega
   have HN:=ψ br;clear br;go_wp2;go_ret;refine⟨bU ?_,rfl⟩
   unfold hasB;rw[eq_comm,decide_eq_false_iff_not];intro ma;obtain⟨j,hj⟩:=Ai3 ma
   exact HN.e j (by have:=(Ϯ.1 hj).1;have:=E.e;omega) hj
def apq{P:Program}{ops:Array Oper}{a:Act}{w:Ψ}{K:Act->Ψ->Prop}{Q:Exit->Act->Ψ->Prop}{E:Prop}(hg:o.guard=ν)(s x:Operand)(t:ό)
 (ho:o.op=.call {callee:=.builtin .append,args:=#[s,x],argTypes:=#[t,t]})
 (base:Nat)(e:ό)(i:TypeInfo)(z:υ)(size bytes:Nat)(ht:P.underlying t=φ (.slice e))(hi: P.info? e=φ i)(hz:i.zero=φ z)
 (vB:i.size=size)(Ey:i.bytes=bytes)(Pc:z.cells.size=size)(aN:0<size)
 (v:υ)(n:Nat)(xs:List υ)(hs:a.eval s=v)(aH:w.ownsRow base e size v n xs)
 {f:α->List υ}(u:υ)(l:List α)(hx:a.eval x=u)(hu:Row w B size (λy cs=>cs=f y) u l)(hf:∀y,(f y).length=size)(h1:∀u∈l.flatMap f,u.oneCell'=θ)
 (Ia:n+l.length<=ϑ)(Gy:(n+l.length) * bytes<=140737488355328)(Eu:base<=w.heap.size)
 (h:∀v' w',w'.ownsRow base e size v' (n+l.length) (xs++l.flatMap f)->w.grownBy w' v.ownBlock->K (a.put o.dst v') w'):if Ä o (yielded ops a.tmps)=θ then Oper.wp P o a w K Q else E:=by
 have hw:Ä o (yielded ops a.tmps)=θ:=by simp[Ä,hg]
 rw[if_pos hw];obtain⟨A,c,hv,-,-,hc⟩:=id hu;subst hv;cases A with
 |none=>
  have hl:l=[]:=by
   cases l with
   |nil=>rfl
   |cons y l=>obtain⟨ad,h,-⟩:=hc (by simp);cases h
  subst hl;have bh:=anT P w base t o.type e i size c ht hi v n xs aH;have h':=h v w (by simpa using aH) ⟨rfl,rfl,rfl,ϊ _,λ_ _ _=>rfl⟩
  unfold Oper.wp;simp[execOp,ho,resolve,invoke,builtin,hs,hx,bh,Result.andThen];exact h'
 |some ad=>
  exact wp_append_own w s x t ho base e i z size bytes ht hi hz vB Ey Pc aN v n xs hs aH ad l.length c (l.flatMap f) hx (uT hf l) (hu.cells hf).1 h1 Ia Gy Eu λv' w' h2 h3 _=>h v' w' h2 h3
def aaM{bs:List (bN×υ)}(mO:∀p∈bs,p.1.name.size<=ϑ/\Row w B 2 Span.R p.2 p.1.cM):∀u∈bs.flatMap fc,u.oneCell'=θ:=by
 intro u hu;obtain⟨p,hp,hu⟩:=ĺ.1 hu;obtain⟨A,c,e,_⟩:=(mO p hp).2;simp[fc] at hu;rcases hu with rfl|rfl|rfl
 ·rfl
 ·rfl
 ·rw[e];rfl
def BE(b:eR)(x:bN):eR:=if cZ (fH b x)=0 then fH b x else jG
def aib{w1:Ψ}{bs:List (bN×υ)}{kv gP:υ}(hB:B<=w.heap.size)(ah:aQ w B b pv bv tv)(Aw:x.name.size<=ϑ)(iZ:Row w B 2 Span.R kv x.cM)
 (mO:∀p∈bs,p.1.name.size<=ϑ/\Row w B 2 Span.R p.2 p.1.cM)(fC:bs.map Ď=b.aC)(h1:Γ w.heap.size w w1)(h6:Γ w1.heap.size w1 w6)(hz:w.heap.size+3<=w1.heap.size)
 (o:w6.ownsRow w1.heap.size 59 3 gP (bs.length+1) (bs.flatMap fc++ [.string x.name,ξ κ x.aL,kv]))
 (kb:Bk w1 w.heap.size 26 #[ξ κ b.ab,pv,bv,tv])(kr:Bk w1 (w.heap.size+2) 26 #[ξ κ 0,ζ ν 0 0,ζ ν 0 0,ζ ν 0 0]):
 (∃lT nh,jJ (w6.setCell ⟨w.heap.size,2,ν⟩ gP) (λk=>B<=k/\k<w.heap.size+3) (fH b x) pv gP tv lT nh)/\Bk (w6.setCell ⟨w.heap.size,2,ν⟩ gP) w.heap.size 26 #[ξ κ b.ab,pv,gP,tv]/\
 Bk (w6.setCell ⟨w.heap.size,2,ν⟩ gP) (w.heap.size+2) 26 #[ξ κ 0,ζ ν 0 0,ζ ν 0 0,ζ ν 0 0]/\Γ w.heap.size w (w6.setCell ⟨w.heap.size,2,ν⟩ gP)/\LG gP:=by
 have e6:=h6.size;have bW:Γ w.heap.size w (w6.setCell ⟨w.heap.size,2,ν⟩ gP):=(h1.trans (h6.mono (by omega))).setCell (ϊ _) _
 have o':(w6.setCell ⟨w.heap.size,2,ν⟩ gP).ownsRow w1.heap.size 59 3 gP (bs++ [(x,kv)]).length ((bs++ [(x,kv)]).flatMap fc):=by
  have:=gN (u:=gP) (p:=⟨w.heap.size,2,ν⟩) o (by simp<;>omega)
  simpa [fc] using this
 have hN:∀k,B<=k/\k<w.heap.size+3->(λk=>B<=k) k\/w.heap.size<=k:=λk hk=>.inl hk.1
 obtain⟨Lw,ts,hn⟩:=ah.pU (No:=λk=>B<=k) hB (λk hk=>hk)
 refine⟨⟨bs++ [(x,kv)],ts,hn.p.below bW hN,cV.tt o' (λ_=>rfl) (λp hm=>rfl) (λk hk=>by have:=hk.2;omega),hn.t.below bW hN,by simp[fH,fC],hn.oh,λp hm=>?_,λp hm=>(hn.tp p hm).below bW hN⟩,(kb.below h6 (by omega)).set 2 gP,(kr.below h6 (by omega)).dV (by simp) _,bW,ld o⟩
 rcases ĉ.1 hm with hm|hm
 ·exact⟨(mO p hm).1,((mO p hm).2.pU (No:=λk=>B<=k) hB (λk hk=>hk)).below bW hN⟩
 ·simp at hm;subst hm
  exact⟨Aw,(iZ.pU (No:=λk=>B<=k) hB (λk hk=>hk)).below bW hN⟩
def aaI{kv:υ}(hB:B<=w.heap.size)(ah:aQ w B b pv bv tv)(Aw:x.name.size<=ϑ)(iZ:Row w B 2 Span.R kv x.cM)(h0:cZ b=0):
 ύ prog 53 #[η #[ξ κ b.ab,pv,bv,tv],η #[.string x.name,ξ κ x.aL,kv]] w λe w'=>yR (λk=>B<=k/\k<w.heap.size) w w' (BE b x) (cZ (fH b x)) e:=by
 obtain⟨bs,fC,zL⟩:=CY (R':=λ(p:bN×υ) cs=>cs=fc p/\p.1.name.size<=ϑ/\Row w B 2 Span.R p.2 p.1.cM) ah.aC (λx cs ⟨kv,h1,h2,h3⟩=>⟨kv,h1,h2,h3⟩)
 have mO:∀p∈bs,p.1.name.size<=ϑ/\Row w B 2 Span.R p.2 p.1.cM:=λp hp=>by obtain⟨cs,h1,h2⟩:=zL.mem p hp;exact h2
 have uI:Hid (Row w B 3 (λp cs=>cs=fc p) bv bs):=ψ (zL.still (Δ.refl w) λ_ _ h=>h.1)
 have Ew:∀p∈bs,∀u∈fc p,u.oneCell'=θ:=λp hp u hu=>by
  obtain⟨A,c,e,_⟩:=(mO p hp).2;simp[fc] at hu;rcases hu with rfl|rfl|rfl
  ·rfl
  ·rfl
  ·rw[e];rfl
 have gU:bs.length=b.aC.length:=by rw[<-fC,ü]
 have hv:=fG h0;have xH:bs.length<=3:=by rw[gU];exact hv.nb
 have C2:Hid (∀w',Δ B w w'->B<=w'.heap.size->ύ prog 135 #[bv] w' λe bz=>∃v',e=Ω v'/\bz.ownsRow w'.heap.size 59 3 v' bs.length (bs.flatMap fc)/\Γ w'.heap.size w' bz):=
  ψ λw' hs hz=>Tx (uI.e.still hs λ_ _ h=>h) hz (λ_=>rfl) Ew (by omega)
 have HM:=ψ (Ϗ mO (Ϗ fC gU));have bD:=ψ ah;have HH:=ψ (Ϗ h0 (Ϗ Aw iZ));obtain⟨A1,n1,c1,rfl,-⟩:=ah.pieces.Φ;obtain⟨A2,n2,c2,rfl,-⟩:=ah.aC.Φ;obtain⟨A3,n3,c3,rfl,-⟩:=ah.aI.Φ;obtain⟨A4,n4,c4,rfl,-⟩:=iZ.Φ;obtain⟨i0,cJ,cK,aO,aZ⟩:=Ą WR;have cy:=ψ (Ϗ cJ (Ϗ cK (Ϗ aO aZ)));clear ah zL mO Ew fC gU hv h0 Aw iZ cJ cK aO aZ;go_enter func53,Tryz.ntmps53;go_wp2_with (first
  | (go_at_call 68;refine(qj (bD.e.still ((((Δ.refl w).alloc hB _).alloc (by simp<;>omega) _).alloc (by simp<;>omega) _)) (by simp<;>omega) HH.e.1).mono ?_;rintro e w1 ⟨rfl,ai⟩
     have kb:Bk w1 w.heap.size 26 #[ξ κ b.ab,ζ A1 n1 c1,ζ A2 n2 c2,ζ A3 n3 c3]:=(((Bk.new w _ _).alloc _).alloc _).below ai (by simp<;>omega)
     have kx:Bk w1 (w.heap.size+1) 59 #[.string x.name,ξ κ x.aL,ζ A4 n4 c4]:=((Bk.bZ (by simp<;>omega) _ _).alloc _).below ai (by simp<;>omega)
     have kr:Bk w1 (w.heap.size+2) 26 #[ξ κ 0,ζ ν 0 0,ζ ν 0 0,ζ ν 0 0]:=(Bk.bZ (by simp<;>omega) _ _).below ai (by simp)
     have aW:Hid (Γ w.heap.size w w1):=ψ (((((ώ _ _).alloc (ϊ _) _).alloc (by simp) _).alloc (by simp<;>omega) _).trans (ai.mono (by simp<;>omega)))
     have HK:=ψ (Ϗ kb (Ϗ kx kr));clear kb kx kr ai))
 have k2: w1.cell? ⟨w.heap.size,2,ν⟩=φ (ζ A2 n2 c2):=HK.e.1.cell 2;have x0: w1.cell? ⟨w.heap.size+1,0,ν⟩=φ (.string x.name):=HK.e.2.1.cell 0;have x1: w1.cell? ⟨w.heap.size+1,1,ν⟩=φ (ξ κ x.aL):=HK.e.2.1.cell 1;have x2: w1.cell? ⟨w.heap.size+1,2,ν⟩=φ (ζ A4 n4 c4):=HK.e.2.1.cell 2;have hz:w.heap.size+3<=w1.heap.size:=HK.e.2.2.lt;have iV:w.heap.size<w1.heap.size:=by omega
 have Ou:w.heap.size<=w1.heap.size:=by omega
 have ES:w.heap.size+1<w1.heap.size:=by omega
 have Ov:w.heap.size+1<=w1.heap.size:=by omega
 have XD:Hid (Γ w1.heap.size w1 w1.drew):=ψ (dT (ώ _ _));have XA:Hid (∀o,Γ w1.heap.size w1 (w1.drew.alloc o)):=ψ λo=>(dT (ώ _ _)).alloc (ϊ _) o
 have SB:Hid (∀w',Γ w1.heap.size w1 w'->Δ B w w'/\B<=w'.heap.size):=ψ λw' h=>⟨Δ.aJ (aW.e.trans (h.mono (by omega))) hB,by have:=h.size;omega⟩
 refine Code.wp_mono (Q:=dK λa W=>∃kL gM c12 Gn gV n19 c19,a={tmps:=#[Value.agg #[ξ κ b.ab,ζ A1 n1 c1,ζ A2 n2 c2,ζ A3 n3 c3],Value.agg #[.string x.name,ξ κ x.aL,ζ A4 n4 c4],Value.pointer (φ {block:=w.heap.size,off:=0}),Value.pointer (φ {block:=w.heap.size+1,off:=0}),Value.pointer (φ {block:=w.heap.size+1+1,off:=0}),ξ κ 0,ξ κ 0,ω,Value.agg #[ξ κ b.ab,ζ A1 n1 c1,ζ A2 n2 c2,ζ A3 n3 c3],ξ κ 0,ξ κ 0,.bool χ,ω,ω,Value.pointer (φ {block:=w.heap.size,off:=2}),ζ A2 n2 c2,ζ kL gM c12,Value.agg #[.string x.name,ξ κ x.aL,ζ A4 n4 c4],Gn,ζ gV n19 c19,Value.pointer (φ {block:=w.heap.size,off:=2}),ω,ω,ω,ω,ω,ω,ω,ω],defers:=[]}/\Hid ((∃lT nh,jJ W (λk=>B<=k/\k<w.heap.size+3) (fH b x) (ζ A1 n1 c1) (ζ gV n19 c19) (ζ A3 n3 c3) lT nh)/\Bk W w.heap.size 26 #[ξ κ b.ab,ζ A1 n1 c1,ζ gV n19 c19,ζ A3 n3 c3]/\
  Bk W (w.heap.size+2) 26 #[ξ κ 0,ζ ν 0 0,ζ ν 0 0,ζ ν 0 0]/\Γ w.heap.size w W)) ?post ?region
 case region=>
  go_region_law (first
   | (go_simp
      go_at_call 135
      refine(C2.e _ ?h1 ?h2).mono ?_
      case h1=>first|exact(SB.e _ XD.e).1|exact(SB.e _ (XA.e _)).1
      case h2=>first|exact(SB.e _ XD.e).2|exact(SB.e _ (XA.e _)).2
      rintro e w3 ⟨v12,rfl,nW,bK⟩;have dR:Hid (Γ w1.heap.size w1 w3):=ψ (by first|exact XD.e.trans bK|exact(XA.e _).trans (bK.mono (by simp)))
      have rA:Hid (w3.ownsRow w1.heap.size 59 3 v12 bs.length (bs.flatMap fc)):=ψ (nW.base (by simp))
      have nH:=HK.e.2.1.below dR.e (by omega)
      have x0: w3.cell? ⟨w.heap.size+1,0,ν⟩=φ (.string x.name):=nH.cell 0;have x1: w3.cell? ⟨w.heap.size+1,1,ν⟩=φ (ξ κ x.aL):=nH.cell 1;have x2: w3.cell? ⟨w.heap.size+1,2,ν⟩=φ (ζ A4 n4 c4):=nH.cell 2;have gw:w1.heap.size<=w3.heap.size:=dR.e.size
      try(have HZ:Hid (∀(j:Nat) (u:υ),[Value.string x.name,ξ κ x.aL,ζ A4 n4 c4][j]?=φ u-> w3.cell? ((⟨w1.heap.size,0,ν⟩:Addr).add j)=φ u):=ψ (λj u hu=>by
       rw[kP];have:=((Bk.new w1.drew 59 #[.string x.name,ξ κ x.aL,ζ A4 n4 c4]).below bK (by simp)).cell j
       simpa using this.trans (by simpa using hu)))
      obtain⟨kL,gM,c12,rfl⟩:=ld nW;clear bK nW nH)
   | (refine oe rfl (.tmp 16) (.tmp 18) 23 rfl w1.heap.size 59 i0 (η #[.string {data:=#[]},ξ κ 0,ζ ν 0 0]) 3 48 (U Tryz.underlying23) cy.e.1 cy.e.2.1 cy.e.2.2.1 cy.e.2.2.2 rfl (by decide) _ bs.length (bs.flatMap fc) rfl rA.e ⟨w1.heap.size,0,ν⟩ 1 1 [.string x.name,ξ κ x.aL,ζ A4 n4 c4] rfl rfl HZ.e ?c2 ?c3 ?c4 gw ?_
      case c2=>simp[Value.oneCell']
      case c3=>(simp only[ϑ];omega)
      case c4=>omega
      intro v' w6 aH gK;have HO:=ψ aH;have nK:Γ w1.heap.size w1 w6:=dR.e.grown gK gw (λk hk=>dX rA.e k hk)
      have dG:=ψ nK;have eP:=HK.e.1.below nK (by omega)
      have q2: w6.cell? ⟨w.heap.size,2,ν⟩=φ (ζ A2 n2 c2):=eP.cell 2;have f2: w6.frozen? ⟨w.heap.size,2,ν⟩=χ:=eP.frozen 2;obtain⟨gV,n19,c19,rfl⟩:=ld aH;clear aH gK nK eP)
   | (refine oe rfl (.tmp 16) (.tmp 18) 23 rfl w1.heap.size 59 i0 (η #[.string {data:=#[]},ξ κ 0,ζ ν 0 0]) 3 48 (U Tryz.underlying23) cy.e.1 cy.e.2.1 cy.e.2.2.1 cy.e.2.2.2 rfl (by decide) _ bs.length (bs.flatMap fc) rfl (rA.e.alloc _) ⟨w3.heap.size,0,ν⟩ 1 1 [.string x.name,ξ κ x.aL,ζ A4 n4 c4] rfl rfl ?c1 ?c2 ?c3 ?c4 ?c5 ?_
      case c1=>(intro j u hu;rw[kP];have:=(Bk.new w3 59 #[.string x.name,ξ κ x.aL,ζ A4 n4 c4]).cell j;simpa using this.trans (by simpa using hu))
      case c2=>simp[Value.oneCell']
      case c3=>(simp only[ϑ];omega)
      case c4=>omega
      case c5=>(simp<;>omega)
      intro v' w6 aH gK;have HO:=ψ aH;have nK:Γ w1.heap.size w1 w6:=(dR.e.alloc gw _).grown gK (by simp<;>omega) (λk hk=>dX rA.e k hk)
      have dG:=ψ nK;have eP:=HK.e.1.below nK (by omega)
      have q2: w6.cell? ⟨w.heap.size,2,ν⟩=φ (ζ A2 n2 c2):=eP.cell 2;have f2: w6.frozen? ⟨w.heap.size,2,ν⟩=χ:=eP.frozen 2;obtain⟨gV,n19,c19,rfl⟩:=ld aH;clear aH gK nK eP))
  all_goals
   have vr:=aib hB bD.e HH.e.2.1 HH.e.2.2 HM.e.1 HM.e.2.1 aW.e dG.e hz HO.e HK.e.1 HK.e.2.2;show ∃_,_
   exact⟨_,_,_,_,_,_,_,rfl,ψ ⟨vr.1,vr.2.1,vr.2.2.1,vr.2.2.2.1⟩⟩
 case post=>
  clear C2 cy k2 x0 x1 x2 XD XA SB iV Ou ES Ov HK uI xH;refine dK.imp ?_
  rintro a W ⟨kL,gM,c12,Gn,gV,n19,c19,rfl,hh⟩;have Ll:=ψ hh.e.2;have k0:=hh.e.2.1.cell 0;have k1:=hh.e.2.1.cell 1;have k2:=hh.e.2.1.cell 2;have k3:=hh.e.2.1.cell 3;have iA:w.heap.size<W.heap.size:=hh.e.2.1.lt;have eD:w.heap.size+3<=W.heap.size:=hh.e.2.2.1.lt;obtain⟨lT,nh,hp⟩:=hh.e.1;have HP:=ψ hp;have r8:(fH b x).ab=b.ab:=rfl;have UG:=MD hp.book (ϊ _);rw[r8] at UG;have VR:=ψ UG;clear hp hh UG r8 hz;by_cases hs:cZ (fH b x)=0
  ·have HV:=ψ (fG hs)
   rw[hs] at VR;have hr:BE b x=fH b x:=by unfold BE;rw[if_pos hs]
   have HR:=ψ hr;have HS:=ψ hs;clear hr hs;go_wp2
   go_at_call 68
   refine VR.e.mono ?_
   rintro e w7 ⟨rfl,oH⟩;have EM:=Ll.e.1.below oH iA;have k0: w7.cell? ⟨w.heap.size,0,ν⟩=φ (ξ κ b.ab):=EM.cell 0;have k1: w7.cell? ⟨w.heap.size,1,ν⟩=φ (ζ A1 n1 c1):=EM.cell 1;have k2: w7.cell? ⟨w.heap.size,2,ν⟩=φ (ζ gV n19 c19):=EM.cell 2;have k3: w7.cell? ⟨w.heap.size,3,ν⟩=φ (ζ A3 n3 c3):=EM.cell 3;have LH:=ψ (Ll.e.2.1.below oH Ll.e.2.1.lt);have Mp:=(copied (w:=w7) (HP.e.grown (jQ oH (ϊ _) ν) nofun) (λk hk=>by have:=hk.2;have:=LH.e.lt;omega) HV.e)
   have r8:(fH b x).ab=b.ab:=rfl;rw[r8] at Mp;have KJ:=ψ Mp;clear Mp r8;have RK:=ψ oH;clear oH EM;go_wp2
   go_at_call 136
   refine KJ.e.mono ?_
   rintro e w8 ⟨p8,b8,t8,Z6,ts8,rfl,ve,pF⟩;have Ir:=ve.book;have jf:=LH.e.below pF LH.e.lt;have r0:=jf.cell 0;have r1:=jf.cell 1;have r2:=jf.cell 2;have r3:=jf.cell 3;have f0:=jf.frozen 0;have f1:=jf.frozen 1;have f2:=jf.frozen 2;have f3:=jf.frozen 3;have Is:w.heap.size+2<w8.heap.size:=jf.lt;obtain⟨Kx,PQ,Ms,rfl,-⟩:=Ir.pieces.Φ;obtain⟨Ky,PR,Mt,rfl,-⟩:=Ir.aC.Φ;obtain⟨Kz,PS,Mu,rfl,-⟩:=Ir.aI.Φ;have Lc:=ψ pF;have RP:=ψ (Ϗ ve jf);clear pF Ir ve jf;have ahW:Bk w8 (w.heap.size+1+1) 26 #[ξ κ 0,ζ ν 0 0,ζ ν 0 0,ζ ν 0 0]:=RP.e.2;have Am:=((((ahW.set 0 (ξ κ b.ab)).set 1 (ζ Kx PQ Ms)).set 2 (ζ Ky PR Mt)).set 3 (ζ Kz PS Mu));have y0:=Am.cell 0;have y1:=Am.cell 1;have y2:=Am.cell 2;have y3:=Am.cell 3;go_wp2;have dw:Γ w.heap.size w w8:=(Ll.e.2.2.trans (RK.e.mono (è iA))).trans (Lc.e.mono (by have:=RK.e.size;omega))
   refine à (v:=μ #[η #[ξ κ b.ab,ζ Kx PQ Ms,ζ Ky PR Mt,ζ Kz PS Mu],ξ κ 0]) (by simp[results,Tryz.results53,go_sem,y0,y1,y2,y3]) rfl ?_
   rw[HR.e,HS.e];refine⟨_,_,_,_,_,_,_,_,_,rfl,λU hU=>?_,?_⟩
   ·have hq:(λk=>B<=k/\k<w.heap.size+3) (w.heap.size+2):=⟨by omega,by omega⟩
    exact RP.e.1.kept ((((hU.weaken (oz:=λk=>B<=k/\k<w.heap.size+3) λk hk=>⟨hk.1,by have:=hk.2;omega⟩).qT hq).qT hq).qT hq|>.qT hq)
   ·exact(((dw.setCell (by simp<;>omega) _).setCell (by simp<;>omega) _).setCell (by simp<;>omega) _).setCell (by simp<;>omega) _
  ·obtain⟨z,hz⟩:∃z,z=cZ (fH b x):=⟨_,rfl⟩
   have hr:BE b x=jG:=by unfold BE;rw[if_neg hs]
   have HR:=ψ hr;have HZ:=ψ hz;rw[<-hz] at hs VR;have aO:(z !=0)=θ:=by simpa using hs
   clear hr hz;go_wp2
   go_at_call 68
   refine VR.e.mono ?_
   rintro e w7 ⟨rfl,oH⟩;have jf:=Ll.e.2.1.below oH Ll.e.2.1.lt;have r0:=jf.cell 0;have r1:=jf.cell 1;have r2:=jf.cell 2;have r3:=jf.cell 3;have f0:=jf.frozen 0;have f1:=jf.frozen 1;have f2:=jf.frozen 2;have f3:=jf.frozen 3;have Is:w.heap.size+2<w7.heap.size:=jf.lt;have RK:=ψ oH;have ahW:Bk w7 (w.heap.size+1+1) 26 #[ξ κ 0,ζ ν 0 0,ζ ν 0 0,ζ ν 0 0]:=jf;have Am:=((((ahW.set 0 (ξ κ 0)).set 1 (ζ ν 0 0)).set 2 (ζ ν 0 0)).set 3 (ζ ν 0 0));have y0:=Am.cell 0;have y1:=Am.cell 1;have y2:=Am.cell 2;have y3:=Am.cell 3;clear jf ahW Am oH;go_wp2;have dw:Γ w.heap.size w w7:=Ll.e.2.2.trans (RK.e.mono (è iA));refine à (v:=μ #[η #[ξ κ 0,ζ ν 0 0,ζ ν 0 0,ζ ν 0 0],ξ κ z]) (by simp[results,Tryz.results53,go_sem,y0,y1,y2,y3]) rfl ?_
   rw[HR.e,<-HZ.e];refine Uz ?_
   exact(((dw.setCell (by simp<;>omega) _).setCell (by simp<;>omega) _).setCell (by simp<;>omega) _).setCell (by simp<;>omega) _
def aae{dZ:List bN}:iw dZ x=0↔nU x.name.data.toList=θ/\(dZ.map bN.name).any (λq=>kH q x.name)=χ/\cj x.aL 1 40=θ/\x.cM.length<=3/\mU x.aL (-1) x.cM=0:=by
 unfold iw;rw[List.any_map];constructor
 ·intro h
  split at h
  ·rename_i h1
   split at h
   ·cases h
   ·rename_i h2
    split at h
    ·rename_i h3
     split at h
     ·cases h
     ·rename_i h4
      exact⟨h1,by simpa using h2,h3,by omega,h⟩
    ·cases h
  ·cases h
 ·rintro⟨h1,h2,h3,h4,h5⟩
  rw[if_pos h1,if_neg (by simpa using h2),if_pos h3,if_neg (by omega)]
  exact h5
def PV:cZ b=0↔cj b.ab 0 3=θ/\jh b.pieces=0/\lB b.aC=0/\lJ b.pieces.length b.aI=0:=by
 unfold cZ kR;constructor
 ·intro h
  have h0:=Ys _ _ h;refine⟨?_,h0 _ (by simp),h0 _ (by simp),h0 _ (by simp)⟩
  have:=h0 (if cj b.ab 0 3=θ then 0 else 1) (by simp)
  split at this
  ·assumption
  ·cases this
 ·rintro⟨h1,h2,h3,h4⟩
  refine vP λj y hy=>?_
  have hm:= Ϩ hy;simp only[Ϧ,List.not_mem_nil,or_false] at hm;rcases hm with rfl|rfl|rfl|rfl
  ·rw[if_pos h1]
  ·exact h2
  ·exact h3
  ·exact h4
def akG(l:List α)(j:Nat):l.eraseIdx j=l.take j++l.drop (j+1):=List.eraseIdx_eq_take_drop_succ l j
end Go.Tw
namespace Go.Tw
variable [Go.Tw.aK]
open Go Go.Proofs Go.RowKit
section
variable {α:Type}{w:Ψ}{B sz:Nat}{R:α->List υ->Prop}{xs:List α}
def asX{A:Option Addr}(h:Row w B sz R (ζ A n c) xs)(hj:j<=n):Row w B sz R (ζ A j c) (xs.take j):=by
 obtain⟨A',c',e,h1,h2,h3⟩:=h;injection e with e1 e2 e3
 subst e1 e2 e3;have el:(xs.take j).length=j:=by rw[Ć];omega
 refine⟨A,c,by rw[el],by omega,h2,λhx=>?_⟩
 obtain⟨ad,ha,hb,hc⟩:=h3 (by intro h;rw[h] at hx;simp at hx)
 refine⟨ad,ha,hb,λi x hi=>?_⟩
 rw[ĕ] at hi
 split at hi
 ·exact hc i x hi
 ·cases hi
def asR{ad:Addr}(h:Row w B sz R (ζ (φ ad) n c) xs)(hj:j<=n):Row w B sz R (ζ (φ (ad.add (j * sz))) (n - j) (c - j)) (xs.drop j):=by
 obtain⟨A',c',e,h1,h2,h3⟩:=h;injection e with e1 e2 e3
 subst e1 e2 e3;refine⟨φ (ad.add (j * sz)),c - j,by rw[Ű],by rw[Ű];omega,by omega,λhx=>?_⟩
 obtain⟨DE,ha,hb,hc⟩:=h3 (by intro h;rw[h] at hx;simp at hx)
 injection ha with ha
 subst ha;refine⟨_,rfl,by rw[b9];exact hb,λi x hi=>?_⟩
 rw[List.getElem?_drop] at hi
 obtain⟨cs,r,hl,aq⟩:=hc (j+i) x hi;refine⟨cs,r,hl,λk u hu=>?_⟩
 have:=aq k u hu;rw[Sx,show j * sz+(i * sz+k)=(j+i) * sz+k by rw[Nat.add_mul];omega]
 exact this
def asV{A:Option Addr}(hx:xs=[]):Row w B sz R (ζ A 0 0) xs:=by
 subst hx;exact⟨A,0,rfl,ϊ _,Ϡ _,λh=>(h rfl).elim⟩
end
def aap{base:Nat}{sz:Nat}(h:w.ownsRow base e sz (ζ (φ ⟨g,0,ν⟩) m c) n xs)(i:Nat): w.frozen? ⟨g,i,ν⟩=χ:=by
 rcases h.2 with⟨h0,_⟩ | ⟨g',ze,cur,h1,_,h3,_⟩
 ·cases h0
 ·injection h1 with h1;injection h1 with h1;injection h1 with h1;subst h1
  rw[Go.Sim.zp (a:=⟨g,i,ν⟩) h3];rfl
end Go.Tw
namespace Go.Tw
variable [Go.Tw.aK]
open Go Go.Proofs Go.RowKit
def ee(b:eR)(i:Nat):eR:={b with aC:=b.aC.eraseIdx i}
def LU{f:α->List υ}{l:List α}(h:u∈(l.take i).flatMap f):u∈l.flatMap f:=by
 obtain⟨x,hx,hu⟩:=ĺ.1 h;exact ĺ.2 ⟨x,Ajp hx,hu⟩
def Gv{f:α->List υ}{l:List α}(h:u∈(l.drop i).flatMap f):u∈l.flatMap f:=by
 obtain⟨x,hx,hu⟩:=ĺ.1 h;exact ĺ.2 ⟨x,Ajq hx,hu⟩
def LV{α:Type}{f:α->List υ}(hf:∀x,(f x).length=3):∀l:List α,(l.flatMap f).length=l.length * 3
 | []=>rfl
 |a::l=>by rw[Ġ,Ĉ,hf,LV hf l,Ă];omega
def z7{base sz:Nat}{t:ό}(hg:g=W.heap.size)(hb:base<=g):(W.alloc (Ξ #[] t)).ownsRow base t sz (ζ (φ ⟨g,0,ν⟩) 0 0) 0 []:=by
 subst hg;exact⟨by simp,.inr ⟨W.heap.size,0,#[],rfl,hb,heap_alloc_new W _,ϊ _,by unfold ϑ;omega,by simp,by simp⟩⟩
def PM{bs:List (bN×υ)}(hB:B<=w.heap.size)(ah:aQ w B b pv bv tv)(mO:∀p∈bs,p.1.name.size<=ϑ/\Row w B 2 Span.R p.2 p.1.cM)(fC:bs.map Ď=b.aC)
 (h7:W.ownsRow (w.heap.size+3) 59 3 v7 n ((bs.take i).flatMap fc++(bs.drop (i+1)).flatMap fc))(hb:Γ w.heap.size w W){x0 x1 x2 x3:υ}:
 let V:=(((W.setCell ⟨w.heap.size+1,0,ν⟩ x0).setCell ⟨w.heap.size+1,1,ν⟩ x1).setCell ⟨w.heap.size+1,2,ν⟩ x2).setCell ⟨w.heap.size+1,3,ν⟩ x3
 (∃lT nh,jJ V (λk=>B<=k/\k<w.heap.size+3) (ee b i) pv v7 tv lT nh)/\Γ w.heap.size w V:=by
 intro V;have rN:Γ w.heap.size w V:=(((hb.setCell (by simp) _).setCell (by simp) _).setCell (by simp) _).setCell (by simp) _
 have en:n=(bs.take i++bs.drop (i+1)).length:=by
  have h:=h7.1;rw[<-ă,LV (λ_=>rfl)] at h
  omega
 have o7:V.ownsRow (w.heap.size+3) 59 3 v7 (bs.take i++bs.drop (i+1)).length ((bs.take i++bs.drop (i+1)).flatMap fc):=by
  rw[<-en,ă];exact gN (gN (gN (gN h7 (by simp)) (by simp)) (by simp)) (by simp)
 have hN:∀k,B<=k/\k<w.heap.size+3->(λk=>B<=k) k\/w.heap.size<=k:=λk hk=>.inl hk.1
 obtain⟨Lw,ts,hn⟩:=ah.pU (No:=λk=>B<=k) hB (λk hk=>hk)
 refine⟨⟨bs.take i++bs.drop (i+1),ts,hn.p.below rN hN,cV.tt o7 (λ_=>rfl) (λp hm=>rfl) (λk hk=>hk.2),hn.t.below rN hN,?_,hn.oh,λp hm=>?_,λp hm=>(hn.tp p hm).below rN hN⟩,rN⟩
 ·show _=b.aC.eraseIdx i
  rw[akG,<-fC,List.map_append,List.map_take,List.map_drop]
 ·have hm:p∈bs:=by
   rcases ĉ.1 hm with hm|hm
   ·exact Ajp hm
   ·exact Ajq hm
  exact⟨(mO p hm).1,((mO p hm).2.pU (No:=λk=>B<=k) hB (λk hk=>hk)).below rN hN⟩
def afN(hB:B<=w.heap.size)(ah:aQ w B b pv bv tv)(hi:i<b.aC.length)(ET:b.aC.length<=1000):
 ύ prog 81 #[η #[ξ κ b.ab,pv,bv,tv],ξ κ i] w λe w'=>∃gH,e=Ω (η #[ξ κ b.ab,pv,gH,tv])/\(∃lT nh,jJ w' (λk=>B<=k/\k<w.heap.size+3) (ee b i) pv gH tv lT nh)/\Γ w.heap.size w w':=by
 obtain⟨ts,eK,kB⟩:=CY (R':=λ(p:bN×υ) cs=>cs=fc p/\p.1.name.size<=ϑ/\Row w B 2 Span.R p.2 p.1.cM) ah.aC (λx cs ⟨kv,h1,h2,h3⟩=>⟨kv,h1,h2,h3⟩)
 have iF:∀p∈ts,p.1.name.size<=ϑ/\Row w B 2 Span.R p.2 p.1.cM:=λp hp=>by obtain⟨cs,h1,h2⟩:=kB.mem p hp;exact h2
 have nR:ts.length=b.aC.length:=by rw[<-eK,ü]
 have Ws:Row w B 3 (λ(p:bN×υ) cs=>cs=fc p) bv ts:=kB.still (Δ.refl w) λp cs h=>h.1
 have Bj:=ψ Ws;have La:=ψ (aaM iF);have HM:=ψ (Ϗ iF eK);have bD:=ψ ah;obtain⟨A1,n1,c1,rfl,-⟩:=ah.pieces.Φ;obtain⟨A2,n2,c2,rfl,e2,eu,aby,kY⟩:=ah.aC.Φ;obtain⟨A3,n3,c3,rfl,-⟩:=ah.aI.Φ;obtain⟨i9,xD,Fq,Cs,jR⟩:=Ą WR;have fJ:=ψ (Ϗ xD (Ϗ Fq (Ϗ Cs jR)));rw[e2] at hi ET nR;obtain⟨a2,-,-,rfl,En,-⟩:=kY i hi;have EK:=ψ nR;obtain⟨W0,bY⟩:∃W0,W0=(((w.alloc (Ξ #[ξ κ b.ab,ζ A1 n1 c1,ζ (φ a2) n2 c2,ζ A3 n3 c3] 26)).alloc (Ξ #[ξ κ 0,ζ ν 0 0,ζ ν 0 0,ζ ν 0 0] 26)).alloc (Ξ #[ξ κ b.ab,ζ A1 n1 c1,ζ (φ a2) n2 c2,ζ A3 n3 c3] 26)):=⟨_,rfl⟩
 have Z0:W0.heap.size=w.heap.size+3:=by rw[bY];simp
 have BW:Hid (Γ w.heap.size w W0):=ψ (by rw[bY];exact(((ώ _ _).alloc (ϊ _) _).alloc (by simp) _).alloc (by simp;omega) _)
 have KA:Hid (Bk W0 w.heap.size 26 #[ξ κ b.ab,ζ A1 n1 c1,ζ (φ a2) n2 c2,ζ A3 n3 c3]):=ψ (by rw[bY];exact((Bk.new _ _ _).alloc _).alloc _)
 have KR:Hid (Bk W0 (w.heap.size+1) 26 #[ξ κ 0,ζ ν 0 0,ζ ν 0 0,ζ ν 0 0]):=ψ (by rw[bY];exact(Bk.bZ (by simp) _ _).alloc _)
 have KO:Hid (Bk W0 (w.heap.size+2) 26 #[ξ κ b.ab,ζ A1 n1 c1,ζ (φ a2) n2 c2,ζ A3 n3 c3]):=ψ (by rw[bY];exact Bk.bZ (by simp) _ _)
 have PL:Hid (∀U,Γ (w.heap.size+3) W0 U-> U.cell? ⟨w.heap.size,2,ν⟩=φ (ζ (φ a2) n2 c2)):=ψ λU hU=>(KA.e.below hU (by omega)).cell 2
 have Gu:Hid (∀U,Γ (w.heap.size+3) W0 U->Row U B 3 (λ(p:bN×υ) cs=>cs=fc p) (ζ (φ a2) n2 c2) ts):=ψ λU hU=>Bj.e.still (Δ.aJ (BW.e.trans (hU.mono (by omega))) hB) λ_ _ h=>h
 have k3: W0.cell? ⟨w.heap.size,2,ν⟩=φ (ζ (φ a2) n2 c2):=KA.e.cell 2;unfold ϑ at aby;have a1:(0:Int)<=(i:Int):=by omega
 have LY:(i:Int)<=(n2:Int):=by omega
 have a3:(i:Int)<=(c2:Int):=by omega
 have a4:(0:Int)<=(i:Int)+1:=by omega
 have a5:(i:Int)+1<=(n2:Int):=by omega
 have a6:(n2:Int)<=(c2:Int):=by omega
 have a7:ϙ.wrap ((i:Int)+1)=(i:Int)+1:=by rw[Aiw];exact Aix _ (by omega)
 have a8:(i:Int)+1<=(c2:Int):=by omega
 have a9:((i:Int)+1).toNat=i+1:=by omega
 clear ah iF eK nR kB Ws xD Fq Cs jR kY e2;by_cases G3:c2=i+1
 ·subst G3
  obtain rfl:n2=i+1:=by omega
  have a0:(i:Int)<=(i:Int)+1:=by omega
  go_enter func81,Tryz.ntmps81;go_wp2;rw[<-bY];clear bY;refine Sg (S:=(λU=> U.cell? ⟨w.heap.size,2,ν⟩=φ (ζ (φ a2) (i+1) (i+1)))) 14 rfl (by kernel_rfl) ?_ (λef=>?_)
  ·exact PL.e _ (dT (ώ _ _))
  refine Wf [1,2,3,4,6,7,8,9,10] [10,9,8,7,6,4,3,2,1] 5 rfl (by kernel_rfl) rfl ef ?_
  iterate 9
   apply vx 7 rfl (by kernel_rfl) (by kernel_rfl)
   ·intro W hW
    go_simp;all_goals with_reducible rfl
   simp only[É,Ö,Ø,Ì]
  apply po;refine zV 0 rfl (by kernel_rfl) (by kernel_rfl) (λK Q hK=>?_)
  go_simp;refine hK.out _ _ ?_ (λdi=>?_)
  ·exact PL.e _ (dT ((ώ _ _).alloc (by omega) _))
  clear hK K Q ef
  try simp only[É,Ö,Ø,Ì]
  refine aa6 5 rfl (by kernel_rfl) (λK Q hK=>?_)
  refine apq rfl (.tmp 7) (.tmp 11) 23 rfl W0.heap.size 59 i9 (η #[.string {data:=#[]},ξ κ 0,ζ ν 0 0]) 3 48 (U Tryz.underlying23) fJ.e.1 fJ.e.2.1 fJ.e.2.2.1 fJ.e.2.2.2 rfl (by decide) _ 0 [] (by exact rfl) (CR (z7 (W:=W0) (g:=w.heap.size+3) (base:=W0.heap.size) (t:=59) (sz:=3) Z0.symm (by omega)) 1) (f:=fc) (B:=B) (ζ (φ a2) i (i+1)) (ts.take i) (by exact rfl) (asX (Gu.e _ (dT ((ώ _ _).alloc (by omega) _))) (by omega)) (λ_=>rfl) (λu hu=>La.e u (LU hu)) ?c3 ?c4 ?c5 ?_
  case c3=>(have:=EK.e;simp only[ϑ,Ć];omega)
  case c4=>(have:=EK.e;simp only[Ć];omega)
  case c5=>(simp;try omega)
  intro v' w1 b7 cW;have H1:Hid (Γ W0.heap.size W0 w1):=ψ ((dT ((ώ _ _).alloc (ϊ _) _)).grown cW (by simp) (λk hk=>dX (z7 (W:=W0) (g:=w.heap.size+3) (t:=59) (sz:=3) (base:=W0.heap.size) Z0.symm (by omega)) k hk))
  have wG:=ψ b7;have aO:W0.heap.size<=w1.heap.size:=H1.e.size;obtain⟨U2,n96,Z9,rfl⟩:=ld b7;clear b7 cW;refine hK.out _ _ ?_ (λdN=>?_)
  ·exact PL.e _ (H1.e.mono (by omega))
  clear hK K Q di
  try simp only[É,Ö,Ø,Ì]
  refine aa6 11 rfl (by kernel_rfl) (λK Q hK=>?_)
  refine apq rfl (.tmp 12) (.tmp 17) 23 rfl W0.heap.size 59 i9 (η #[.string {data:=#[]},ξ κ 0,ζ ν 0 0]) 3 48 (U Tryz.underlying23) fJ.e.1 fJ.e.2.1 fJ.e.2.2.1 fJ.e.2.2.2 rfl (by decide) _ _ _ (by exact rfl) wG.e (f:=fc) (B:=B) (ζ (φ a2) 0 0) (ts.drop (i+1)) (by exact rfl) (asV (ů (ú EK.e))) (λ_=>rfl) (λu hu=>La.e u (Gv hu)) ?d3 ?d4 ?d5 ?_
  case d3=>(have:=EK.e;simp only[ϑ,Ć,Ű];omega)
  case d4=>(have:=EK.e;simp only[Ć,Ű];omega)
  case d5=>exact aO
  intro v' w2 gv xA;have H2:Hid (Γ W0.heap.size W0 w2):=ψ (H1.e.grown xA aO (λk hk=>dX wG.e k hk))
  have FT:=ψ gv;have qe:=KO.e.below H2.e (by omega)
  have u2:=qe.cell 2;have f2:=qe.frozen 2;have oK:w.heap.size+1+1<w2.heap.size:=by have:=H2.e.size;omega
  have DM:=ψ qe;obtain⟨jP,n18,jT,rfl⟩:=ld gv;clear gv xA qe;refine hK.out _ _ ?_ (λiE=>?_)
  ·exact PL.e _ (H2.e.mono (by omega))
  clear hK K Q dN
  try simp only[É,Ö,Ø,Ì]
  refine Wf [12] [12,11,5,0,10,9,8,7,6,4,3,2,1] 1 rfl (by kernel_rfl) rfl iE ?_
  apply vx 7 rfl (by kernel_rfl) (by kernel_rfl)
  ·intro W hW
   go_simp;all_goals with_reducible rfl
  simp only[É,Ö,Ø,Ì];apply po;refine zV 13 rfl (by kernel_rfl) (by kernel_rfl) (λK Q hK=>?_)
  go_simp;refine hK.out _ _ ?_ (λvz=>?_)
  ·exact(Ů _ _ _ _ (by simp;omega)).trans (PL.e _ (H2.e.mono (by omega)))
  clear hK K Q iE
  try simp only[É,Ö,Ø,Ì]
  refine GX (by kernel_rfl) ?_
  obtain⟨V,hV⟩:∃V,V=w2.setCell ⟨w.heap.size+1+1,2,ν⟩ (ζ jP n18 jT):=⟨_,rfl⟩
  rw[<-hV];have vY:Hid (Γ (w.heap.size+2) W0 V):=ψ (by rw[hV];exact(H2.e.mono (by omega)).setCell (by simp) _)
  have KV:Hid (Bk V (w.heap.size+2) 26 #[ξ κ b.ab,ζ A1 n1 c1,ζ jP n18 jT,ζ A3 n3 c3]):=ψ (by
   rw[hV];have hz:=DM.e.set 2 (ζ jP n18 jT);simpa using hz)
  have xk:=gN (p:=⟨w.heap.size+1+1,2,ν⟩) (u:=ζ jP n18 jT) FT.e (by simp;omega)
  rw[<-hV] at xk;clear hV u2 f2 oK;have px:=KR.e.below vY.e (by omega)
  have q0:=KV.e.cell 0;have q1:=KV.e.cell 1;have q2:=KV.e.cell 2;have q3:=KV.e.cell 3;have lO:w.heap.size+1+1<V.heap.size:=KV.e.lt;have lR:w.heap.size+1<V.heap.size:=px.lt;have p0:=px.cell 0;have p1:=px.cell 1;have p2:=px.cell 2;have p3:=px.cell 3;have f0:=px.frozen 0;have f1:=px.frozen 1;have f2:=px.frozen 2;have f3:=px.frozen 3;have mf:=((((px.set 0 (ξ κ b.ab)).set 1 (ζ A1 n1 c1)).set 2 (ζ jP n18 jT)).set 3 (ζ A3 n3 c3));have z0:=mf.cell 0;have z1:=mf.cell 1;have z2:=mf.cell 2;have z3:=mf.cell 3;clear mf px;go_wp2;refine à (v:=η #[ξ κ b.ab,ζ A1 n1 c1,ζ jP n18 jT,ζ A3 n3 c3]) (by simp[results,Tryz.results81,go_sem,z0,z1,z2,z3]) rfl ⟨_,rfl,?_⟩
  exact PM hB bD.e HM.e.1 HM.e.2 (i:=i) (by have h:=xk.base (fB:=w.heap.size+3) (by omega);simpa [ă] using h) (BW.e.trans (vY.e.mono (by omega)))
 ·go_enter func81,Tryz.ntmps81
  go_wp2;rw[<-bY];clear bY;refine Sg (S:=(λU=> U.cell? ⟨w.heap.size,2,ν⟩=φ (ζ (φ a2) n2 c2))) 14 rfl (by kernel_rfl) ?_ (λef=>?_)
  ·exact PL.e _ (dT (ώ _ _))
  refine Wf [1,2,3,4,6,7,8,9,10] [10,9,8,7,6,4,3,2,1] 5 rfl (by kernel_rfl) rfl ef ?_
  iterate 9
   apply vx 7 rfl (by kernel_rfl) (by kernel_rfl)
   ·intro W hW
    go_simp;all_goals with_reducible rfl
   simp only[É,Ö,Ø,Ì]
  apply po;refine zV 0 rfl (by kernel_rfl) (by kernel_rfl) (λK Q hK=>?_)
  go_simp;refine hK.out _ _ ?_ (λdi=>?_)
  ·exact PL.e _ (dT ((ώ _ _).alloc (by omega) _))
  clear hK K Q ef
  try simp only[É,Ö,Ø,Ì]
  refine aa6 5 rfl (by kernel_rfl) (λK Q hK=>?_)
  refine apq rfl (.tmp 7) (.tmp 11) 23 rfl W0.heap.size 59 i9 (η #[.string {data:=#[]},ξ κ 0,ζ ν 0 0]) 3 48 (U Tryz.underlying23) fJ.e.1 fJ.e.2.1 fJ.e.2.2.1 fJ.e.2.2.2 rfl (by decide) _ 0 [] (by exact rfl) (CR (z7 (W:=W0) (g:=w.heap.size+3) (base:=W0.heap.size) (t:=59) (sz:=3) Z0.symm (by omega)) 1) (f:=fc) (B:=B) (ζ (φ a2) i c2) (ts.take i) (by exact rfl) (asX (Gu.e _ (dT ((ώ _ _).alloc (by omega) _))) (by omega)) (λ_=>rfl) (λu hu=>La.e u (LU hu)) ?c3 ?c4 ?c5 ?_
  case c3=>(have:=EK.e;simp only[ϑ,Ć];omega)
  case c4=>(have:=EK.e;simp only[Ć];omega)
  case c5=>(simp;try omega)
  intro v' w1 b7 cW;have H1:Hid (Γ W0.heap.size W0 w1):=ψ ((dT ((ώ _ _).alloc (ϊ _) _)).grown cW (by simp) (λk hk=>dX (z7 (W:=W0) (g:=w.heap.size+3) (t:=59) (sz:=3) (base:=W0.heap.size) Z0.symm (by omega)) k hk))
  have wG:=ψ b7;have aO:W0.heap.size<=w1.heap.size:=H1.e.size;obtain⟨U2,n96,Z9,rfl⟩:=ld b7;clear b7 cW;refine hK.out _ _ ?_ (λdN=>?_)
  ·exact PL.e _ (H1.e.mono (by omega))
  clear hK K Q di
  try simp only[É,Ö,Ø,Ì]
  refine aa6 11 rfl (by kernel_rfl) (λK Q hK=>?_)
  refine apq rfl (.tmp 12) (.tmp 17) 23 rfl W0.heap.size 59 i9 (η #[.string {data:=#[]},ξ κ 0,ζ ν 0 0]) 3 48 (U Tryz.underlying23) fJ.e.1 fJ.e.2.1 fJ.e.2.2.1 fJ.e.2.2.2 rfl (by decide) _ _ _ (by exact rfl) wG.e (f:=fc) (B:=B) (ζ (φ (a2.add ((i+1) * 3))) (n2 - (i+1)) (c2 - (i+1))) (ts.drop (i+1)) (by exact rfl) (asR (Gu.e _ (H1.e.mono (by omega))) (by omega)) (λ_=>rfl) (λu hu=>La.e u (Gv hu)) ?d3 ?d4 ?d5 ?_
  case d3=>(have:=EK.e;simp only[ϑ,Ć,Ű];omega)
  case d4=>(have:=EK.e;simp only[Ć,Ű];omega)
  case d5=>exact aO
  intro v' w2 gv xA;have H2:Hid (Γ W0.heap.size W0 w2):=ψ (H1.e.grown xA aO (λk hk=>dX wG.e k hk))
  have FT:=ψ gv;have qe:=KO.e.below H2.e (by omega)
  have u2:=qe.cell 2;have f2:=qe.frozen 2;have oK:w.heap.size+1+1<w2.heap.size:=by have:=H2.e.size;omega
  have DM:=ψ qe;obtain⟨jP,n18,jT,rfl⟩:=ld gv;clear gv xA qe;refine hK.out _ _ ?_ (λiE=>?_)
  ·exact PL.e _ (H2.e.mono (by omega))
  clear hK K Q dN
  try simp only[É,Ö,Ø,Ì]
  refine Wf [12] [12,11,5,0,10,9,8,7,6,4,3,2,1] 1 rfl (by kernel_rfl) rfl iE ?_
  apply vx 7 rfl (by kernel_rfl) (by kernel_rfl)
  ·intro W hW
   go_simp;all_goals with_reducible rfl
  simp only[É,Ö,Ø,Ì];apply po;refine zV 13 rfl (by kernel_rfl) (by kernel_rfl) (λK Q hK=>?_)
  go_simp;refine hK.out _ _ ?_ (λvz=>?_)
  ·exact(Ů _ _ _ _ (by simp;omega)).trans (PL.e _ (H2.e.mono (by omega)))
  clear hK K Q iE
  try simp only[É,Ö,Ø,Ì]
  refine GX (by kernel_rfl) ?_
  obtain⟨V,hV⟩:∃V,V=w2.setCell ⟨w.heap.size+1+1,2,ν⟩ (ζ jP n18 jT):=⟨_,rfl⟩
  rw[<-hV];have vY:Hid (Γ (w.heap.size+2) W0 V):=ψ (by rw[hV];exact(H2.e.mono (by omega)).setCell (by simp) _)
  have KV:Hid (Bk V (w.heap.size+2) 26 #[ξ κ b.ab,ζ A1 n1 c1,ζ jP n18 jT,ζ A3 n3 c3]):=ψ (by
   rw[hV];have hz:=DM.e.set 2 (ζ jP n18 jT);simpa using hz)
  have xk:=gN (p:=⟨w.heap.size+1+1,2,ν⟩) (u:=ζ jP n18 jT) FT.e (by simp;omega)
  rw[<-hV] at xk;clear hV u2 f2 oK;have px:=KR.e.below vY.e (by omega)
  have q0:=KV.e.cell 0;have q1:=KV.e.cell 1;have q2:=KV.e.cell 2;have q3:=KV.e.cell 3;have lO:w.heap.size+1+1<V.heap.size:=KV.e.lt;have lR:w.heap.size+1<V.heap.size:=px.lt;have p0:=px.cell 0;have p1:=px.cell 1;have p2:=px.cell 2;have p3:=px.cell 3;have f0:=px.frozen 0;have f1:=px.frozen 1;have f2:=px.frozen 2;have f3:=px.frozen 3;have mf:=((((px.set 0 (ξ κ b.ab)).set 1 (ζ A1 n1 c1)).set 2 (ζ jP n18 jT)).set 3 (ζ A3 n3 c3));have z0:=mf.cell 0;have z1:=mf.cell 1;have z2:=mf.cell 2;have z3:=mf.cell 3;clear mf px;go_wp2;refine à (v:=η #[ξ κ b.ab,ζ A1 n1 c1,ζ jP n18 jT,ζ A3 n3 c3]) (by simp[results,Tryz.results81,go_sem,z0,z1,z2,z3]) rfl ⟨_,rfl,?_⟩
  exact PM hB bD.e HM.e.1 HM.e.2 (i:=i) (by have h:=xk.base (fB:=w.heap.size+3) (by omega);simpa [ă] using h) (BW.e.trans (vY.e.mono (by omega)))
def RA{α:Type}:∀ {l:List α} {k:Nat} {v:α} (_:k<l.length),l.set k v=l.take k++v::l.drop (k+1)
 |a::l,0,v,_=>rfl
 |a::l,k+1,v,h=>by
  have ih:=RA (l:=l) (k:=k) (v:=v) (by simpa using h)
  show a::l.set k v=a::(l.take k++v::l.drop (k+1));rw[ih]
def Jg{base:Nat}{e:ό}{sz g cap n:Nat}:∀(vs:List υ) (k:Nat) {w:Ψ} {xs:List υ},w.ownsRow base e sz (ζ (φ ⟨g,0,ν⟩) n cap) n xs->k+vs.length<=n * sz->(w.setCells g k vs).ownsRow base e sz (ζ (φ ⟨g,0,ν⟩) n cap) n (xs.take k++vs++xs.drop (k+vs.length))
 | [],k,w,xs,h,_=>by
   have e:xs.take k++ []++xs.drop (k+([]:List υ).length)=xs:=by simp
   rw[e];exact h
 |v::vs,k,w,xs,h,hk=>by
  rw[Ă] at hk;have hl:k<xs.length:=by rw[h.1];omega
  have h1:=yu (k:=k) (u:=v) h (by omega)
  have h2:=Jg vs (k+1) h1 (by omega)
  have e:(xs.set k v).take (k+1)++vs++(xs.set k v).drop (k+1+vs.length)=xs.take k++v::vs++xs.drop (k+(v::vs).length):=by
   rw[RA hl];have ht:(xs.take k).length=k:=by rw[Ć];omega
   have hd:(xs.take k).drop (k+1+vs.length)=[]:=ů (by omega)
   rw[List.take_append,List.drop_append,hd,ht,Ċ (by omega),show k+1 - k=1 by omega,show k+1+vs.length - k=vs.length+1 by omega,ê,ë,ñ,List.drop_drop,Ă]
   simp;congr 1;omega
  rw[e] at h2;exact h2
def Jm(g:Nat):∀(vs:List υ) (k:Nat) (w:Ψ),(∀j,j≠g->(w.setCells g k vs).heap[j]?=w.heap[j]?)/\(w.setCells g k vs).heap.size=w.heap.size/\(w.setCells g k vs).os=w.os/\(w.setCells g k vs).tape=w.tape/\(w.setCells g k vs).output=w.output
 | [],_,w=>⟨λ_ _=>rfl,rfl,rfl,rfl,rfl⟩
 |v::vs,k,w=>by
  obtain⟨h1,h2,h3,h4,h5⟩:=Jm g vs (k+1) (w.setCell ⟨g,k,ν⟩ v);exact⟨λj hj=>(h1 j hj).trans (Ô _ _ _ _ hj),h2.trans (by simp),h3,h4,h5⟩
def aiS{P:Program}(w:Ψ)(t e ty:ό)(z:υ)(cs:List υ)(ht:P.underlying t=φ (.slice e))(hv:∀w,(zeroValue e).run P w=.ok z w)(hz:(Builtin.zeroCells z.cells 1).toList=cs)(h1:∀v∈cs,v.oneCell'=θ)(b o c:Nat)
 (hc:∀j,j<cs.length->(w.cell? ⟨b,o+j,ν⟩).isSome=θ)(hf:∀j,j<cs.length-> w.frozen? ⟨b,o+j,ν⟩=χ):
 (Builtin.clear_ #[t] ty #[ζ (φ ⟨b,o,ν⟩) 1 c]).run P w=.ok (μ #[]) (w.setCells b o cs):=by
 have eW:=run_storeCells_cells (P:=P) b o cs 0 w (by simpa using hc) (by simpa using hf) h1
 simp only[Nat.add_zero] at eW;simp[Builtin.clear_,Aiu ht,hv,hz,eW]
def yS(l:List (bN×υ)):(l.flatMap fc).length=l.length * 3:=uT (f:=fc) (λ_=>rfl) l
def z59:List υ:=[.string {data:=#[]},ξ κ 0,ζ ν 0 0]
def akE(w:Ψ):(zeroValue 59).run prog w=.ok (η #[.string {data:=#[]},ξ κ 0,ζ ν 0 0]) w:=by
 rw[QS];exact Tryz.zeroValue59 w
def aan{ts:List (bN×υ)}{base:Nat}(ho:w.ownsRow base 59 3 (ζ (φ ⟨g,0,ν⟩) n cap) ts.length (ts.flatMap fc))(Cm:∀u∈ts.flatMap fc,u.oneCell'=θ)(hi:i<n):
 ύ prog 153 #[ζ (φ ⟨g,0,ν⟩) n cap,ξ κ i,ξ κ (i+1)] w λe w'=>e=Ω (ζ (φ ⟨g,0,ν⟩) (n - 1) cap)/\w'.ownsRow base 59 3 (ζ (φ ⟨g,0,ν⟩) (n - 1) cap) (ts.eraseIdx i).length ((ts.eraseIdx i).flatMap fc)/\w'.heap.size=w.heap.size/\(∀k,k≠g->w'.heap[k]?=w.heap[k]?)/\w'.os=w.os/\w'.tape=w.tape/\w'.output=w.output:=by
 have hn:ts.length=n:=(yq ho).symm;obtain⟨NS,alr⟩:=XU ho;have HO:=ψ ho;obtain⟨i9,xD,Fq,Cs,jR⟩:=Ą WR;have fJ:=ψ (Ϗ xD (Ϗ Fq (Ϗ Cs jR)));rw[hn] at ho;have sT:(ts.flatMap fc).length=n * 3:=by rw[yS,hn]
 obtain⟨news,IP⟩:∃news,news=(ts.drop (i+1)).flatMap fc:=⟨_,rfl⟩
 have NL:Hid (news.length=(n - (i+1)) * 3):=ψ (by rw[IP,yS,Ű,hn])
 have Iy:∀j u,(ts.flatMap fc)[j]?=φ u-> w.cell? ⟨g,j,ν⟩=φ u:=λj u hu=>by
  have:=vK ho j u hu;rwa[kP] at this
 have OB:∀j u,news[j]?=φ u->(ts.flatMap fc)[(i+1) * 3+j]?=φ u:=λj u hu=>by
  have e:ts.flatMap fc=(ts.take (i+1)).flatMap fc++(ts.drop (i+1)).flatMap fc:=by rw[<-ă,Ajt]
  have hl:((ts.take (i+1)).flatMap fc).length=(i+1) * 3:=by rw[yS,Ć];omega
  rw[e,Ū (by omega),hl,show(i+1) * 3+j - (i+1) * 3=j by omega,<-IP]
  exact hu
 have La:Hid (∀u∈news,u.oneCell'=θ):=ψ λu hu=>Cm u (Gv (by rw[<-IP];exact hu))
 have KZ:Hid (∀j,j<news.length->(w.drew.cell? ⟨g,0+i * 3+j,ν⟩).isSome=θ/\ w.drew.frozen? ⟨g,0+i * 3+j,ν⟩=χ):=ψ λj hj=>by
  have ao:0+i * 3+j<(ts.flatMap fc).length:=by have:=NL.e;omega
  refine⟨?_,aap ho _⟩
  show(w.cell? _).isSome=θ;rw[Iy _ _ (Ã ao)]
  rfl
 obtain⟨W1,eS⟩:∃W1,W1=w.drew.setCells g (0+i * 3) news:=⟨_,rfl⟩
 have KT:=ψ eS;have rY:W1.ownsRow base 59 3 (ζ (φ ⟨g,0,ν⟩) n cap) n ((ts.flatMap fc).take (0+i * 3)++news++(ts.flatMap fc).drop (0+i * 3+news.length)):=by
  rw[eS];exact Jg (w:=w.drew) news (0+i * 3) ho (by have:=NL.e;omega)
 have gJ:∀ty,(Builtin.clear_ #[23] ty #[ζ (φ ⟨g,(n - 1) * 3,ν⟩) 1 (cap - (n - 1))]).run prog W1=.ok (μ #[]) (W1.setCells g ((n - 1) * 3) z59):=λty=>
  aiS W1 23 59 ty (η #[.string {data:=#[]},ξ κ 0,ζ ν 0 0]) z59 (U Tryz.underlying23) akE (by kernel_rfl) (by simp[z59,Value.oneCell']) g ((n - 1) * 3) (cap - (n - 1)) (λj hj=>by
   have hl:=rY.1;have hj:j<3:=hj;have:=vK rY ((n - 1) * 3+j) _ (Ã (by omega))
   rw[kP] at this;rw[this];rfl) (λj hj=>aap rY _)
 obtain⟨W2,ia⟩:∃W2,W2=W1.setCells g ((n - 1) * 3) z59:=⟨_,rfl⟩
 have kY:W2.ownsRow base 59 3 (ζ (φ ⟨g,0,ν⟩) (n - 1) cap) (ts.eraseIdx i).length ((ts.eraseIdx i).flatMap fc):=by
  have h:=Jg (w:=W1) z59 ((n - 1) * 3) rY (by show _+3<=_;omega)
  rw[<-ia] at h;have h2:=amX h (m:=n - 1) (by omega)
  have zZ:=rY.1;have e1:(ts.eraseIdx i).length=n - 1:=by rw[Aju (by omega)];omega
  have e2:(ts.eraseIdx i).flatMap fc=(ts.flatMap fc).take (i * 3)++news:=by
   rw[akG,ă,IP];congr 1;have e:ts.flatMap fc=(ts.take i).flatMap fc++(ts.drop i).flatMap fc:=by rw[<-ă,Ajt]
   have h1:((ts.take i).flatMap fc).length=i * 3:=by rw[yS,Ć];omega
   rw[e,List.take_left' h1]
  rw[e1,e2];have e3:((((ts.flatMap fc).take (0+i * 3)++news++(ts.flatMap fc).drop (0+i * 3+news.length)).take ((n - 1) * 3)++z59++(((ts.flatMap fc).take (0+i * 3)++news++(ts.flatMap fc).drop (0+i * 3+news.length)).drop ((n - 1) * 3+z59.length))).take ((n - 1) * 3))=(ts.flatMap fc).take (i * 3)++news:=by
   have Ck:=NL.e;have ha:((ts.flatMap fc).take (0+i * 3)++news).length=(n - 1) * 3:=by rw[Ĉ,Ć];omega
   rw[Aje _ _ (List.drop _ _),Ajf (by rw[Ć,zZ];omega),List.take_take,Nat.min_self,Ajf (by omega),Ċ (by omega),Nat.zero_add]
  rw[e3] at h2;exact h2
 have rP:W2.heap.size=w.heap.size/\(∀k,k≠g->W2.heap[k]?=w.heap[k]?)/\W2.os=w.os/\W2.tape=w.tape/\W2.output=w.output:=by
  obtain⟨a1,a2,a3,a4,a5⟩:=Jm g news (0+i * 3) w.drew;obtain⟨b1,b2,b3,b4,b5⟩:=Jm g z59 ((n - 1) * 3) W1;rw[<-eS] at a1 a2 a3 a4 a5;rw[<-ia] at b1 b2 b3 b4 b5;exact⟨b2.trans a2,λk hk=>(b1 k hk).trans (a1 k hk),b3.trans a3,b4.trans a4,b5.trans a5⟩
 have HE:=ψ (Ϗ kY rP);rw[<-ia] at gJ;have G4:Hid (∀j u,news[j]?=φ u-> w.drew.cell? ⟨g,(i+1) * 3+j,ν⟩=φ u):=ψ λj u hu=>Iy _ _ (OB j u hu)
 have a1:(0:Int)<=(i:Int):=by omega
 have a2:(i:Int)<=(i:Int)+1:=by omega
 have a3:(i:Int)+1<=(n:Int):=by omega
 have a4:(n:Int)<=(cap:Int):=by omega
 have a5:(i:Int)<=(cap:Int):=by omega
 have a6:(i:Int)<=(n:Int):=by omega
 have a7:(i:Int)+1<=(cap:Int):=by omega
 have a8:(0:Int)<=(i:Int)+1:=by omega
 have a9:((i:Int)+1).toNat=i+1:=by omega
 have c1:i+(n - (i+1))=n - 1:=by omega
 have c2:((n - 1:Nat):Int)<=(n:Int):=by omega
 have c3:n - (n - 1)=1:=by omega
 have c4:(0:Int)<=((n - 1:Nat):Int):=by omega
 clear xD Fq Cs jR ho hn Iy OB rY kY rP eS ia IP sT HO Cm;by_cases G3:cap=i+1
 ·subst G3
  obtain rfl:n=i+1:=by omega
  rw[show i+1 - 1=i by omega,show i+1 - i=1 by omega] at gJ
  have OD:news=[]:=Ō (by have:=NL.e;omega)
  go_enter func153,Tryz.ntmps153;go_wp2;refine Sg (S:=(λ_=>True)) 8 rfl (by kernel_rfl) ?_ (λef=>?_)
  ·exact trivial
  refine Wf [0,1,2,3,4,5] [5,4,3,2,1,0] 2 rfl (by kernel_rfl) rfl ef ?_
  iterate 6
   apply vx 20 rfl (by kernel_rfl) (by kernel_rfl)
   ·intro W hW
    go_simp;all_goals with_reducible rfl
   simp only[É,Ö,Ø,Ì]
  apply po;refine aa6 6 rfl (by kernel_rfl) (λK Q hK=>?_)
  refine step_append_room rfl (.tmp 22) (.tmp 25) 23 rfl 59 i9 3 (U Tryz.underlying23) fJ.e.1 fJ.e.2.2.1 g 0 i (i+1) (by exact rfl) ⟨g,0,ν⟩ (0) (0) news (by exact rfl) (by rw[OD];rfl) (λj u hu=>by rw[OD] at hu;cases hu) La.e (by omega) KZ.e ?_
  rw[<-KT.e];refine hK.out _ _ ?_ (λdi=>?_)
  ·exact trivial
  clear hK K Q ef
  try simp only[É,Ö,Ø,Ì]
  refine Wf [7] [7,6,5,4,3,2,1,0] 0 rfl (by kernel_rfl) rfl di ?_
  apply zZ (φ 0) rfl rfl (by kernel_rfl)
  ·intro W hW
   go_simp;all_goals with_reducible rfl
  simp only[É,Ö,Ø,Ì];apply po;refine GX (by kernel_rfl) ?_
  go_wp2;go_ret;exact⟨rfl,HE.e⟩
 ·go_enter func153,Tryz.ntmps153
  go_wp2;refine Sg (S:=(λ_=>True)) 8 rfl (by kernel_rfl) ?_ (λef=>?_)
  ·exact trivial
  refine Wf [0,1,2,3,4,5] [5,4,3,2,1,0] 2 rfl (by kernel_rfl) rfl ef ?_
  iterate 6
   apply vx 20 rfl (by kernel_rfl) (by kernel_rfl)
   ·intro W hW
    go_simp;all_goals with_reducible rfl
   simp only[É,Ö,Ø,Ì]
  apply po;refine aa6 6 rfl (by kernel_rfl) (λK Q hK=>?_)
  refine step_append_room rfl (.tmp 22) (.tmp 25) 23 rfl 59 i9 3 (U Tryz.underlying23) fJ.e.1 fJ.e.2.2.1 g 0 i cap (by exact rfl) ⟨g,(i+1) * 3,ν⟩ (n - (i+1)) (cap - (i+1)) news (by exact rfl) NL.e (λj u hu=>by rw[show(⟨g,(i+1) * 3,ν⟩:Addr).add j=⟨g,(i+1) * 3+j,ν⟩ from by unfold Addr.add;split<;>simp_all];exact G4.e j u hu) La.e (by omega) KZ.e ?_
  rw[<-KT.e];refine hK.out _ _ ?_ (λdi=>?_)
  ·exact trivial
  clear hK K Q ef
  try simp only[É,Ö,Ø,Ì]
  refine Wf [7] [7,6,5,4,3,2,1,0] 0 rfl (by kernel_rfl) rfl di ?_
  apply zZ (φ 0) rfl rfl (by kernel_rfl)
  ·intro W hW
   go_simp;all_goals with_reducible rfl
  simp only[É,Ö,Ø,Ì];apply po;refine GX (by kernel_rfl) ?_
  go_wp2;go_ret;exact⟨rfl,HE.e⟩
def aaE{l:List α}{y:α}(h:(l.eraseIdx i)[j]?=φ y):∃k,l[k]?=φ y/\∀z∈(l.eraseIdx i).take j,z∈l.take k:=by
 rw[Ajv] at h
 split at h
 ·rename_i hj
  refine⟨j,h,λz hz=>?_⟩
  obtain⟨m,hm⟩:=Ajw.1 hz;rw[ĕ] at hm
  split at hm
  ·rename_i Oz
   rw[Ajv,if_pos (by omega)] at hm
   exact Ajw.2 ⟨m,by rw[ĕ,if_pos Oz];exact hm⟩
  ·cases hm
 ·refine⟨j+1,h,λz hz=>?_⟩
  obtain⟨m,hm⟩:=Ajw.1 hz;rw[ĕ] at hm
  split at hm
  ·rename_i Oz
   rw[Ajv] at hm
   split at hm
   ·exact Ajw.2 ⟨m,by rw[ĕ,if_pos (by omega)];exact hm⟩
   ·exact Ajw.2 ⟨m+1,by rw[ĕ,if_pos (by omega)];exact hm⟩
  ·cases hm
def I3(h:cZ b=0)(i:Nat):cZ (ee b i)=0:=by
 rw[PV] at h |-
 obtain⟨h1,h2,h3,h4⟩:=h;refine⟨h1,h2,?_,h4⟩
 show lB (b.aC.eraseIdx i)=0;unfold lB at h3 |-
 have hle:=(List.eraseIdx_sublist b.aC i).length_le;split at h3
 ·cases h3
 rename_i h33;rw[if_neg (by omega)]
 refine vP λj y hy=>?_
 obtain⟨k,hk,Ao⟩:=aaE hy;have:=abm _ _ h3 k y hk;rw[ì,aae] at this;rw[aae];refine⟨this.1,?_,this.2.2⟩
 have hn:=this.2.1;rw[Ajn] at hn |-
 intro q hq;obtain⟨z,hz,rfl⟩:=ó.1 hq;exact hn _ (List.mem_map_of_mem (Ao z hz))
def oi(b:eR)(k:Int):Int:=if cj k 0 ((b.aC.length:Int) - 1) then 0 else 6
def tf(b:eR)(k:Int):eR:=if oi b k=0 then ee b k.toNat else jG
def afL{bs:List (bN×υ)}(hB:B<=w.heap.size)(ah:aQ w B b pv bv tv)(mO:∀p∈bs,p.1.name.size<=ϑ/\Row w B 2 Span.R p.2 p.1.cM)(fC:bs.map Ď=b.aC)(h3:Γ w.heap.size w w3)(hz:w.heap.size+2<=w3.heap.size)
 (hg:w.heap.size+2<=g)(ho:w4.ownsRow (w.heap.size+2) 59 3 (ζ (φ ⟨g,0,ν⟩) n cap) (bs.eraseIdx i).length ((bs.eraseIdx i).flatMap fc))(aN:w4.heap.size=w3.heap.size)(hk:∀k,k≠g->w4.heap[k]?=w3.heap[k]?)(h5:w4.os=w3.os)(h6:w4.tape=w3.tape)(h7:w4.output=w3.output)
 (kb:Bk w3 w.heap.size 26 #[ξ κ b.ab,pv,bv,tv])(kr:Bk w3 (w.heap.size+1) 26 #[ξ κ 0,ζ ν 0 0,ζ ν 0 0,ζ ν 0 0]):
 let V:=w4.setCell ⟨w.heap.size,2,ν⟩ (ζ (φ ⟨g,0,ν⟩) n cap)
 (∃nh,jJ V (λk=>B<=k/\k<w.heap.size+2) (ee b i) pv (ζ (φ ⟨g,0,ν⟩) n cap) tv (bs.eraseIdx i) nh)/\Bk V w.heap.size 26 #[ξ κ b.ab,pv,ζ (φ ⟨g,0,ν⟩) n cap,tv]/\
 Bk V (w.heap.size+1) 26 #[ξ κ 0,ζ ν 0 0,ζ ν 0 0,ζ ν 0 0]/\Γ w.heap.size w V:=by
 intro V;have b4:Γ (w.heap.size+2) w3 w4:=⟨h5,h6,h7,ú aN.symm,λk kU=>hk k (by omega)⟩
 have bW:Γ w.heap.size w V:=(h3.trans (b4.mono (by omega))).setCell (ϊ _) _
 have hN:∀k,B<=k/\k<w.heap.size+2->(λk=>B<=k) k\/w.heap.size<=k:=λk hk=>.inl hk.1
 obtain⟨Lw,ts,hn⟩:=ah.pU (No:=λk=>B<=k) hB (λk hk=>hk)
 have o':=gN (p:=⟨w.heap.size,2,ν⟩) (u:=ζ (φ ⟨g,0,ν⟩) n cap) ho (by simp)
 have O4:=kb.below b4 (by omega)
 have kr4:=kr.below b4 (by omega)
 refine⟨⟨ts,hn.p.below bW hN,cV.tt o' (λ_=>rfl) (λp hm=>rfl) (λk hk=>hk.2),hn.t.below bW hN,?_,hn.oh,λp hm=>?_,λp hm=>(hn.tp p hm).below bW hN⟩,O4.set 2 _,kr4.dV (by simp) _,bW⟩
 ·show(bs.eraseIdx i).map Ď=b.aC.eraseIdx i
  rw[<-fC,akG,akG,List.map_append,List.map_take,List.map_drop]
 ·have hm:=List.mem_of_mem_eraseIdx hm
  exact⟨(mO p hm).1,((mO p hm).2.pU (No:=λk=>B<=k) hB (λk hk=>hk)).below bW hN⟩
def Rx{b o:eR}(hp:o.pieces=b.pieces)(ht:o.aI=b.aI):∀(f i:Nat) (n:al),dU o f i n=dU b f i n
 |0,i,n=>by unfold dU;rw[ht]
 |f+1,i,n=>by
  unfold dU;rw[hp];cases b.pieces[i]? with
  |none=>rfl
  |some p=>
   simp only;congr 1;funext k;exact Rx hp ht f (i+1) _
def aje{o:eR}(hp:o.pieces=b.pieces)(ht:o.aI=b.aI):aB o=aB b:=by
 unfold aB;rw[hp];exact Rx hp ht _ _ _
def QK{o:eR}{φ:Cut->Cut}{l:List Cut}(hs:o.ab=b.ab)(hp:o.pieces=b.pieces)(OX:∀c∈l,(φ c).from_=c.from_/\o.aC[(φ c).bt.toNat]?=b.aC[c.bt.toNat]?)
 (hi:∀c∈l,∀d∈l,((φ c).bt==(φ d).bt)=(c.bt==d.bt)):db o L (l.map φ)=db b L l:=by
 unfold db;rw[ü];congr 1;funext i;unfold ql;rw[Š]
 cases hc:l[i]? with
 |none=>rfl
 |some c=>
  have hm:= Ϩ hc;obtain⟨e1,e2⟩:=OX c hm;show(pN o i (L.at i) (φ c) && (ε i).all (sg o L (l.map φ) i (φ c)))=(pN b i (L.at i) c && (ε i).all (sg b L l i c));congr 1
  ·unfold pN pO
   rw[hp,e2,e1]
  ·congr 1
   funext j;unfold sg;rw[Š]
   cases hd:l[j]? with
   |none=>rfl
   |some d=>
    have qz:= Ϩ hd;show nA o.ab (φ c) (φ d) _ _=nA b.ab c d _ _;unfold nA;rw[hi c hm d qz,e1,(OX d qz).1,hs]
def wz(i:Nat)(k:Int):Int:=if k<i then k else k+1
def jW(i:Nat)(c:Cut):Cut:=⟨wz i c.bt,c.from_⟩
def vw(i:Nat)(c:Cut):Cut:=⟨if c.bt<i then c.bt else c.bt - 1,c.from_⟩
section
variable {b:eR}{i:Nat}
def P1(hi:i<b.aC.length):(ee b i).aC.length=b.aC.length - 1:=Aju hi
def xc:aB (ee b i)=aB b:=aje rfl rfl
def Pl(k:Nat):(ee b i).aC[k]?=b.aC[if k<i then k else k+1]?:=by
 show(b.aC.eraseIdx i)[k]?=_;rw[Ajv]
 split<;>rfl
def Sy{l:List Cut}(hl:∀c∈l,q9 (ee b i) c):db b L (l.map (jW i))=db (ee b i) L l:=by
 refine QK rfl rfl (λc hc=>⟨rfl,?_⟩) λc hc d hd=>?_
 ·obtain⟨k,e,hk⟩:=(hl c hc).bt
  rw[Pl];unfold jW wz;simp only[e];congr 1;split<;>(split<;>omega)
 ·unfold jW wz
  simp only;rw[Ais,beq_iff_eq,beq_iff_eq];split<;>split<;>omega
def SA(hi:i<b.aC.length){c:Cut}(hc:q9 (ee b i) c):q9 b (jW i c):=by
 obtain⟨k,e,hk⟩:=hc.bt;rw[P1 hi] at hk;refine⟨?_,hc.from_⟩
 unfold jW wz;simp only;split
 ·exact⟨k,e,by omega⟩
 ·exact⟨k+1,by omega,by omega⟩
def aaq{l:List Cut}(hl:∀c∈l,q9 b c/\c.bt≠i):db (ee b i) L (l.map (vw i))=db b L l:=by
 refine QK rfl rfl (λc hc=>⟨rfl,?_⟩) λc hc d hd=>?_
 ·obtain⟨⟨k,e,hk⟩,-⟩:=(hl c hc).1
  have hn:=(hl c hc).2;rw[Pl];unfold vw;simp only[e] at hn |-
  congr 1;split<;>split<;>omega
 ·have h1:=(hl c hc).2
  have h2:=(hl d hd).2;unfold vw;simp only;rw[Ais,beq_iff_eq,beq_iff_eq];split<;>split<;>omega
def aar(hi:i<b.aC.length){c:Cut}(hc:q9 b c)(hn:c.bt≠i):q9 (ee b i) (vw i c):=by
 obtain⟨k,e,hk⟩:=hc.bt;refine⟨?_,hc.from_⟩
 rw[P1 hi];unfold vw;simp only;split
 ·exact⟨k,e,by omega⟩
 ·exact⟨k - 1,by omega,by omega⟩
def aj7(l:List Cut):iH (l.map (jW i))<=iH l:=by
 have h1:=Y2 (l.map (jW i));have h2:=Y2 l;have hn:(jX (l.map (jW i))).Nodup:=h1.1.imp λh=>by omega
 have:(jX (l.map (jW i))).length<=((jX l).map (wz i)).length:=hn.length_le_of_subset λa ha=>by
  obtain⟨c',vf,e⟩:=ó.1 ((h1.2 a).1 ha);obtain⟨c,hc,rfl⟩:=ó.1 vf;exact ó.2 ⟨c.bt,(h2.2 _).2 (ó.2 ⟨c,hc,rfl⟩),e⟩
 rw[ü] at this;unfold iH;omega
def Bd(b:eR)(i:Nat):Option (List Cut):=search b (cB (aB b)) (λk=>decide (k=i)) b.pieces.length []
def LZ(hv:Valid b){out:Nat->Bool}{full:List Cut}(h:search b (cB (aB b)) out b.pieces.length []=φ full):mr b full/\∀L∈aB b,db b L full=θ:=by
 have hg:=J1 hv _ [] full (by simp) h
 exact⟨⟨by simpa using hg.1,hg.2⟩,λL hL=>aeo (aoF h) λq _=>Xg q _ L hL⟩
def ail(hv:Valid b)(Wx:Valid (ee b i))(aw:aB b≠ [])(hi:i<b.aC.length):(Bd b i).isSome=(ga (ee b i) (cB (aB (ee b i))) iH (2 ^ (ee b i).aC.length)).isSome:=by
 rw[Ais,Option.isSome_iff_exists,Option.isSome_iff_exists];constructor
 ·rintro⟨full,h⟩
  obtain⟨hg,hd⟩:=LZ hv h;have dc:=Yt _ [] full (by simp) h
  have hk:∀c∈full,q9 b c/\c.bt≠i:=λc hc=>by
   obtain⟨k,e,hk⟩:=dc c hc;exact⟨hg.2 c hc,by simp at hk;omega⟩
  obtain⟨x,m,hb,-⟩:=acC Wx alq (by rw[xc];exact aw) (c:=full.map (vw i)) ⟨by rw[ü];exact hg.1,λc hc=>by
   obtain⟨d,hd,rfl⟩:=ó.1 hc;exact aar hi (hk d hd).1 (hk d hd).2⟩ λL hL=>by
    rw[aaq hk];exact hd L (by rw[<-xc (b:=b) (i:=i)];exact hL)
  exact⟨_,hb⟩
 ·rintro⟨⟨x,m⟩,h⟩
  obtain⟨hd,-⟩:=acA h;have hg:=G8 Wx _ _ _ h;obtain⟨full,hf,-⟩:=Ri hv aw (c:=x.map (jW i)) (out:=λk=>decide (k=i)) ⟨by rw[ü];exact hg.1,λc hc=>by
   obtain⟨d,hd,rfl⟩:=ó.1 hc;exact SA hi (hg.2 d hd)⟩ (λL hL=>by
    rw[Sy hg.2];exact hd L (by rw[xc];exact hL)) (λd hd q hq _=>by
    obtain⟨c,hc,rfl⟩:=ó.1 hd;simp only[decide_eq_false_iff_not];rintro rfl;unfold jW wz at hq;simp only at hq;split at hq<;>omega)
  exact⟨full,hf⟩
def afP(hv:Valid b)(Wx:Valid (ee b i))(aw:aB b≠ [])(hi:i<b.aC.length){y:List Cut}{k:Int}(h:ga (ee b i) (cB (aB (ee b i))) iH (2 ^ (ee b i).aC.length)=φ (y,k)):
 ∃x m,ga b (cB (aB b)) iH (2 ^ b.aC.length)=φ (x,m)/\m<=k:=by
 obtain⟨hd,hm⟩:=acA h;have hg:=G8 Wx _ _ _ h;obtain⟨x,m,hb,hle,-⟩:=acC hv alq aw (c:=y.map (jW i)) ⟨by rw[ü];exact hg.1,λc hc=>by
  obtain⟨d,hd,rfl⟩:=ó.1 hc;exact SA hi (hg.2 d hd)⟩ (λL hL=>by
   rw[Sy hg.2];exact hd L (by rw[xc];exact hL))
 have:=aj7 (i:=i) y;exact⟨x,m,hb,by omega⟩
def ZZ(hv:Valid b)(aw:aB b≠ [])(h:ga b (cB (aB b)) iH (2 ^ b.aC.length)=ν)(j:Nat):Bd b j=ν:=by
 cases e:Bd b j with
 |none=>rfl
 |some full=>
  obtain⟨hg,hd⟩:=LZ hv e;obtain⟨x,m,hb,-⟩:=acC hv alq aw hg hd;rw[h] at hb;cases hb
end
def aid{kv:υ}(hB:B<=w.heap.size)(ah:aQ w B b pv bv tv)(Aw:x.name.size<=ϑ)(iZ:Row w B 2 Span.R kv x.cM)(h0:cZ b=0)(h1:cZ (fH b x)=0):
 ύ prog 53 #[η #[ξ κ b.ab,pv,bv,tv],η #[.string x.name,ξ κ x.aL,kv]] w λe w'=>∃fE gH ez,e=Ω (μ #[η #[ξ κ b.ab,fE,gH,ez],ξ κ 0])/\aQ w' w'.heap.size (fH b x) fE gH ez/\Γ w.heap.size w w':=by
 refine(aaI hB ah Aw iZ h0).mono λe w' h=>?_
 have hr:BE b x=fH b x:=by unfold BE;rw[if_pos h1]
 rw[hr,h1] at h;obtain⟨P',n1,c1,A',n2,c2,T',n3,c3,rfl,hk,hb⟩:=h;exact⟨_,_,_,rfl,hk w' ⟨ϊ _,λ_ _ _=>rfl⟩,hb⟩
def rl(b:eR)(mI:List Cut->Int):Int:=((iR b mI).map Prod.snd).getD 0
def j8(b:eR)(mI:List Cut->Int):Bool:=(iR b mI).isSome
def LN{mI:List Cut->Int}{e:Ending}(h:GI w b mI e w'):∃A n c,e=Ω (μ #[ζ A n c,ξ κ (rl b mI),.bool (j8 b mI),ξ κ (bT b 0)])/\Γ w.heap.size w w':=by
 obtain⟨cv,mv,fv,rfl,hs,hb⟩:=h;unfold rl j8;cases hx:iR b mI with
 |none=>
  rw[hx] at hs;obtain⟨rfl,rfl,rfl⟩:=hs;exact⟨_,_,_,rfl,hb⟩
 |some x=>
  obtain⟨x,m⟩:=x;rw[hx] at hs;obtain⟨ho,rfl,rfl⟩:=hs;obtain⟨A,n,c,rfl⟩:=iI ho;exact⟨A,n,c,rfl,hb⟩
def ae5{k:Int}(hB:B<=w.heap.size)(ah:aQ w B b pv bv tv)(h0:cZ b=0):
 ύ prog 80 #[η #[ξ κ b.ab,pv,bv,tv],ξ κ k] w λe w'=>yR (λk=>B<=k/\k<w.heap.size) w w' (tf b k) (oi b k) e:=by
 obtain⟨bs,fC,zL⟩:=CY (R':=λ(p:bN×υ) cs=>cs=fc p/\p.1.name.size<=ϑ/\Row w B 2 Span.R p.2 p.1.cM) ah.aC (λx cs ⟨kv,h1,h2,h3⟩=>⟨kv,h1,h2,h3⟩)
 have mO:∀p∈bs,p.1.name.size<=ϑ/\Row w B 2 Span.R p.2 p.1.cM:=λp hp=>by obtain⟨cs,h1,h2⟩:=zL.mem p hp;exact h2
 have uI:Hid (Row w B 3 (λp cs=>cs=fc p) bv bs):=ψ (zL.still (Δ.refl w) λ_ _ h=>h.1)
 have Ew:∀p∈bs,∀u∈fc p,u.oneCell'=θ:=λp hp u hu=>by
  obtain⟨A,c,e,_⟩:=(mO p hp).2;simp[fc] at hu;rcases hu with rfl|rfl|rfl
  ·rfl
  ·rfl
  ·rw[e];rfl
 have gU:bs.length=b.aC.length:=by rw[<-fC,ü]
 have hv:=fG h0;have xH:bs.length<=3:=by rw[gU];exact hv.nb
 have C2:Hid (∀w',Δ B w w'->B<=w'.heap.size->ύ prog 135 #[bv] w' λe bz=>∃v',e=Ω v'/\bz.ownsRow w'.heap.size 59 3 v' bs.length (bs.flatMap fc)/\Γ w'.heap.size w' bz):=
  ψ λw' hs hz=>Tx (uI.e.still hs λ_ _ h=>h) hz (λ_=>rfl) Ew (by omega)
 have HM:=ψ (Ϗ mO (Ϗ fC gU));have bD:=ψ ah;have La:=ψ (aaM mO);obtain⟨A1,n1,c1,rfl,-⟩:=ah.pieces.Φ;obtain⟨A2,n2,c2,rfl,e2,-⟩:=ah.aC.Φ;obtain⟨A3,n3,c3,rfl,-⟩:=ah.aI.Φ;have dn:n2<=3:=by omega
 have EL:=ψ e2;have B9:Hid (∀W,ύ prog 100 #[ξ κ k,ξ κ n2] W λe w'=>e=Ω (ξ κ (oi b k))/\W=w'):=ψ λW=>by
  have:=there k (n2:Int) (by omega) W (by omega)
  unfold oi;rwa[e2]
 have HH:=ψ h0;obtain⟨W0,bY⟩:∃W0,W0=((w.alloc (Ξ #[ξ κ b.ab,ζ A1 n1 c1,ζ A2 n2 c2,ζ A3 n3 c3] 26)).alloc (Ξ #[ξ κ 0,ζ ν 0 0,ζ ν 0 0,ζ ν 0 0] 26)):=⟨_,rfl⟩
 have Z0:W0.heap.size=w.heap.size+2:=by rw[bY];simp
 have BW:Hid (Γ w.heap.size w W0):=ψ (by rw[bY];exact((ώ _ _).alloc (ϊ _) _).alloc (by simp) _)
 have KA:Hid (Bk W0 w.heap.size 26 #[ξ κ b.ab,ζ A1 n1 c1,ζ A2 n2 c2,ζ A3 n3 c3]):=ψ (by rw[bY];exact(Bk.new _ _ _).alloc _)
 have KR:Hid (Bk W0 (w.heap.size+1) 26 #[ξ κ 0,ζ ν 0 0,ζ ν 0 0,ζ ν 0 0]):=ψ (by rw[bY];exact Bk.bZ (by simp) _ _)
 have QH:Δ B w W0:=Δ.aJ BW.e hB;have VB:=ψ (qj (w:=W0) (bD.e.still QH) (by omega) HH.e)
 have k0:=KA.e.cell 0;have k1:=KA.e.cell 1;have k2:=KA.e.cell 2;have k3:=KA.e.cell 3;clear ah zL mO Ew fC gU hv h0 e2;go_enter func80,Tryz.ntmps80;go_wp2;rw[<-bY];clear bY
 go_at_call 68
 refine VB.e.mono ?_
 rintro e w1 ⟨rfl,ai⟩;have H1:Hid (Γ (w.heap.size+2) W0 w1):=ψ (ai.mono (by omega))
 have z1:w.heap.size+2<=w1.heap.size:=by have:=ai.size;omega
 clear k0 k1 k2 k3;have ka:=KA.e.below H1.e (by omega)
 have k0:=ka.cell 0;have k1:=ka.cell 1;have k2:=ka.cell 2;have k3:=ka.cell 3;have f20:=ka.frozen 2;have lA:w.heap.size<w1.heap.size:=by omega
 clear ka ai;go_wp2
 go_at_call 100
 refine(B9.e _).mono ?_
 rintro e w' ⟨rfl,rfl⟩;by_cases hs:oi b k=0
 ·have hr:tf b k=ee b k.toNat:=by unfold tf;rw[if_pos hs]
  have dc:0<=k/\k<=(b.aC.length:Int) - 1:=by
   unfold oi at hs;split at hs
   ·rename_i h;unfold cj at h;simp at h;omega
   ·cases hs
  obtain⟨i,rfl⟩:∃i:Nat,k=i:=⟨k.toNat,by omega⟩
  have hi:i<n2:=by have:=EL.e;omega
  rw[hs];have HR:Hid (tf b (i:Int)=ee b i/\oi b (i:Int)=0):=ψ ⟨hr.trans (by rw[Int.toNat_natCast]),hs⟩
  have kX:0<bs.length:=by have:=HM.e.2.2;have:=EL.e;omega
  have a7:ϙ.wrap ((i:Int)+1)=(i:Int)+1:=by rw[Aiw];exact Aix _ (by omega)
  have NM:bs.length=n2:=by rw[HM.e.2.2,EL.e]
  have WX:=ψ NM;clear hs hr dc NM B9;go_wp2
  go_at_call 135
  refine(C2.e _ ?s1 ?s2).mono ?_
  case s1=>exact Δ.aJ (BW.e.trans (H1.e.mono (by omega))) hB
  case s2=>omega
  rintro e w3 ⟨v3,rfl,o3,bK⟩;have H3:Hid (Γ (w.heap.size+2) W0 w3):=ψ (H1.e.trans (bK.mono z1));have z3:w.heap.size+2<=w3.heap.size:=by have:=bK.size;omega
  obtain⟨A4,n4,c4,rfl⟩:=ld o3;obtain rfl:n4=n2:=by rw[yq o3,WX.e]
  obtain⟨g,rfl⟩:=JG o3 (by omega)
  have hg:w.heap.size+2<=g:=ϡ z1 (dX o3 g rfl);have KG:=ψ (aan (i:=i) (o3.base (fB:=w.heap.size+2) z1) La.e hi);clear o3 bK k0 k1 k2 k3 f20;go_wp2
  go_at_call 153
  refine KG.e.mono ?_
  rintro e w4 ⟨rfl,o4,d1,d2,d3,d4,d5⟩;have vr:=afL (i:=i) hB bD.e HM.e.1 HM.e.2.1 (BW.e.trans (H3.e.mono (by omega))) z3 hg o4 d1 d2 d3 d4 d5 (KA.e.below H3.e (by omega)) (KR.e.below H3.e (by omega))
  obtain⟨V,hV⟩:∃V,V=w4.setCell ⟨w.heap.size,2,ν⟩ (ζ (φ ⟨g,0,ν⟩) (n4 - 1) c4):=⟨_,rfl⟩
  rw[<-hV] at vr;obtain⟨⟨nh,hn⟩,kb,kr,bV⟩:=vr;have IE:Bk w4 w.heap.size 26 #[ξ κ b.ab,ζ A1 n1 c1,ζ A2 n4 c2,ζ A3 n3 c3]:=(d2 _ (by omega)).trans (KA.e.below H3.e (by omega))
  have k2:=IE.cell 2;have f2:=IE.frozen 2;have l4:w.heap.size<w4.heap.size:=by omega
  have q0:=kb.cell 0;have q1:=kb.cell 1;have q2:=kb.cell 2;have q3:=kb.cell 3;have lV:=kb.lt;have KJ:=ψ (copied (w:=V) hn (λk hk=>by have:=hk.2;have:=kr.lt;omega) (fG (I3 HH.e i)))
  have Lp:=ψ kr;have vY:=ψ bV;rw[hV] at q0 q1 q2 q3 lV;have u7:=ψ hV;clear o4 d1 d2 d3 d4 d5 hV hn kb kr bV IE KG;go_wp2;rw[<-u7.e]
  go_at_call 136
  refine KJ.e.mono ?_
  rintro e w8 ⟨p8,b8,t8,Z6,ts8,rfl,ve,pF⟩;have Ir:=ve.book;have jf:=Lp.e.below pF Lp.e.lt;have r0:=jf.cell 0;have r1:=jf.cell 1;have r2:=jf.cell 2;have r3:=jf.cell 3;have f0:=jf.frozen 0;have f1:=jf.frozen 1;have f2:=jf.frozen 2;have f3:=jf.frozen 3;have Is:w.heap.size+1<w8.heap.size:=jf.lt;obtain⟨Kx,PQ,Ms,rfl,-⟩:=Ir.pieces.Φ;obtain⟨Ky,PR,Mt,rfl,-⟩:=Ir.aC.Φ;obtain⟨Kz,PS,Mu,rfl,-⟩:=Ir.aI.Φ;have Lc:=ψ pF;have RP:=ψ ve;have r8:(ee b i).ab=b.ab:=rfl;rw[r8];have Am:=((((jf.set 0 (ξ κ b.ab)).set 1 (ζ Kx PQ Ms)).set 2 (ζ Ky PR Mt)).set 3 (ζ Kz PS Mu));have y0:=Am.cell 0;have y1:=Am.cell 1;have y2:=Am.cell 2;have y3:=Am.cell 3;clear pF Ir ve jf Am r8;go_wp2;have dw:Γ w.heap.size w w8:=vY.e.trans (Lc.e.mono (by have:=vY.e.size;omega))
  refine à (v:=μ #[η #[ξ κ b.ab,ζ Kx PQ Ms,ζ Ky PR Mt,ζ Kz PS Mu],ξ κ 0]) (by simp[results,Tryz.results80,go_sem,y0,y1,y2,y3]) rfl ?_
  rw[HR.e.1,HR.e.2];refine⟨_,_,_,_,_,_,_,_,_,rfl,λU hU=>?_,?_⟩
  ·have hq:(λk=>B<=k/\k<w.heap.size+2) (w.heap.size+1):=⟨by omega,by omega⟩
   exact RP.e.kept ((((hU.weaken (oz:=λk=>B<=k/\k<w.heap.size+2) λk hk=>⟨hk.1,by have:=hk.2;omega⟩).qT hq).qT hq).qT hq|>.qT hq)
  ·exact(((dw.setCell (by simp<;>omega) _).setCell (by simp<;>omega) _).setCell (by simp<;>omega) _).setCell (by simp<;>omega) _
 ·have hr:tf b k=jG:=by unfold tf;rw[if_neg hs]
  obtain⟨z,hz⟩:∃z,z=oi b k:=⟨_,rfl⟩
  have HR:=ψ (Ϗ hr hz);rw[<-hz] at hs |-
  have aO:(z !=0)=θ:=by simpa using hs
  clear hr hz B9;have jf:=KR.e.below H1.e (by omega)
  have r0:=jf.cell 0;have r1:=jf.cell 1;have r2:=jf.cell 2;have r3:=jf.cell 3;have f0:=jf.frozen 0;have f1:=jf.frozen 1;have f2:=jf.frozen 2;have f3:=jf.frozen 3;have Is:w.heap.size+1<w1.heap.size:=jf.lt;have Am:=((((jf.set 0 (ξ κ 0)).set 1 (ζ ν 0 0)).set 2 (ζ ν 0 0)).set 3 (ζ ν 0 0));have y0:=Am.cell 0;have y1:=Am.cell 1;have y2:=Am.cell 2;have y3:=Am.cell 3;clear jf Am;go_wp2;refine à (v:=μ #[η #[ξ κ 0,ζ ν 0 0,ζ ν 0 0,ζ ν 0 0],ξ κ z]) (by simp[results,Tryz.results80,go_sem,y0,y1,y2,y3]) rfl ?_
  rw[HR.e.1,<-HR.e.2];refine Uz ?_
  have dw:Γ w.heap.size w w1:=BW.e.trans (H1.e.mono (by omega))
  exact(((dw.setCell (by simp<;>omega) _).setCell (by simp<;>omega) _).setCell (by simp<;>omega) _).setCell (by simp<;>omega) _
end Go.Tw
