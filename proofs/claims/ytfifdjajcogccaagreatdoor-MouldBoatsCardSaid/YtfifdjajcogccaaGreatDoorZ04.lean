import Derived.Test.YtfifdjajcogccaaGreatDoorZ03
import Derived.Test.YtfifdjajcogccaaGreatDoorZ02
set_option linter.all false
set_option maxHeartbeats 64000000
set_option maxRecDepth 100000
open List renaming mem_map -> Ahw, range_succ -> Ah0, mem_cons -> ϣ, mem_cons_self -> Ai8, mem_cons_of_mem -> Ai9, mem_of_getElem? -> ϡ
open Nat renaming le_refl -> ϊ
open Bool renaming true -> θ
open Go renaming Value -> υ, World -> Ψ
open Go.Ending renaming returned -> Ω
open Go.IntKind renaming i64 -> κ
open Go.Lib renaming hid -> ψ
open Go.Obj renaming cells -> Ξ
open Go.RowKit renaming Below -> Γ, Below -> Γ
open Go.Value renaming slice -> ζ, tuple -> μ, agg -> η, int -> ξ
open Option renaming some -> φ, none -> ν
namespace Go.Tw
variable [Go.Tw.aR]
open Go Go.Proofs Go.RowKit
def adQ{b:ao}(hv:Valid b):∀i,i<=b.pieces.length->∀L∈sd b i,∀j,i<=j->j<3->L.at j=0
 |0,_,L,hL,j,_,_=>by
  simp[sd] at hL;subst hL;unfold an.at;simp
 |i+1,hi,L,hL,j,hj,DE=>by
  obtain⟨p,hp⟩:∃p,b.pieces[i]?=φ p:=⟨_,List.getElem?_eq_getElem (by omega)⟩
  have fZ:i<3:=by have:=hv.np;omega
  simp only[sd,EP,hp] at hL;obtain⟨M,hM,hL⟩:=List.mem_flatMap.1 hL;obtain⟨k,hk,rfl⟩:=Ahw.1 hL;rw[Lw fZ,if_neg (by omega)]
  exact adQ hv i (by omega) M hM j (by omega) DE
def T1{b:ao}(hv:Valid b){L:an}(hL:L∈aD b):sg L (wU b.pieces.length)=L.sum:=by
 rw[<-adN] at hL;have h0:=adQ hv _ (ϊ _) L (List.mem_filter.1 hL).1;have hn:=hv.np;have e0:L.at 0=L.a:=rfl;have e1:L.at 1=L.b:=rfl;have e2:L.at 2=L.c:=rfl;obtain⟨n,US⟩:∃n,n=b.pieces.length:=⟨_,rfl⟩
 rw[<-US] at h0 hn |-
 unfold an.sum;have:n=1\/n=2\/n=3:=by omega
 rcases this with rfl|rfl|rfl
 ·have h1:=h0 1 (by omega) (by omega)
  have h2:=h0 2 (by omega) (by omega)
  simp[sg,wU,Ah0];omega
 ·have h2:=h0 2 (by omega) (by omega)
  simp[sg,wU,Ah0];omega
 ·simp[sg,wU,Ah0];omega
def af7:∀ {l:List an} {s:Span},s.lo<=(l.foldl BE s).hi\/True->(l.foldl BE s).lo<=s.lo/\s.hi<=(l.foldl BE s).hi/\(∀x∈l,(l.foldl BE s).lo<=x.sum/\x.sum<=(l.foldl BE s).hi)/\
 ((l.foldl BE s).lo=s.lo\/∃x∈l,x.sum=(l.foldl BE s).lo)/\((l.foldl BE s).hi=s.hi\/∃x∈l,x.sum=(l.foldl BE s).hi)
 | [],s,_=>by simp
 |a::l,s,_=>by
  obtain⟨h1,h2,h3,h4,h5⟩:=af7 (l:=l) (s:=BE s a) (Or.inr trivial);simp only[List.foldl_cons];have e1:(BE s a).lo=min s.lo a.sum:=rfl;have e2:(BE s a).hi=max s.hi a.sum:=rfl;rw[e1] at h1 h4;rw[e2] at h2 h5;replace h4:=ψ h4;replace h5:=ψ h5;generalize e3:(l.foldl BE (BE s a)).lo=lo at *;generalize e4:(l.foldl BE (BE s a)).hi=hi at *;refine⟨by omega,by omega,λx hx=>?_,?_,?_⟩
  ·rcases ϣ.1 hx with rfl|hx
   ·constructor<;>omega
   ·exact h3 x hx
  ·rcases h4.e with h4| ⟨x,hx,h4⟩
   ·rcases Int.le_total s.lo a.sum with h|h
    ·exact Or.inl (by omega)
    ·exact Or.inr ⟨a,Ai8,by omega⟩
   ·exact Or.inr ⟨x,Ai9 _ hx,h4⟩
  ·rcases h5 with h5| ⟨x,hx,h5⟩
   ·rcases Int.le_total s.hi a.sum with h|h
    ·exact Or.inr ⟨a,Ai8,by omega⟩
    ·exact Or.inl (by omega)
   ·exact Or.inr ⟨x,Ai9 _ hx,h5⟩
def aqc{l:List an}(aw:l≠ []):(∀x∈l,(oK l).lo<=x.sum/\x.sum<=(oK l).hi)/\(∃x∈l,x.sum=(oK l).lo)/\∃x∈l,x.sum=(oK l).hi:=by
 cases l with
 |nil=>exact absurd rfl aw
 |cons a l=>
  obtain⟨h1,h2,h3,h4,h5⟩:=af7 (l:=l) (s:=⟨a.sum,a.sum⟩) (Or.inr trivial);show(∀x∈a::l,(l.foldl BE ⟨a.sum,a.sum⟩).lo<=x.sum/\x.sum<=(l.foldl BE ⟨a.sum,a.sum⟩).hi)/\(∃x∈a::l,x.sum=(l.foldl BE ⟨a.sum,a.sum⟩).lo)/\∃x∈a::l,x.sum=(l.foldl BE ⟨a.sum,a.sum⟩).hi
  refine⟨λx hx=>?_,?_,?_⟩
  ·rcases ϣ.1 hx with rfl|hx
   ·exact⟨h1,h2⟩
   ·exact h3 x hx
  ·rcases h4 with h4| ⟨x,hx,h4⟩
   ·exact⟨a,Ai8,h4.symm⟩
   ·exact⟨x,Ai9 _ hx,h4⟩
  ·rcases h5 with h5| ⟨x,hx,h5⟩
   ·exact⟨a,Ai8,h5.symm⟩
   ·exact⟨x,Ai9 _ hx,h5⟩
def apL{l:List Int}(h:l.Pairwise (· < ·)){m:Int}(hm:m∈l)(hle:∀x∈l,m<=x):l[0]?=φ m:=by
 cases l with
 |nil=>cases hm
 |cons a l=>
  rcases ϣ.1 hm with rfl|hm
  ·rfl
  ·have h1:=(List.pairwise_cons.1 h).1 m hm
   have h2:=hle a Ai8;omega
def Br(b:ao):List Int:=yO ((aD b).map λL=>sg L (wU b.pieces.length))
def ap6{b:ao}(hv:Valid b)(aw:aD b≠ []):0<(Br b).length/\(Br b)[0]?=φ (oK (aD b)).lo/\(Br b)[(Br b).length - 1]?=φ (oK (aD b)).hi:=by
 obtain⟨h1,h2⟩:=afS ((aD b).map λL=>sg L (wU b.pieces.length))
 obtain⟨h3,⟨x,hx,ex⟩,⟨y,hy,ey⟩⟩:=aqc aw;have pb:(oK (aD b)).lo∈Br b:=(h2 _).2 (Ahw.2 ⟨x,hx,by rw[T1 hv hx,ex]⟩)
 have Un:(oK (aD b)).hi∈Br b:=(h2 _).2 (Ahw.2 ⟨y,hy,by rw[T1 hv hy,ey]⟩)
 have hb:∀z∈Br b,(oK (aD b)).lo<=z/\z<=(oK (aD b)).hi:=λz hz=>by
  obtain⟨L,hL,rfl⟩:=Ahw.1 ((h2 z).1 hz);simp only[T1 hv hL];exact h3 L hL
 exact⟨List.length_pos_of_mem pb,apL h1 pb λz hz=>(hb z hz).1,aoq h1 Un λz hz=>(hb z hz).2⟩
def yR(b:ao):Span:=if cj b 0=0 then oK (aD b) else⟨0,0⟩
def aqd{w:Ψ}{b:ao}{pv bv tv:υ}{B:Nat}(hB:B<=w.heap.size)(ai:bg w B b pv bv tv):
 Calls prog 26 #[η #[ξ κ b.ag,pv,bv,tv]] w λe w'=>e=Ω (μ #[η #[ξ κ (yR b).lo,ξ κ (yR b).hi],ξ κ (cj b 0)])/\Γ w.heap.size w w':=by
 by_cases h:cj b 0=0
 ·have e:yR b=oK (aD b):=by unfold yR;rw[if_pos h]
  rw[e,h];exact amm hB ai h
 ·have e:yR b=⟨0,0⟩:=by unfold yR;rw[if_neg h]
  rw[e];exact aqf hB ai h
def ap7{b:ao}(hv:Valid b){L:an}(hL:L∈aD b):0<=sg L (wU b.pieces.length)/\sg L (wU b.pieces.length)<=3000:=by
 rw[T1 hv hL];have h:=uG hv L hL;have h0:0<=L.a/\L.a<=1000:=h 0;have h1:0<=L.b/\L.b<=1000:=h 1;have h2:0<=L.c/\L.c<=1000:=h 2;unfold an.sum;omega
def aqe{w:Ψ}{b:ao}{pv bv tv:υ}{B:Nat}(ai:bg w B b pv bv tv)(hB:B<=w.heap.size):
 Calls prog 27 #[η #[ξ κ b.ag,pv,bv,tv]] w λe w'=>e=Ω (μ #[η #[ξ κ (yR b).lo,ξ κ (yR b).hi],ξ κ (cj b 0)])/\Γ w.heap.size w w':=by
 have bT:=ψ ai;obtain⟨A1,n1,c1,rfl,e1,-⟩:=ai.pieces.Φ;obtain⟨A2,n2,c2,rfl,-⟩:=ai.aF.Φ;obtain⟨A3,n3,c3,rfl,-⟩:=ai.aJ.Φ;obtain⟨i0,cR,cT,aN,ba⟩:=info_parts Oo;have HI:=ψ (And.intro cR (And.intro cT (And.intro aN ba)));obtain⟨W0,z8⟩:∃W0,W0=(w.alloc (Ξ #[ξ κ b.ag,ζ A1 n1 c1,ζ A2 n2 c2,ζ A3 n3 c3] 26)).alloc (Ξ #[ξ κ 0,ξ κ 0] 37):=⟨_,rfl⟩
 have Z0:W0.heap.size=w.heap.size+2:=by rw[z8];simp
 have BW:Hid (Γ w.heap.size w W0):=ψ (by rw[z8];exact((Below.refl _ _).alloc (ϊ _) _).alloc (by simp) _)
 have KB:Hid (Bk W0 w.heap.size 26 #[ξ κ b.ag,ζ A1 n1 c1,ζ A2 n2 c2,ζ A3 n3 c3]):=ψ (by rw[z8];exact(Bk.new _ _ _).alloc _)
 have KT:Hid (Bk W0 (w.heap.size+1) 37 #[ξ κ 0,ξ κ 0]):=ψ (by rw[z8];exact Bk.cG (by simp) _ _)
 have S0:Hid (Δ B w W0):=ψ (by rw[z8];exact((Δ.refl w).alloc hB _).alloc (by simp;omega) _)
 have aB:=ψ (adB (w:=W0) (B:=B) (s:=0) (bT.e.still S0.e) (by omega))
 obtain⟨os,wF⟩:∃os,os=cj b 0:=⟨_,rfl⟩
 rw[<-wF] at aB |-
 have wz:=ψ wF;clear ai cR cT aN ba wF;by_cases ho:os=0
 ·subst ho
  have hz:=pq wz.e.symm;have hv:=iy hz.1;have HV:=ψ hv;have TD:=ψ (uG hv);have afb:(aD b).length<=27:=Ct hv;have ht:Hid (yR b=oK (aD b)):=ψ (by unfold yR;rw[if_pos wz.e.symm])
  have SE:=ψ (ap6 hv (λe=>hz.2.2 (by rw[e];rfl)))
  have lQ:n1<=3:=by have:=hv.np;omega
  have E1:=ψ e1;clear hz hv e1;go_enter func27,Tryz.ntmps27;go_wp2_with (first
   | (rw[<-z8]
      go_at_call 103;refine aB.e.mono ?_;rintro e w6 ⟨v,ts,rfl,aG,il,fI⟩
      obtain⟨A9,n9,c9,rfl⟩:=j8 aG.1;have nG:n9=(aD b).length:=by rw[Be aG.1];exact ER (il.trans (SI wz.e.symm))
      have Bo:=ψ nG;have aeX:n9<=27:=by omega
      have eM:=ψ fI;have HO:=ψ aG;have HT:=ψ (il.trans (SI wz.e.symm));clear fI aG il nG))
  have z6:=eM.e.size;go_loopw [6,7] (λo u wr=>∃i:Nat,i<=n9/\u=ξ κ i/\Hid (wr.ownsRow w6.heap.size 3 1 o i (((aD b).take i).map λL=>ξ κ (sg L (wU b.pieces.length))))/\Γ w6.heap.size w6 wr) (λ_ u _=>n9 - (RowKit.intOf u).toNat)
  case atStart=>exact⟨0,Nat.zero_le _,rfl,ψ ⟨by simp,.inl ⟨rfl,rfl⟩⟩,Below.refl _ _⟩
  case round=>
   rename Ψ=>wq
   obtain⟨i,hi,rfl,Ht,hb⟩:=hrel;have HB:=ψ hb;have zq:=hb.size;have kq:=(KB.e.below eM.e (by omega)).below hb (by omega)
   have f1: wq.cell? ⟨w.heap.size,1,ν⟩=φ (ζ A1 n1 c1):=kq.cell 1;by_cases al:i<n9
   ·obtain⟨ad,L,A5,c5,rfl,aC,hL,hu,au⟩:=V5 HO.e HT.e al
    have y0:=au wq hb;have y1:(ad.add i).block<wq.heap.size:=by rw[cq];omega
    have NA:(i:Int)<n9:=by omega
    have HC:=ψ au;have HU:=ψ (Ih (l:=sx b.pieces.length L) (by rw[Bp];exact hu))
    have okL:=ψ (TD.e L (ϡ hL));have HX:=ψ hL;have uv:=ψ (aiw (n:=n1) (by omega) wq.drew)
    have Hz:=ap7 HV.e (ϡ hL);obtain⟨S,hS⟩:∃S,S=sg L (wU b.pieces.length):=⟨_,rfl⟩
    rw[<-hS] at Hz;have HS:=ψ hS;clear au hu hL hb kq hS;go_wp2;go_region_law (first
     | (go_simp;go_at_call 78
        refine uv.e.mono ?_
        rintro e w7 ⟨u,rfl,U0,jx⟩;obtain⟨A7,n7,c7,rfl⟩:=j8 U0;have QW:Hid (Γ wq.heap.size wq w7):=ψ (iU jx);have KV:=ψ U0;have x0: w7.cell? (ad.add i)=φ (ζ A5 b.pieces.length c5):=HC.e w7 (HB.e.trans (QW.e.mono zq));have z7:=QW.e.size;clear jx U0)
     | (go_simp;go_at_call 77
        refine(af5 (L:=L) (n:=b.pieces.length) (ps:=wU b.pieces.length) (B:=w7.heap.size) ?r1 ?r2 ?r3 ?r4 okL.e).mono ?_
        case r1=>exact(HU.e.still (Δ.aK (HB.e.trans (QW.e.mono zq)) (ϊ _)) λ_ _ h=>h).more (by omega)
        case r2=>(rw[E1.e];exact Ih (l:=wU n1) (by simpa [wU] using KV.e))
        case r3=>(intro k hk;unfold wU at hk;obtain⟨j,hj,rfl⟩:=Ahw.1 hk;have:=List.mem_range.1 hj;omega)
        case r4=>(simp[wU];have:=E1.e;omega)
        rintro e w8 ⟨rfl,rfl⟩;rw[<-HS.e])
     | (refine ug rfl (.tmp 23) (.tmp 33) 33 rfl w6.heap.size 3 i0 (ξ κ 0) 1 8 (U Tryz.underlying33) HI.e.1 HI.e.2.1 HI.e.2.2.1 HI.e.2.2.2 rfl (by decide) _ i _ rfl (show World.ownsRow _ _ _ _ _ _ _ from(qO Ht.e QW.e (ϊ _)).alloc _) ⟨w7.heap.size,0,ν⟩ 1 1 [ξ κ S] rfl rfl ?c1 ?c2 ?c3 ?c4 ?c5 ?_
        case c1=>(intro j u hu;match j,hu with|0,hu=>(simp at hu;subst hu;simp[go_sem,Addr.add]))
        case c2=>simp[Value.oneCell']
        case c3=>(simp only[maxLen];omega)
        case c4=>omega
        case c5=>(simp;omega)
        intro v' w9 afa aeH;have HO9:=ψ afa;have HG9:=ψ aeH;clear afa aeH))
    all_goals
     go_wp2;go_roundw;case rel=>exact⟨i+1,by omega,by go_num,ψ (by
      rw[oJ HX.e,List.map_append];simp only[List.map_cons,List.map_nil,<-HS.e];exact HO9.e),(HB.e.trans ((QW.e.alloc (by omega) _).mono zq)).grown HG9.e (by simp;omega) (λk hk=>ei Ht.e k hk)⟩
     case measure=>simp[RowKit.intOf];omega
   ·obtain rfl:i=n9:=by omega
    have e:(aD b).take i=aD b:=List.take_of_length_le (by rw[<-Bo.e];exact ϊ _)
    have aG:=Ht.e;rw[e] at aG;obtain⟨f,hf⟩:∃f,f=(aD b).map λL=>sg L (wU b.pieces.length):=⟨_,rfl⟩
    have ql:f.length=i:=by rw[hf,List.length_map,<-Bo.e]
    have hr:=Ih (l:=f) (show wq.ownsRow w6.heap.size 3 1 _ f.length (f.map (ξ κ)) by rw[ql,hf,List.map_map];exact aG)
    have hse:yO f=Br b:=by rw[hf];rfl
    have L1:=ψ (afW hr (ϊ _) (by omega))
    rw[hse] at L1;obtain⟨q,hq⟩:∃q,(Br b).length=q+1:=⟨(Br b).length - 1,by have:=SE.e.1;omega⟩
    obtain⟨-,s0,s1⟩:=SE.e;rw[hq,show q+1 - 1=q by omega] at s1
    obtain⟨T,hT⟩:∃T,T=oK (aD b):=⟨_,rfl⟩
    rw[<-hT] at s0 s1;have HS:=ψ (And.intro s0 s1);have HTT:=ψ hT;have HQ:=ψ hq;have aq8:q<=1000:=by
     have h1:=afO f;rw[hse,hq] at h1;omega
    clear aG hr e s0 s1 hT hq hse ql hf hb kq;go_wp2_with (first
     | (go_at_call 106;refine L1.e.mono ?_;rintro e w7 ⟨u,rfl,U0,jx⟩
        rw[HQ.e] at U0;obtain⟨A7,n7,c7,rfl⟩:=j8 U0;have hn7:=Be U0;subst hn7;obtain⟨g7,rfl⟩:=Ww U0 (by omega)
        have x0: w7.cell? ⟨g7,0,ν⟩=φ (ξ κ T.lo):=by
         have:=vT U0 0 _ (by rw[List.getElem?_map,HS.e.1];rfl)
         rwa[nu] at this
        have x1: w7.cell? ⟨g7,q,ν⟩=φ (ξ κ T.hi):=by
         have:=vT U0 q _ (by rw[List.getElem?_map,HS.e.2];rfl)
         rwa[nu] at this
        have kt:=((KT.e.below eM.e (by omega)).below HB.e (by omega)).below jx (by omega)
        have y0:=kt.frozen 0;have y1:=kt.frozen 1;have r0: w7.cell? ⟨w.heap.size+1,0,ν⟩=φ (ξ κ 0):=kt.cell 0;have r1: w7.cell? ⟨w.heap.size+1,1,ν⟩=φ (ξ κ 0):=kt.cell 1;have QW:Hid (Γ w.heap.size w w7):=ψ (BW.e.trans ((eM.e.mono (by omega)).trans ((HB.e.mono (by omega)).trans (jx.mono (by omega)))))
        clear kt jx U0))
    have q1:(q:Int)<((q+1:Nat):Int):=by omega
    have q2:IntKind.i64.wrap (((q+1:Nat):Int) - 1)=q:=by rw[IntWalk.i64_in _ (by omega)];omega
    have q3:(0:Int)<((q+1:Nat):Int):=by omega
    go_region
    all_goals
     go_wp2;refine bodyPost_ret (v:=μ #[η #[ξ κ T.lo,ξ κ T.hi],ξ κ 0]) (by simp[results,Tryz.results27,go_sem,r0,r1]) rfl ⟨by rw[ht.e,HTT.e],?_⟩
     refine iY ?_
     repeat refine Below.setCell ?_ (by simp) _
     exact QW.e
 ·have hz:(os !=0)=θ:=by simpa using ho
  have ht:Hid (yR b=⟨0,0⟩):=ψ (by unfold yR;rw[if_neg (by rw[<-wz.e];exact ho)])
  clear ho;go_enter func27,Tryz.ntmps27;go_wp2_with (first
   | (rw[<-z8]
      go_at_call 103;refine aB.e.mono ?_;rintro e w6 ⟨v,ts,rfl,aG,il,fI⟩
      obtain⟨A9,n9,c9,rfl⟩:=j8 aG.1;have kt:=KT.e.below fI (by omega)
      have y0:=kt.frozen 0;have y1:=kt.frozen 1;have r0: w6.cell? ⟨w.heap.size+1,0,ν⟩=φ (ξ κ 0):=kt.cell 0;have r1: w6.cell? ⟨w.heap.size+1,1,ν⟩=φ (ξ κ 0):=kt.cell 1;have gU:Hid (Γ w.heap.size w w6):=ψ (BW.e.trans (fI.mono (by omega)))
      clear fI aG il kt))
  refine bodyPost_ret (v:=μ #[η #[ξ κ 0,ξ κ 0],ξ κ os]) (by simp[results,Tryz.results27,go_sem,r0,r1]) rfl ⟨by rw[ht.e],?_⟩
  repeat refine Below.setCell ?_ (by simp) _
  exact gU.e
end Go.Tw
