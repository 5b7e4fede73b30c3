import Derived.Test.YtfifdjajcogccaaGreatDoorZ02
import Derived.Test.YtfifdjajcogccaaGreatDoorZ01
import Derived.Deep.RegionWith
import Derived.Deep.RegionLaw
import Derived.Shelf.Small.Bits
import Derived.Laws.AppendOwnNone
set_option linter.all false
set_option maxHeartbeats 64000000
set_option maxRecDepth 100000
open And renaming intro -> ϐ
open Array renaming getElem?_eq_some_iff -> Ϟ
open Bool renaming and_eq_true -> Aa3, or_eq_false_iff -> Aid, and_eq_false_iff -> Aie
open Classical renaming byContradiction -> Aa5
open Go renaming Calls -> ύ, maxLen -> ϖ, Addr -> ϕ, info_parts -> Agv, heap_alloc_new -> Aif, wpList_append_own -> Agz, TypeId -> ϋ, wpStill_nil -> Agy
open Go.Calls renaming quiet_of_same -> Aig
open Go.IntKind renaming i64 -> ϛ
open Go.Lib renaming run_eql_slice_nil -> Aih, compareInt -> Aii, compactUpTo -> Aij
open Go.RowKit renaming intOf -> ϗ
open Go.RowKit.Below renaming refl -> ώ, heap_setCell -> Ag7
open Go.Value renaming int -> ϟ
open Go.World renaming cell?_alloc_lt -> Afu, cell?_of_block -> Aik, cell?_setCell_far -> Ail, drewN -> Aim
open Int renaming ofNat -> Ain
open List renaming mem_of_getElem? -> ϡ, getElem?_map -> Ahs, flatMap_cons -> Ahq, length_append -> Ahr, length_cons -> Ahi, nil_append -> Ahm, getElem?_of_mem -> Aio, set_cons_succ -> Aip, map_cons -> Aiq, getElem?_eq_some_iff -> ϸ, length_map -> Ah6, mem_map -> Ahw, getElem?_eq_getElem -> Af2, mem_append -> Af1, drop_eq_getElem_cons -> Air, drop_eq_nil_of_le -> Ais, range -> Θ, range_succ -> Ah0, map_map -> Ait, mergeSort_perm -> Aiu, pairwise_mergeSort -> Aiv, getElem_of_mem -> Aiw, pairwise_iff_getElem -> Aix, mem_singleton -> Afx, pairwise_cons -> Aiy, mem_cons -> ϣ, eq_nil_of_length_eq_zero -> Ah5, getElem?_set -> Aiz, any_eq_true -> Ai0, any_eq_false -> Ai1, take_succ_cons -> Agb, take_zero -> Agc, drop_succ_cons -> Agd, drop_zero -> Age, map_append -> Ahy, getElem?_eq_none -> Ah1, take_of_length_le -> Af8, getElem?_range -> Ai2, length_take_le -> Af7, mem_range -> Ahx, flatMap_append -> Ahp, map_congr_left -> Ai3, length -> Ai4
open Nat renaming le_refl -> ϊ, zero_le -> ϝ, le_trans -> ϧ, zero_add -> Ai5, le_of_lt -> Agl, le_of_eq -> Agi, mul_one -> Agj, pow_le_pow_right -> Aib, lt_succ_iff_lt_or_eq -> Agh, lt_succ_self -> Ai6
open Prod renaming fst -> Ai7
open Bool renaming true -> θ, false -> χ
open Go renaming Value -> υ, undef -> ω, World -> Ψ
open Go.Ending renaming returned -> Ω
open Go.IntKind renaming i64 -> κ
open Go.Lib renaming hid -> ψ
open Go.Obj renaming cells -> Ξ
open Go.RowKit renaming Below -> Γ, Below -> Γ
open Go.Value renaming slice -> ζ, tuple -> μ, agg -> η, int -> ξ
open Option renaming some -> φ, none -> ν
namespace Go.Tw
variable [Go.Tw.aR]
open Go Go.Proofs Go.RowKit
def akj{a c a' c':Int}{s:υ}(h:a=a')(h':c=c'):Ending.returned (μ #[ξ κ a,ξ κ c,s])=Ω (μ #[ξ κ a',ξ κ c',s]):=by rw[h,h']
def aha{L:an}(h:L.Ok){k:Nat}(hk:k<3):lI (L.at k):=by
 have:=h k;unfold lI;omega
def Zn{w:Ψ}{b:ao}{pv bv tv:υ}{B:Nat}(hB:B<=w.heap.size)(ai:bg w B b pv bv tv)(h:cj b 0=0):
 ύ prog 61 #[η #[ξ κ b.ag,pv,bv,tv]] w λe w'=>e=Ω (μ #[ξ κ (Cu b).1,ξ κ (Cu b).2,ξ κ 0])/\Γ w.heap.size w w':=by
 have st:Δ B w (w.alloc (Ξ #[ξ κ b.ag,pv,bv,tv] 26)):=(Δ.refl w).alloc hB _;have aB:=ψ (yL (w:=(w.alloc (Ξ #[ξ κ b.ag,pv,bv,tv] 26))) (B:=B) (by simp;omega) (ai.still st) (Gp (ai.still st)) h)
 have hz:=pq h;have hv:=iy hz.1;have aeZ:=Ct hv;have Zd:=ψ (uG hv);obtain⟨A1,n1,c1,rfl,e1,h1,eA,-⟩:=ai.pieces.Φ;obtain⟨A2,n2,c2,rfl,-⟩:=ai.aF.Φ;obtain⟨A3,n3,c3,rfl,-⟩:=ai.aJ.Φ;have lQ:n1<=3:=by have:=hv.np;omega
 have E1:=ψ e1;unfold ϖ at eA;clear ai st hz hv h e1;go_enter func61,Tryz.ntmps61;go_wp2_with (first
  | (go_at_call 98;refine aB.e.mono ?_;rintro e w1 ⟨sv,rfl,aG,ae⟩
     obtain⟨A9,n9,c9,rfl,cY,nG,py,iN⟩:=aG.row.Φ;have lF:=ψ iN;have pO:=ψ cY;have kk:Hid (Bk w1 w.heap.size 26 #[ξ κ b.ag,ζ A1 n1 c1,ζ A2 n2 c2,ζ A3 n3 c3]):=ψ ((Bk.new w _ _).below ae (by simp))
     have aN:w.heap.size+1<=w1.heap.size:=by have:=ae.size;simpa using this
     have afb:n9<=27:=by omega
     have aY:Hid (Γ w.heap.size w w1):=ψ ((((ώ _ _).alloc (ϊ _) _)).trans (ae.mono (by simp)));clear ae aG cY iN))
 have hB0:w.heap.size<w1.heap.size:=by omega
 have KH:Hid (n9=(aD b).length):=ψ pO.e.symm;have q4:(w1.alloc (Ξ #[ξ κ b.ag,ζ A1 n1 c1,ζ A2 n2 c2,ζ A3 n3 c3,ζ A9 n9 c9] 122)).cell? ⟨w1.heap.size,4,ν⟩=φ (ζ A9 n9 c9):=(Bk.new _ _ _).cell 4;have q1:(w1.alloc (Ξ #[ξ κ b.ag,ζ A1 n1 c1,ζ A2 n2 c2,ζ A3 n3 c3,ζ A9 n9 c9] 122)).cell? ⟨w.heap.size,1,ν⟩=φ (ζ A1 n1 c1):=(kk.e.alloc _).cell 1;go_region
 go_wp2;clear q4 q1;go_loopw [2,3,25] (λu2 u3 u wr=>∃k:Nat,k<=n1/\u=ξ κ k/\u2=ξ κ (gZ b k).1/\u3=ξ κ (gZ b k).2/\Hid (Γ (w1.heap.size+1) (w1.alloc (Ξ #[ξ κ b.ag,ζ A1 n1 c1,ζ A2 n2 c2,ζ A3 n3 c3,ζ A9 n9 c9] 122)).drew wr)) (λ_ _ u _=>n1 - (ϗ u).toNat)
 case atStart=>exact⟨0,ϝ _,rfl,rfl,by rw[KH.e];rfl,ψ (ώ _ _)⟩
 case round=>
  obtain⟨wo,rfl⟩:∃wo:Ψ,wo=wr:=⟨_,rfl⟩
  obtain⟨k,hk,rfl,rfl,rfl,hb⟩:=hrel;have bt:=Ry b k;obtain⟨pk,AD⟩:∃pk,pk=(gZ b k).1:=⟨_,rfl⟩
  obtain⟨lk,Hp⟩:∃lk,lk=(gZ b k).2:=⟨_,rfl⟩
  rw[<-AD,<-Hp] at bt |-
  have zp:=ψ (ϐ AD Hp);clear AD Hp;have rV:w1.heap.size+1<=wo.heap.size:=by have:=hb.e.size;simpa using this
  have kb:Bk wo w1.heap.size 122 #[ξ κ b.ag,ζ A1 n1 c1,ζ A2 n2 c2,ζ A3 n3 c3,ζ A9 n9 c9]:=Bk.below (w:=(w1.alloc (Ξ #[ξ κ b.ag,ζ A1 n1 c1,ζ A2 n2 c2,ζ A3 n3 c3,ζ A9 n9 c9] 122)).drew) (Bk.new w1 _ _) hb.e (by simp)
  have kb4:(wo.alloc (.map #[] 0)).cell? ⟨w1.heap.size,4,ν⟩=φ (ζ A9 n9 c9):=(kb.alloc _).cell 4;have vG:w1.heap.size<wo.heap.size:=by omega
  have hz5:w1.heap.size<=wo.heap.size:=by omega
  clear kb;by_cases al:k<n1
  ·have fh:k<3:=by omega
   have aeJ:(k:Int)<3:=by omega
   go_wp2_with (first| (refine anc rfl 174 rfl ?_))
   go_loopw [8,32] (λu8 u wr=>∃j:Nat,j<=n9/\u=ξ κ j/\u8=ξ κ (lZ ((aD b).map (·.at k)) j)/\Hid (oN wr wo.heap.size j (((aD b).map (·.at k)).take j))/\Hid (Γ wo.heap.size wo wr)) (λ_ u _=>n9 - (ϗ u).toNat)
   case atStart=>exact⟨0,ϝ _,rfl,rfl,ψ (oN.made wo),ψ ((ώ _ _).alloc (ϊ _) _)⟩
   case round=>
    obtain⟨wp,rfl⟩:∃wp:Ψ,wp=wr:=⟨_,rfl⟩
    obtain⟨j,hj,rfl,rfl,HC,ak⟩:=hrel;have hm:=OW ((aD b).map (·.at k)) j
    obtain⟨mj,NG⟩:∃mj,mj=lZ ((aD b).map (·.at k)) j:=⟨_,rfl⟩
    rw[<-NG] at hm |-
    have Q6:=ψ NG;clear NG;have Vw:wo.heap.size<wp.heap.size:=HC.e.lt;by_cases hjt:j<n9
    ·obtain⟨ad,x,cs,kX,aC,hx,rfl,-,au⟩:=lF.e j hjt
     subst kX;have ow:Γ w1.heap.size w1 (w1.alloc (Ξ #[ξ κ b.ag,ζ A1 n1 c1,ζ A2 n2 c2,ζ A3 n3 c3,ζ (φ ad) n9 c9] 122)).drew:=iY ((ώ w1.heap.size w1).alloc (ϊ _) _);have TX:Γ w1.heap.size w1 wp:=(ow.trans (hb.e.mono (Nat.le_succ _))).trans (ak.e.mono (by omega))
     have nV:Hid (Γ w1.heap.size w1 wp):=ψ TX;clear ow TX;have st:Δ w1.heap.size w1 wp:=Δ.aK nV.e (ϊ _);have g0:=cC au st aC rfl;have g1:=bK au st aC 0 rfl;have g2:=bK au st aC 1 rfl;have xD:(ad.add (j * 3)).block<wp.heap.size:=by rw[cq];omega
     have HX:=ψ hx;obtain⟨v,hv⟩:∃v,v=x.at k:=⟨_,rfl⟩
     have Hz:lI v:=by rw[hv];exact aha (Zd.e x (ϡ hx)) fh
     have SM:=ψ Hz;have gk:(wp.alloc (Ξ #[ξ κ x.a,ξ κ x.b,ξ κ x.c] 128)).cell? ⟨wp.heap.size,k,ν⟩=φ (ξ κ v):=by rw[hv];exact(Bk.new wp _ _).cell k|>.trans (an.uR (n:=x) fh)
     have HV:=ψ hv;have Ua:((aD b).map (·.at k)).take (j+1)=((aD b).map (·.at k)).take j++ [v]:=by
      rw[List.take_add_one,Ahs,hx];simp[hv]
     have Hk:((aD b).map (·.at k)).getD j 0=v:=by
      rw[List.getD_eq_getElem?_getD,Ahs,hx];simp[hv]
     have Kw:=ψ (ϐ Ua Hk);obtain⟨cn,Na⟩:∃cn,cn=(((aD b).map (·.at k)).take j).count v:=⟨_,rfl⟩
     have an7:cn<=j:=by rw[Na];exact ϧ List.count_le_length (by simp;omega)
     have yo:ϛ.wrap ((cn:Int)+1)=(cn:Int)+1:=by rw[IntWalk.i64_left];exact IntWalk.wrap64_in _ (by omega)
     have Kv:=ψ Na;have aoz:n9<ϖ:=by unfold ϖ;omega
     clear hx au st Hz hv Ua Hk Na;go_wp2_with (first
      | (at_lookup;refine Yd rfl (.tmp 36) (.tmp 39) rfl wo.heap.size j _ v SM.e rfl rfl (HC.e.kept (World.grownBy_alloc wp _ ν) nofun) ?_;rw[<-Kv.e])
      | (at_mapUpdate;refine ane rfl (.tmp 36) (.tmp 39) (.tmp 41) rfl wo.heap.size j _ v SM.e (by omega) ?hc rfl rfl (by rw[<-Kv.e];try rfl) (HC.e.kept (World.grownBy_alloc wp _ ν) nofun) ?_
         case hc=>(rw[<-Kv.e];unfold ϖ;omega)
         rw[<-Kw.e.1];intro w2 ef kG;have wP:=ψ ef;have gk2: w2.cell? ⟨wp.heap.size,k,ν⟩=φ (ξ κ v):=Z9 kG Vw fh HV.e;have YD:=ψ kG;clear ef kG)
      | (at_lookup;refine Yd rfl (.tmp 43) (.tmp 46) rfl wo.heap.size (j+1) _ v SM.e rfl rfl wP.e ?_))
     go_roundw;case rel=>exact⟨j+1,by omega,by go_num,by
      rw[Q6.e];conv=>rhs;unfold lZ
      rw[Kw.e.1,Kw.e.2],wP,
      ψ ((ak.e.trans ((ώ wo.heap.size wp).alloc (by omega) _)).grown YD.e (by simp;omega) (λq hq=>by injection hq with hq;omega))⟩
     case measure=>simp[ϗ];omega
    ·obtain rfl:j=n9:=by omega
     have UR:mj=lZ ((aD b).map (·.at k)) (aD b).length:=by rw[Q6.e,<-pO.e]
     have va:Hid (Γ (w1.heap.size+1) (w1.alloc (Ξ #[ξ κ b.ag,ζ A1 n1 c1,ζ A2 n2 c2,ζ A3 n3 c3,ζ A9 j c9] 122)).drew wp):=ψ (hb.e.trans (ak.e.mono rV));have F8:=ψ UR;clear UR;by_cases Ho:mj<lk
     ·go_wp2
      go_roundw;case rel=>exact⟨k+1,by omega,by go_num,by
       rw[Rz zp.e F8.e Ho],by
       rw[Rz zp.e F8.e Ho],va⟩
      case measure=>simp[ϗ];omega
     ·go_wp2
      go_roundw;case rel=>exact⟨k+1,by omega,by go_num,by
       rw[Rx zp.e F8.e Ho],by
       rw[Rx zp.e F8.e Ho],va⟩
      case measure=>simp[ϗ];omega
  ·obtain rfl:k=n1:=by omega
   go_wp2
   go_ret3
   refine⟨akj ?_ ?_,?_⟩
   ·rw[zp.e.1];unfold Cu;rw[E1.e]
   ·rw[zp.e.2];unfold Cu;rw[E1.e]
   ·exact aY.e.trans ((iY ((ώ w1.heap.size w1).alloc (ϊ _) _)).trans (hb.e.mono (Nat.le_succ _)) |>.mono (by omega))
def Te{α:Type}{f:α->List υ}{sz:Nat}(hf:∀x,(f x).length=sz):∀(l:List α) (j:Nat) (u:υ),(l.flatMap f)[j]?=φ u->∃i x r,l[i]?=φ x/\(f x)[r]?=φ u/\j=i * sz+r
 | [],j,u,h=>by simp at h
 |a::l,j,u,h=>by
  rw[Ahq] at h;by_cases hj:j<(f a).length
  ·rw[List.getElem?_append_left hj] at h
   exact⟨0,a,j,rfl,h,by omega⟩
  ·rw[List.getElem?_append_right (by omega),hf] at h
   obtain⟨i,x,r,h1,h2,h3⟩:=Te hf l _ u h;rw[hf] at hj;exact⟨i+1,x,r,by simpa using h1,h2,by rw[Nat.add_mul];omega⟩
def zT{α:Type}{f:α->List υ}{sz:Nat}(hf:∀x,(f x).length=sz):∀(l:List α),(l.flatMap f).length=l.length * sz
 | []=>by simp
 |a::l=>by rw[Ahq,Ahr,hf,zT hf l,Ahi,Nat.add_mul];omega
def CZ{α:Type}{f:α->List υ}(l:List α)(hf:∀x∈l,∀u∈f x,u.oneCell'=θ):∀u∈l.flatMap f,u.oneCell'=θ:=by
 intro u hu;obtain⟨x,h,hx⟩:=List.mem_flatMap.1 hu;exact hf x h u hx
def Row.cells{α:Type}{w:Ψ}{B sz:Nat}{f:α->List υ}{ad:ϕ}{c:Nat}{l:List α}(h:Row w B sz (λx cs=>cs=f x) (ζ (φ ad) l.length c) l)(hf:∀x,(f x).length=sz):
 (∀j u,(l.flatMap f)[j]?=φ u-> w.cell? (ad.add j)=φ u)/\(l≠ []->ad.block<B):=by
 obtain⟨A,c',hv,h1,h2,h3⟩:=h;injection hv with hA
 refine⟨λj u hu=>?_,λaw=>?_⟩
 ·obtain⟨i,x,r,e1,e2,e3⟩:=Te hf l j u hu
  obtain⟨Cs,uZ,_,hc⟩:=h3 (by intro e;rw[e] at e1;simp at e1)
  obtain⟨cs,rfl,_,au⟩:=hc i x e1;rw[uZ] at hA;injection hA with hA
  subst hA;rw[e3];exact au r u e2
 ·obtain⟨Cs,uZ,hb,_⟩:=h3 aw
  rw[uZ] at hA;injection hA with hA
  subst hA;exact hb
def agi:(prog.info? 72).map (λi=>(i.zero,i.size,i.bytes))=φ (φ (η #[.string {data:=#[]},ξ κ 0,ξ κ 0,ξ κ 0]),4,40):=by
 rw[pB];kernel_rfl
def aaI{ad:ϕ}{n c:Nat}{news:List υ}{w:Ψ}(hl:news.length=n * 4)(hc:∀j u,news[j]?=φ u-> w.cell? (ad.add j)=φ u)(h1:∀u∈news,u.oneCell'=θ)(hn:n<=1000000)(aC:news≠ []->ad.block<w.heap.size):
 ύ prog 155 #[ζ (φ ad) n c] w λe w'=>∃v,e=Ω v/\w'.ownsRow w.heap.size 72 4 v n news/\Γ w.heap.size w w':=by
 obtain⟨i0,cR,cT,aN,ba⟩:=Agv agi;have dv:=ψ (ϐ cR (ϐ cT (ϐ aN ba)));have HC:Hid (∀j u,news[j]?=φ u->(w.alloc (Ξ #[] 72)).cell? (ad.add j)=φ u):=ψ (λj u hu=>(Afu w _ _ (by rw[cq];exact aC (by intro e;rw[e] at hu;simp at hu))).trans (hc j u hu))
 have HL:=ψ (ϐ hl h1);have HO:Hid ((w.alloc (Ξ #[] 72)).ownsRow w.heap.size 72 4 (ζ (φ ⟨w.heap.size,0,ν⟩) 0 0) 0 []):=ψ ⟨rfl,.inr ⟨w.heap.size,0,#[],rfl,ϊ _,Aif w _,ϊ _,by unfold ϖ;omega,rfl,rfl⟩⟩
 clear hl hc h1 cR cT aN ba aC;have q:∀(w:Ψ) (a:Option ϕ) (n c n' c':Nat),(binOp .eql 22 (ζ a n c) (ζ ν n' c')).run prog w=.ok (.bool a.isNone) w:=λw a n c n' c'=>Aih w _ _ a n c n' c' (U Tryz.underlying22)
 go_enter func155,Tryz.ntmps155;go_wp2_with (first
  | (at_builtin
     refine Agz _ rfl (.tmp 5) (.tmp 6) 22 rfl w.heap.size 72 i0 (η #[.string {data:=#[]},ξ κ 0,ξ κ 0,ξ κ 0]) 4 40 (U Tryz.underlying22) dv.e.1 dv.e.2.1 dv.e.2.2.1 dv.e.2.2.2 rfl (by decide) _ 0 _ rfl HO.e ad n c news rfl HL.e.1 HC.e HL.e.2 ?c3 ?c4 ?c5 ?_
     case c3=>(simp only[ϖ];omega)
     case c4=>omega
     case c5=>simp
     intro v' w1 cK dT _;have gW:=ψ cK;have gV:=ψ dT;clear cK dT))
 go_ret;refine⟨_,rfl,by have:=gW.e;rwa[Ai5,Ahm] at this,((ώ _ _).alloc (ϊ _) _).grown gV.e (by simp) (λk hk=>ei HO.e k hk)⟩
def aaH(n c:Nat)(w:Ψ):ύ prog 155 #[ζ ν n c] w λe w'=>e=Ω (ζ ν 0 0)/\w=w':=by
 have q:∀(w:Ψ) (a:Option ϕ) (n c n' c':Nat),(binOp .eql 22 (ζ a n c) (ζ ν n' c')).run prog w=.ok (.bool a.isNone) w:=λw a n c n' c'=>Aih w _ _ a n c n' c' (U Tryz.underlying22)
 go_enter func155,Tryz.ntmps155;go_wp2;go_ret;exact⟨rfl,rfl⟩
def aaG{α:Type}{f:α->List υ}{v:υ}{l:List α}{w:Ψ}{B:Nat}(h:Row w B 4 (λx cs=>cs=f x) v l)(hB:B<=w.heap.size)(hf:∀x,(f x).length=4)(h1:∀x∈l,∀u∈f x,u.oneCell'=θ)(hn:l.length<=1000000):
 ύ prog 155 #[v] w λe w'=>∃v',e=Ω v'/\w'.ownsRow w.heap.size 72 4 v' l.length (l.flatMap f)/\Γ w.heap.size w w':=by
 obtain⟨A,c,rfl,-⟩:=id h;cases A with
 |none=>
  have hl:l=[]:=by
   obtain⟨A,c',hv,h1,h2,h3⟩:=h;injection hv with hA
   refine Aa5 λaw=>?_
   obtain⟨ad,ha,_⟩:=h3 aw;rw[ha] at hA;cases hA
  subst hl;refine(aaH _ _ w).mono ?_
  rintro e w' ⟨rfl,rfl⟩;exact⟨_,rfl,⟨rfl,.inl ⟨rfl,rfl⟩⟩,ώ _ _⟩
 |some ad=>
  have hc:=h.cells hf;exact aaI (zT hf l) hc.1 (CZ l h1) hn (λaw=>by
   have:=hc.2 (by intro e;rw[e] at aw;simp at aw);omega)
def VI:(prog.info? 59).map (λi=>(i.zero,i.size,i.bytes))=φ (φ (η #[.string {data:=#[]},ξ κ 0,ζ ν 0 0]),3,48):=by
 rw[pB];kernel_rfl
def aaB{ad:ϕ}{n c:Nat}{news:List υ}{w:Ψ}(hl:news.length=n * 3)(hc:∀j u,news[j]?=φ u-> w.cell? (ad.add j)=φ u)(h1:∀u∈news,u.oneCell'=θ)(hn:n<=1000000)(aC:news≠ []->ad.block<w.heap.size):
 ύ prog 135 #[ζ (φ ad) n c] w λe w'=>∃v,e=Ω v/\w'.ownsRow w.heap.size 59 3 v n news/\Γ w.heap.size w w':=by
 obtain⟨i0,cR,cT,aN,ba⟩:=Agv VI;have dv:=ψ (ϐ cR (ϐ cT (ϐ aN ba)));have HC:Hid (∀j u,news[j]?=φ u->(w.alloc (Ξ #[] 59)).cell? (ad.add j)=φ u):=ψ (λj u hu=>(Afu w _ _ (by rw[cq];exact aC (by intro e;rw[e] at hu;simp at hu))).trans (hc j u hu))
 have HL:=ψ (ϐ hl h1);have HO:Hid ((w.alloc (Ξ #[] 59)).ownsRow w.heap.size 59 3 (ζ (φ ⟨w.heap.size,0,ν⟩) 0 0) 0 []):=ψ ⟨rfl,.inr ⟨w.heap.size,0,#[],rfl,ϊ _,Aif w _,ϊ _,by unfold ϖ;omega,rfl,rfl⟩⟩
 clear hl hc h1 cR cT aN ba aC;have q:∀(w:Ψ) (a:Option ϕ) (n c n' c':Nat),(binOp .eql 23 (ζ a n c) (ζ ν n' c')).run prog w=.ok (.bool a.isNone) w:=λw a n c n' c'=>Aih w _ _ a n c n' c' (U Tryz.underlying23)
 go_enter func135,Tryz.ntmps135;go_wp2_with (first
  | (at_builtin
     refine Agz _ rfl (.tmp 5) (.tmp 6) 23 rfl w.heap.size 59 i0 (η #[.string {data:=#[]},ξ κ 0,ζ ν 0 0]) 3 48 (U Tryz.underlying23) dv.e.1 dv.e.2.1 dv.e.2.2.1 dv.e.2.2.2 rfl (by decide) _ 0 _ rfl HO.e ad n c news rfl HL.e.1 HC.e HL.e.2 ?c3 ?c4 ?c5 ?_
     case c3=>(simp only[ϖ];omega)
     case c4=>omega
     case c5=>simp
     intro v' w1 cK dT _;have gW:=ψ cK;have gV:=ψ dT;clear cK dT))
 go_ret;refine⟨_,rfl,by have:=gW.e;rwa[Ai5,Ahm] at this,((ώ _ _).alloc (ϊ _) _).grown gV.e (by simp) (λk hk=>ei HO.e k hk)⟩
def aaA(n c:Nat)(w:Ψ):ύ prog 135 #[ζ ν n c] w λe w'=>e=Ω (ζ ν 0 0)/\w=w':=by
 have q:∀(w:Ψ) (a:Option ϕ) (n c n' c':Nat),(binOp .eql 23 (ζ a n c) (ζ ν n' c')).run prog w=.ok (.bool a.isNone) w:=λw a n c n' c'=>Aih w _ _ a n c n' c' (U Tryz.underlying23)
 go_enter func135,Tryz.ntmps135;go_wp2;go_ret;exact⟨rfl,rfl⟩
def Su{α:Type}{f:α->List υ}{v:υ}{l:List α}{w:Ψ}{B:Nat}(h:Row w B 3 (λx cs=>cs=f x) v l)(hB:B<=w.heap.size)(hf:∀x,(f x).length=3)(h1:∀x∈l,∀u∈f x,u.oneCell'=θ)(hn:l.length<=1000000):
 ύ prog 135 #[v] w λe w'=>∃v',e=Ω v'/\w'.ownsRow w.heap.size 59 3 v' l.length (l.flatMap f)/\Γ w.heap.size w w':=by
 obtain⟨A,c,rfl,-⟩:=id h;cases A with
 |none=>
  have hl:l=[]:=by
   obtain⟨A,c',hv,h1,h2,h3⟩:=h;injection hv with hA
   refine Aa5 λaw=>?_
   obtain⟨ad,ha,_⟩:=h3 aw;rw[ha] at hA;cases hA
  subst hl;refine(aaA _ _ w).mono ?_
  rintro e w' ⟨rfl,rfl⟩;exact⟨_,rfl,⟨rfl,.inl ⟨rfl,rfl⟩⟩,ώ _ _⟩
 |some ad=>
  have hc:=h.cells hf;exact aaB (zT hf l) hc.1 (CZ l h1) hn (λaw=>by
   have:=hc.2 (by intro e;rw[e] at aw;simp at aw);omega)
def Oq:(prog.info? 95).map (λi=>(i.zero,i.size,i.bytes))=φ (φ (η #[ζ ν 0 0,ξ κ 0,ξ κ 0]),3,40):=by
 rw[pB];kernel_rfl
def aaO{ad:ϕ}{n c:Nat}{news:List υ}{w:Ψ}(hl:news.length=n * 3)(hc:∀j u,news[j]?=φ u-> w.cell? (ad.add j)=φ u)(h1:∀u∈news,u.oneCell'=θ)(hn:n<=1000000)(aC:news≠ []->ad.block<w.heap.size):
 ύ prog 158 #[ζ (φ ad) n c] w λe w'=>∃v,e=Ω v/\w'.ownsRow w.heap.size 95 3 v n news/\Γ w.heap.size w w':=by
 obtain⟨i0,cR,cT,aN,ba⟩:=Agv Oq;have dv:=ψ (ϐ cR (ϐ cT (ϐ aN ba)));have HC:Hid (∀j u,news[j]?=φ u->(w.alloc (Ξ #[] 95)).cell? (ad.add j)=φ u):=ψ (λj u hu=>(Afu w _ _ (by rw[cq];exact aC (by intro e;rw[e] at hu;simp at hu))).trans (hc j u hu))
 have HL:=ψ (ϐ hl h1);have HO:Hid ((w.alloc (Ξ #[] 95)).ownsRow w.heap.size 95 3 (ζ (φ ⟨w.heap.size,0,ν⟩) 0 0) 0 []):=ψ ⟨rfl,.inr ⟨w.heap.size,0,#[],rfl,ϊ _,Aif w _,ϊ _,by unfold ϖ;omega,rfl,rfl⟩⟩
 clear hl hc h1 cR cT aN ba aC;have q:∀(w:Ψ) (a:Option ϕ) (n c n' c':Nat),(binOp .eql 24 (ζ a n c) (ζ ν n' c')).run prog w=.ok (.bool a.isNone) w:=λw a n c n' c'=>Aih w _ _ a n c n' c' (U Tryz.underlying24)
 go_enter func158,Tryz.ntmps158;go_wp2_with (first
  | (at_builtin
     refine Agz _ rfl (.tmp 5) (.tmp 6) 24 rfl w.heap.size 95 i0 (η #[ζ ν 0 0,ξ κ 0,ξ κ 0]) 3 40 (U Tryz.underlying24) dv.e.1 dv.e.2.1 dv.e.2.2.1 dv.e.2.2.2 rfl (by decide) _ 0 _ rfl HO.e ad n c news rfl HL.e.1 HC.e HL.e.2 ?c3 ?c4 ?c5 ?_
     case c3=>(simp only[ϖ];omega)
     case c4=>omega
     case c5=>simp
     intro v' w1 cK dT _;have gW:=ψ cK;have gV:=ψ dT;clear cK dT))
 go_ret;refine⟨_,rfl,by have:=gW.e;rwa[Ai5,Ahm] at this,((ώ _ _).alloc (ϊ _) _).grown gV.e (by simp) (λk hk=>ei HO.e k hk)⟩
def aaN(n c:Nat)(w:Ψ):ύ prog 158 #[ζ ν n c] w λe w'=>e=Ω (ζ ν 0 0)/\w=w':=by
 have q:∀(w:Ψ) (a:Option ϕ) (n c n' c':Nat),(binOp .eql 24 (ζ a n c) (ζ ν n' c')).run prog w=.ok (.bool a.isNone) w:=λw a n c n' c'=>Aih w _ _ a n c n' c' (U Tryz.underlying24)
 go_enter func158,Tryz.ntmps158;go_wp2;go_ret;exact⟨rfl,rfl⟩
def aaM{α:Type}{f:α->List υ}{v:υ}{l:List α}{w:Ψ}{B:Nat}(h:Row w B 3 (λx cs=>cs=f x) v l)(hB:B<=w.heap.size)(hf:∀x,(f x).length=3)(h1:∀x∈l,∀u∈f x,u.oneCell'=θ)(hn:l.length<=1000000):
 ύ prog 158 #[v] w λe w'=>∃v',e=Ω v'/\w'.ownsRow w.heap.size 95 3 v' l.length (l.flatMap f)/\Γ w.heap.size w w':=by
 obtain⟨A,c,rfl,-⟩:=id h;cases A with
 |none=>
  have hl:l=[]:=by
   obtain⟨A,c',hv,h1,h2,h3⟩:=h;injection hv with hA
   refine Aa5 λaw=>?_
   obtain⟨ad,ha,_⟩:=h3 aw;rw[ha] at hA;cases hA
  subst hl;refine(aaN _ _ w).mono ?_
  rintro e w' ⟨rfl,rfl⟩;exact⟨_,rfl,⟨rfl,.inl ⟨rfl,rfl⟩⟩,ώ _ _⟩
 |some ad=>
  have hc:=h.cells hf;exact aaO (zT hf l) hc.1 (CZ l h1) hn (λaw=>by
   have:=hc.2 (by intro e;rw[e] at aw;simp at aw);omega)
def agh:(prog.info? 37).map (λi=>(i.zero,i.size,i.bytes))=φ (φ (η #[ξ κ 0,ξ κ 0]),2,16):=by
 rw[pB];kernel_rfl
def aaL{ad:ϕ}{n c:Nat}{news:List υ}{w:Ψ}(hl:news.length=n * 2)(hc:∀j u,news[j]?=φ u-> w.cell? (ad.add j)=φ u)(h1:∀u∈news,u.oneCell'=θ)(hn:n<=1000000)(aC:news≠ []->ad.block<w.heap.size):
 ύ prog 179 #[ζ (φ ad) n c] w λe w'=>∃v,e=Ω v/\w'.ownsRow w.heap.size 37 2 v n news/\Γ w.heap.size w w':=by
 obtain⟨i0,cR,cT,aN,ba⟩:=Agv agh;have dv:=ψ (ϐ cR (ϐ cT (ϐ aN ba)));have HC:Hid (∀j u,news[j]?=φ u->(w.alloc (Ξ #[] 37)).cell? (ad.add j)=φ u):=ψ (λj u hu=>(Afu w _ _ (by rw[cq];exact aC (by intro e;rw[e] at hu;simp at hu))).trans (hc j u hu))
 have HL:=ψ (ϐ hl h1);have HO:Hid ((w.alloc (Ξ #[] 37)).ownsRow w.heap.size 37 2 (ζ (φ ⟨w.heap.size,0,ν⟩) 0 0) 0 []):=ψ ⟨rfl,.inr ⟨w.heap.size,0,#[],rfl,ϊ _,Aif w _,ϊ _,by unfold ϖ;omega,rfl,rfl⟩⟩
 clear hl hc h1 cR cT aN ba aC;have q:∀(w:Ψ) (a:Option ϕ) (n c n' c':Nat),(binOp .eql 57 (ζ a n c) (ζ ν n' c')).run prog w=.ok (.bool a.isNone) w:=λw a n c n' c'=>Aih w _ _ a n c n' c' (U Tryz.underlying57)
 go_enter func179,Tryz.ntmps179;go_wp2_with (first
  | (at_builtin
     refine Agz _ rfl (.tmp 5) (.tmp 6) 57 rfl w.heap.size 37 i0 (η #[ξ κ 0,ξ κ 0]) 2 16 (U Tryz.underlying57) dv.e.1 dv.e.2.1 dv.e.2.2.1 dv.e.2.2.2 rfl (by decide) _ 0 _ rfl HO.e ad n c news rfl HL.e.1 HC.e HL.e.2 ?c3 ?c4 ?c5 ?_
     case c3=>(simp only[ϖ];omega)
     case c4=>omega
     case c5=>simp
     intro v' w1 cK dT _;have gW:=ψ cK;have gV:=ψ dT;clear cK dT))
 go_ret;refine⟨_,rfl,by have:=gW.e;rwa[Ai5,Ahm] at this,((ώ _ _).alloc (ϊ _) _).grown gV.e (by simp) (λk hk=>ei HO.e k hk)⟩
def aaK(n c:Nat)(w:Ψ):ύ prog 179 #[ζ ν n c] w λe w'=>e=Ω (ζ ν 0 0)/\w=w':=by
 have q:∀(w:Ψ) (a:Option ϕ) (n c n' c':Nat),(binOp .eql 57 (ζ a n c) (ζ ν n' c')).run prog w=.ok (.bool a.isNone) w:=λw a n c n' c'=>Aih w _ _ a n c n' c' (U Tryz.underlying57)
 go_enter func179,Tryz.ntmps179;go_wp2;go_ret;exact⟨rfl,rfl⟩
def aaJ{α:Type}{f:α->List υ}{v:υ}{l:List α}{w:Ψ}{B:Nat}(h:Row w B 2 (λx cs=>cs=f x) v l)(hB:B<=w.heap.size)(hf:∀x,(f x).length=2)(h1:∀x∈l,∀u∈f x,u.oneCell'=θ)(hn:l.length<=1000000):
 ύ prog 179 #[v] w λe w'=>∃v',e=Ω v'/\w'.ownsRow w.heap.size 37 2 v' l.length (l.flatMap f)/\Γ w.heap.size w w':=by
 obtain⟨A,c,rfl,-⟩:=id h;cases A with
 |none=>
  have hl:l=[]:=by
   obtain⟨A,c',hv,h1,h2,h3⟩:=h;injection hv with hA
   refine Aa5 λaw=>?_
   obtain⟨ad,ha,_⟩:=h3 aw;rw[ha] at hA;cases hA
  subst hl;refine(aaK _ _ w).mono ?_
  rintro e w' ⟨rfl,rfl⟩;exact⟨_,rfl,⟨rfl,.inl ⟨rfl,rfl⟩⟩,ώ _ _⟩
 |some ad=>
  have hc:=h.cells hf;exact aaL (zT hf l) hc.1 (CZ l h1) hn (λaw=>by
   have:=hc.2 (by intro e;rw[e] at aw;simp at aw);omega)
def VG:(prog.info? 3).map (λi=>(i.zero,i.size,i.bytes))=φ (φ (ξ κ 0),1,8):=by
 rw[pB];kernel_rfl
def aaF{ad:ϕ}{n c:Nat}{news:List υ}{w:Ψ}(hl:news.length=n * 1)(hc:∀j u,news[j]?=φ u-> w.cell? (ad.add j)=φ u)(h1:∀u∈news,u.oneCell'=θ)(hn:n<=1000000)(aC:news≠ []->ad.block<w.heap.size):
 ύ prog 180 #[ζ (φ ad) n c] w λe w'=>∃v,e=Ω v/\w'.ownsRow w.heap.size 3 1 v n news/\Γ w.heap.size w w':=by
 obtain⟨i0,cR,cT,aN,ba⟩:=Agv VG;have dv:=ψ (ϐ cR (ϐ cT (ϐ aN ba)));have HC:Hid (∀j u,news[j]?=φ u->(w.alloc (Ξ #[] 3)).cell? (ad.add j)=φ u):=ψ (λj u hu=>(Afu w _ _ (by rw[cq];exact aC (by intro e;rw[e] at hu;simp at hu))).trans (hc j u hu))
 have HL:=ψ (ϐ hl h1);have HO:Hid ((w.alloc (Ξ #[] 3)).ownsRow w.heap.size 3 1 (ζ (φ ⟨w.heap.size,0,ν⟩) 0 0) 0 []):=ψ ⟨rfl,.inr ⟨w.heap.size,0,#[],rfl,ϊ _,Aif w _,ϊ _,by unfold ϖ;omega,rfl,rfl⟩⟩
 clear hl hc h1 cR cT aN ba aC;have q:∀(w:Ψ) (a:Option ϕ) (n c n' c':Nat),(binOp .eql 33 (ζ a n c) (ζ ν n' c')).run prog w=.ok (.bool a.isNone) w:=λw a n c n' c'=>Aih w _ _ a n c n' c' (U Tryz.underlying33)
 go_enter func180,Tryz.ntmps180;go_wp2_with (first
  | (at_builtin
     refine Agz _ rfl (.tmp 5) (.tmp 6) 33 rfl w.heap.size 3 i0 (ξ κ 0) 1 8 (U Tryz.underlying33) dv.e.1 dv.e.2.1 dv.e.2.2.1 dv.e.2.2.2 rfl (by decide) _ 0 _ rfl HO.e ad n c news rfl HL.e.1 HC.e HL.e.2 ?c3 ?c4 ?c5 ?_
     case c3=>(simp only[ϖ];omega)
     case c4=>omega
     case c5=>simp
     intro v' w1 cK dT _;have gW:=ψ cK;have gV:=ψ dT;clear cK dT))
 go_ret;refine⟨_,rfl,by have:=gW.e;rwa[Ai5,Ahm] at this,((ώ _ _).alloc (ϊ _) _).grown gV.e (by simp) (λk hk=>ei HO.e k hk)⟩
def aaE(n c:Nat)(w:Ψ):ύ prog 180 #[ζ ν n c] w λe w'=>e=Ω (ζ ν 0 0)/\w=w':=by
 have q:∀(w:Ψ) (a:Option ϕ) (n c n' c':Nat),(binOp .eql 33 (ζ a n c) (ζ ν n' c')).run prog w=.ok (.bool a.isNone) w:=λw a n c n' c'=>Aih w _ _ a n c n' c' (U Tryz.underlying33)
 go_enter func180,Tryz.ntmps180;go_wp2;go_ret;exact⟨rfl,rfl⟩
def aaD{α:Type}{f:α->List υ}{v:υ}{l:List α}{w:Ψ}{B:Nat}(h:Row w B 1 (λx cs=>cs=f x) v l)(hB:B<=w.heap.size)(hf:∀x,(f x).length=1)(h1:∀x∈l,∀u∈f x,u.oneCell'=θ)(hn:l.length<=1000000):
 ύ prog 180 #[v] w λe w'=>∃v',e=Ω v'/\w'.ownsRow w.heap.size 3 1 v' l.length (l.flatMap f)/\Γ w.heap.size w w':=by
 obtain⟨A,c,rfl,-⟩:=id h;cases A with
 |none=>
  have hl:l=[]:=by
   obtain⟨A,c',hv,h1,h2,h3⟩:=h;injection hv with hA
   refine Aa5 λaw=>?_
   obtain⟨ad,ha,_⟩:=h3 aw;rw[ha] at hA;cases hA
  subst hl;refine(aaE _ _ w).mono ?_
  rintro e w' ⟨rfl,rfl⟩;exact⟨_,rfl,⟨rfl,.inl ⟨rfl,rfl⟩⟩,ώ _ _⟩
 |some ad=>
  have hc:=h.cells hf;exact aaF (zT hf l) hc.1 (CZ l h1) hn (λaw=>by
   have:=hc.2 (by intro e;rw[e] at aw;simp at aw);omega)
end Go.Tw
namespace Go.Tw
variable [Go.Tw.aR]
open Go Go.Proofs Go.RowKit
def cW{α:Type}(w:Ψ)(No:Nat->Prop)(sz:Nat)(R:α->List υ->Prop)(v:υ)(xs:List α):Prop:=
 ∃A c,v=ζ A xs.length c/\xs.length<=c/\c<=ϖ/\(xs≠ []->∃ad,A=φ ad/\ad.block<w.heap.size/\¬No ad.block/\
  ∀i x,xs[i]?=φ x->∃cs,R x cs/\cs.length=sz/\∀j u,cs[j]?=φ u-> w.cell? (ad.add (i * sz+j))=φ u)
section
variable {α:Type}{w w':Ψ}{No Gf:Nat->Prop}{B sz:Nat}{R:α->List υ->Prop}{v:υ}{xs:List α}
def cW.grown{row:Option Nat}(h:cW w No sz R v xs)(hg:w.grownBy w' row)(hr:∀k,row=φ k->No k):cW w' No sz R v xs:=by
 obtain⟨A,c,hv,h1,h2,h3⟩:=h;refine⟨A,c,hv,h1,h2,λhx=>?_⟩
 obtain⟨ad,ha,hb,hn,hc⟩:=h3 hx;refine⟨ad,ha,Nat.lt_of_lt_of_le hb hg.size,hn,λi x hi=>?_⟩
 obtain⟨cs,r,hl,au⟩:=hc i x hi;refine⟨cs,r,hl,λj u hu=>?_⟩
 refine(Aik (hg.block (ad.add (i * sz+j)).block (by rw[cq];exact hb) (λe=>hn ?_))).trans (au j u hu)
 rw[cq] at e;exact hr _ e.symm
def Row.um(h:Row w B sz R v xs)(hB:B<=w.heap.size)(hN:∀k,No k->B<=k):cW w No sz R v xs:=by
 obtain⟨A,c,hv,h1,h2,h3⟩:=h;refine⟨A,c,hv,h1,h2,λhx=>?_⟩
 obtain⟨ad,ha,hb,hc⟩:=h3 hx;exact⟨ad,ha,by omega,λhk=>by have:=hN _ hk;omega,hc⟩
def Row.mem(h:Row w B sz R v xs):∀x∈xs,∃cs,R x cs:=λx hx=>by
 obtain⟨A,c,hv,h1,h2,h3⟩:=h;obtain⟨i,hi⟩:=Aio hx
 obtain⟨ad,ha,hb,hc⟩:=h3 (by intro e;subst e;simp at hi)
 obtain⟨cs,r,_⟩:=hc i x hi;exact⟨cs,r⟩
def cW.row(h:cW w No sz R v xs):Row w w.heap.size sz R v xs:=by
 obtain⟨A,c,hv,h1,h2,h3⟩:=h;refine⟨A,c,hv,h1,h2,λhx=>?_⟩
 obtain⟨ad,ha,hb,hn,hc⟩:=h3 hx;exact⟨ad,ha,hb,hc⟩
def cW.below(h:cW w No sz R v xs)(hb:Γ w.heap.size w w')(hN:∀k,Gf k->No k\/w.heap.size<=k):cW w' Gf sz R v xs:=by
 obtain⟨A,c,hv,h1,h2,h3⟩:=h;refine⟨A,c,hv,h1,h2,λhx=>?_⟩
 obtain⟨ad,ha,hl,hn,hc⟩:=h3 hx;refine⟨ad,ha,Nat.lt_of_lt_of_le hl hb.size,λhk=>?_,λi x hi=>?_⟩
 ·rcases hN _ hk with h|h
  ·exact hn h
  ·omega
 ·obtain⟨cs,r,oz,au⟩:=hc i x hi
  exact⟨cs,r,oz,λj u hu=>(hb.cell (by rw[cq];exact hl)).trans (au j u hu)⟩
def cW.weaken(h:cW w No sz R v xs)(hN:∀k,Gf k->No k):cW w Gf sz R v xs:=h.below (ώ _ _) (λk hk=>Or.inl (hN k hk))
def cW.vO{base:Nat}{e:ϋ}{f:α->List υ}(h:w.ownsRow base e sz v xs.length (xs.flatMap f))(hf:∀x,(f x).length=sz)(hR:∀x∈xs,R x (f x))(hN:∀k,No k->k<base):cW w No sz R v xs:=by
 obtain⟨A,c,hv,h1,h2,h3⟩:=lu (R:=R) h hf hR;refine⟨A,c,hv,h1,h2,λhx=>?_⟩
 obtain⟨ad,ha,hb,hc⟩:=h3 hx;refine⟨ad,ha,hb,λhk=>?_,hc⟩
 have:=ei h ad.block (by rw[hv,ha];rfl)
 have:=hN _ hk;omega
end
def I1{α β:Type}[Inhabited β]{w:Ψ}{B sz:Nat}{R:α->List υ->Prop}{R':α×β->List υ->Prop}{v:υ}{xs:List α}(h:Row w B sz R v xs)(hR:∀x cs,R x cs->∃k,R' (x,k) cs):
 ∃ps:List (α×β),ps.map Ai7=xs/\Row w B sz R' v ps:=by
 obtain⟨A,c,hv,h1,h2,h3⟩:=h;by_cases hx:xs=[]
 ·subst hx
  exact⟨[],rfl,A,c,hv,h1,h2,λh=>absurd rfl h⟩
 obtain⟨ad,ha,hb,hc⟩:=h3 hx;have hk:∀i,∃k:β,∀x,xs[i]?=φ x->∃cs,R' (x,k) cs/\cs.length=sz/\∀j u,cs[j]?=φ u-> w.cell? (ad.add (i * sz+j))=φ u:=λi=>by
  cases e:xs[i]? with
  |none=>exact⟨default,λx hx=>by cases hx⟩
  |some x=>
   obtain⟨cs,r,hl,au⟩:=hc i x e;obtain⟨k,hk⟩:=hR x cs r;exact⟨k,λy hy=>by injection hy with hy;subst hy;exact⟨cs,hk,hl,au⟩⟩
 obtain⟨K,hK⟩:=Classical.axiomOfChoice hk;refine⟨xs.mapIdx λi x=>(x,K i),?_,A,c,by simpa using hv,by simpa using h1,h2,λ_=>⟨ad,ha,hb,λi p hi=>?_⟩⟩
 ·apply List.ext_getElem?;intro i
  simp;cases xs[i]?<;>rfl
 ·simp only[List.getElem?_mapIdx] at hi
  cases e:xs[i]? with
  |none=>rw[e] at hi;cases hi
  |some x=>
   rw[e] at hi;simp at hi;subst hi
   exact hK i x e
instance:Inhabited υ:=⟨ζ ν 0 0⟩
def vV(p:Piece):List υ:=[.string p.name,ξ κ p.len.lo,ξ κ p.len.hi,ξ κ p.bears]
def eP(p:bR×υ):List υ:=[.string p.1.name,ξ κ p.1.aH,p.2]
def eG(p:Tape×υ):List υ:=[p.2,ξ κ p.1.sum.lo,ξ κ p.1.sum.hi]
def lj{w:Ψ}{base:Nat}{e:ϋ}{sz n:Nat}{v u:υ}{p:ϕ}{xs:List υ}(h:w.ownsRow base e sz v n xs)(hp:∀k,v.ownBlock=φ k->p.block≠k):(w.setCell p u).ownsRow base e sz v n xs:=by
 refine⟨h.1,?_⟩
 rcases h.2 with h0| ⟨g,cap,cur,h1,h2,h3,h4⟩
 ·exact .inl h0
 ·exact .inr ⟨g,cap,cur,h1,h2,(Ag7 _ _ _ _ (by rw[h1] at hp;exact Ne.symm (hp g rfl))).trans h3,h4⟩
def EJ{w w':Ψ}{base:Nat}{e:ϋ}{sz n:Nat}{v:υ}{xs:List υ}{row:Option Nat}(h:w.ownsRow base e sz v n xs)(hg:w.grownBy w' row)(hp:∀k,v.ownBlock=φ k->row≠φ k):w'.ownsRow base e sz v n xs:=by
 refine⟨h.1,?_⟩
 rcases h.2 with h0| ⟨g,cap,cur,h1,h2,h3,h4⟩
 ·exact .inl h0
 ·exact .inr ⟨g,cap,cur,h1,h2,(hg.block g (Ϟ.1 h3).1 (by rw[h1] at hp;exact Ne.symm (hp g rfl))).trans h3,h4⟩
def vU{w:Ψ}{base:Nat}{e:ϋ}{sz n:Nat}{v:υ}{xs:List υ}(h:w.ownsRow base e sz v n xs)(k:Nat)(hk:v.ownBlock=φ k):k<w.heap.size:=by
 rcases h.2 with⟨h0,_⟩ | ⟨g,cap,cur,h1,h2,h3,h4⟩
 ·rw[h0] at hk;cases hk
 ·rw[h1] at hk;injection hk with hk;subst hk;exact(Ϟ.1 h3).1
def Be{w:Ψ}{base:Nat}{e:ϋ}{sz n m c:Nat}{A:Option ϕ}{xs:List υ}(h:w.ownsRow base e sz (ζ A m c) n xs):m=n:=by
 rcases h.2 with⟨h0,h1⟩ | ⟨g,cap,cur,h1,h2,h3,h4⟩
 ·injection h0 with _ h0;omega
 ·injection h1
def Wt{w:Ψ}{base:Nat}{e:ϋ}{sz n m c:Nat}{A:Option ϕ}{xs:List υ}(h:w.ownsRow base e sz (ζ A m c) n xs):m<=c/\c<=2 ^ 63 - 1:=by
 rcases h.2 with⟨h0,h1⟩ | ⟨g,cap,cur,h1,h2,h3,h4,h5,_⟩
 ·injection h0 with _ h0 h2;omega
 ·injection h1 with _ h6 h7;unfold ϖ at h5;omega
def Ww{w:Ψ}{base:Nat}{e:ϋ}{sz n m c:Nat}{A:Option ϕ}{xs:List υ}(h:w.ownsRow base e sz (ζ A m c) n xs)(hm:0<m):∃g,A=φ ⟨g,0,ν⟩:=by
 rcases h.2 with⟨h0,h1⟩ | ⟨g,cap,cur,h1,_⟩
 ·injection h0 with _ h0;omega
 ·injection h1 with h1;exact⟨g,h1⟩
def uV(w:Ψ)(p:ϕ)(u:υ):w.grownBy (w.setCell p u) (φ p.block):=
 ⟨rfl,rfl,rfl,by simp,λk _ hk=>Ag7 _ _ _ _ (by intro e;exact hk (by rw[e]))⟩
end Go.Tw
namespace Go.Tw
variable [Go.Tw.aR]
open Go Go.Proofs Go.RowKit
def dP(F:Act->Ψ->Prop):Exit->Act->Ψ->Prop
 | .normal,a,w=>F a w
 |_,_,_=>False
def dP.imp{F:Act->Ψ->Prop}{Q:Exit->Act->Ψ->Prop}(h:∀a w,F a w->Q .normal a w):∀e a w,dP F e a w->Q e a w:=λe a w hf=>by
 cases e<;>first|exact h a w hf|exact(hf:False).elim
def rj(No:Nat->Prop)(g:Nat)(bv tv:υ)(k:Nat):Prop:=bv.ownBlock=φ k\/tv.ownBlock=φ k\/k=g+1\/No k
structure pI(w:Ψ)(No:Nat->Prop)(b:ao)(pv bv tv:υ)(bs:List (bR×υ))(ts:List (Tape×υ)):Prop where
 p:cW w No 4 Piece.R pv b.pieces
 bo:cW w No 3 (λp cs=>cs=eP p) bv bs
 t:cW w No 3 (λp cs=>cs=eG p) tv ts
 oW:bs.map Ai7=b.aF
 pD:ts.map Ai7=b.aJ
 kn:∀p∈bs,p.1.name.size<=ϖ/\cW w No 2 Span.R p.2 p.1.cM
 tp:∀p∈ts,cW w No 1 cH p.2 p.1.pieces
structure CI(No:Nat->Prop)(b:ao)(w W:Ψ)(g s1 s2:Nat)(pv bv tv:υ)(bs:List (bR×υ))(ts:List (Tape×υ)):Prop where
 box:Bk W g 26 #[ξ κ b.ag,pv,bv,tv]
 res:∃u0 u1 u2 u3,Bk W (g+1) 26 #[u0,u1,u2,u3]
 p:W.ownsRow (g+2) 72 4 pv b.pieces.length (b.pieces.flatMap vV)
 bo:W.ownsRow s1 59 3 bv bs.length (bs.flatMap eP)
 t:W.ownsRow s2 95 3 tv ts.length (ts.flatMap eG)
 oW:bs.map Ai7=b.aF
 pD:ts.map Ai7=b.aJ
 kn:∀p∈bs,cW W (rj No g bv tv) 2 Span.R p.2 p.1.cM
 tp:∀p∈ts,cW W (rj No g bv tv) 1 cH p.2 p.1.pieces
 below:Γ g w W
 gz:g=w.heap.size
 g1:g+2<=s1
 g2:s1<=s2
 pl:∀k,pv.ownBlock=φ k->k<s1
 bl:∀k,bv.ownBlock=φ k->k<s2
def CI.grown{No:Nat->Prop}{b:ao}{w W W':Ψ}{g s1 s2:Nat}{pv bv tv:υ}{bs:List (bR×υ)}{ts:List (Tape×υ)}(h:CI No b w W g s1 s2 pv bv tv bs ts)(hg:W.grownBy W' ν):CI No b w W' g s1 s2 pv bv tv bs ts where
 box:=h.box.grown hg (by simp)
 res:=by obtain⟨u0,u1,u2,u3,hr⟩:=h.res;exact⟨u0,u1,u2,u3,hr.grown hg (by simp)⟩
 p:=EJ h.p hg (by simp)
 bo:=EJ h.bo hg (by simp)
 t:=EJ h.t hg (by simp)
 oW:=h.oW
 pD:=h.pD
 kn p hp:=(h.kn p hp).grown hg (by simp)
 tp p hp:=(h.tp p hp).grown hg (by simp)
 below:=h.below.grown hg (by have:=h.box.lt;omega) (by simp)
 gz:=h.gz
 g1:=h.g1
 g2:=h.g2
 pl:=h.pl
 bl:=h.bl
def Xj{x:bR}{kv jC:υ}:∀ {bs:List (bR×υ)} {i:Nat},bs[i]?=φ (x,kv)->(bs.flatMap eP).set (i * 3+2) jC=(bs.set i (x,jC)).flatMap eP
 | [],i,h=>by simp at h
 |a::l,0,h=>by simp at h;subst h;simp[eP]
 |a::l,i+1,h=>by
  have e:(i+1) * 3+2=(i * 3+2)+1+1+1:=by omega
  have ih:=Xj (jC:=jC) (bs:=l) (i:=i) (by simpa using h)
  rw[e,Ahq];simp only[eP,List.cons_append,Ahm,Aip,Ahq];congr 3
def Xk{x:Tape}{kv jC:υ}:∀ {ts:List (Tape×υ)} {i:Nat},ts[i]?=φ (x,kv)->(ts.flatMap eG).set (i * 3) jC=(ts.set i (x,jC)).flatMap eG
 | [],i,h=>by simp at h
 |a::l,0,h=>by simp at h;subst h;simp[eG]
 |a::l,i+1,h=>by
  have e:(i+1) * 3=(i * 3)+1+1+1:=by omega
  have ih:=Xk (jC:=jC) (ts:=l) (i:=i) (by simpa using h)
  rw[e,Ahq];simp only[eG,List.cons_append,Ahm,Aip,Ahq];congr 3
def OU{α β:Type}:∀ {l:List (α×β)} {i:Nat} {x:α} {y y':β},l[i]?=φ (x,y)->(l.set i (x,y')).map Ai7=l.map Ai7
 | [],i,x,y,y',h=>by simp at h
 |a::l,0,x,y,y',h=>by simp at h;subst h;simp
 |a::l,i+1,x,y,y',h=>by
  rw[Aip,Aiq,OU (l:=l) (y:=y) (by simpa using h),Aiq]
def mem_set{α:Type}{l:List α}{i:Nat}{a x:α}(h:x∈l.set i a):x∈l\/x=a:=List.mem_or_eq_of_mem_set h
section
variable {No:Nat->Prop}{b:ao}{w W:Ψ}{g s1 s2:Nat}{pv bv tv:υ}{bs:List (bR×υ)}{ts:List (Tape×υ)}
def CI.alm{rb n c i:Nat}{x:bR}{kv jC:υ}(h:CI No b w W g s1 s2 pv (ζ (φ ⟨rb,0,ν⟩) n c) tv bs ts)(hx:bs[i]?=φ (x,kv))(hk:cW W (rj No g (ζ (φ ⟨rb,0,ν⟩) n c) tv) 2 Span.R jC x.cM):
 CI No b w (W.setCell ⟨rb,i * 3+2,ν⟩ jC) g s1 s2 pv (ζ (φ ⟨rb,0,ν⟩) n c) tv (bs.set i (x,jC)) ts:=by
 have hn:n=bs.length:=by
  rcases h.bo.2 with⟨h0,_⟩ | ⟨g',zd,cur,h1,_⟩
  ·cases h0
  ·injection h1
 have ae:=ei h.bo rb rfl;have ak:=h.bl rb rfl;have g1:=h.g1;have hi:=(ϸ.1 hx).1
 have hG:=uV W ⟨rb,i * 3+2,ν⟩ jC;have hN:∀k,φ rb=φ k->rj No g (ζ (φ ⟨rb,0,ν⟩) n c) tv k:=λk e=>Or.inl e
 refine⟨h.box.dn (by simp;omega) _,(by obtain⟨u0,u1,u2,u3,hr⟩:=h.res;exact⟨u0,u1,u2,u3,hr.dn (by simp;omega) _⟩),lj h.p (λk e=>by have:=h.pl k e;simp;omega),?_,lj h.t (λk e=>by have:=ei h.t k e;simp;omega),?_,h.pD,?_,λp hp=>(h.tp p hp).grown hG hN,h.below.setCell (by simp;omega) _,h.gz,h.g1,h.g2,h.pl,h.bl⟩
 ·have:=h.bo
  rw[<-hn] at this;rw[List.length_set,<-hn,<-Xj hx];exact IG this (by omega)
 ·rw[OU hx];exact h.oW
 ·intro p hp
  rcases mem_set hp with hp|rfl
  ·exact(h.kn p hp).grown hG hN
  ·exact hk.grown hG hN
def CI.alo{rb n c i:Nat}{x:Tape}{kv jC:υ}(h:CI No b w W g s1 s2 pv bv (ζ (φ ⟨rb,0,ν⟩) n c) bs ts)(hx:ts[i]?=φ (x,kv))(hk:cW W (rj No g bv (ζ (φ ⟨rb,0,ν⟩) n c)) 1 cH jC x.pieces):
 CI No b w (W.setCell ⟨rb,i * 3,ν⟩ jC) g s1 s2 pv bv (ζ (φ ⟨rb,0,ν⟩) n c) bs (ts.set i (x,jC)):=by
 have hn:n=ts.length:=by
  rcases h.t.2 with⟨h0,_⟩ | ⟨g',zd,cur,h1,_⟩
  ·cases h0
  ·injection h1
 have ae:=ei h.t rb rfl;have g1:=h.g1;have g2:=h.g2;have hi:=(ϸ.1 hx).1
 have hG:=uV W ⟨rb,i * 3,ν⟩ jC;have hN:∀k,φ rb=φ k->rj No g bv (ζ (φ ⟨rb,0,ν⟩) n c) k:=λk e=>Or.inr (Or.inl e)
 refine⟨h.box.dn (by simp;omega) _,(by obtain⟨u0,u1,u2,u3,hr⟩:=h.res;exact⟨u0,u1,u2,u3,hr.dn (by simp;omega) _⟩),lj h.p (λk e=>by have:=h.pl k e;simp;omega),lj h.bo (λk e=>by have:=h.bl k e;simp;omega),?_,h.oW,?_,λp hp=>(h.kn p hp).grown hG hN,?_,h.below.setCell (by simp;omega) _,h.gz,h.g1,h.g2,h.pl,h.bl⟩
 ·have:=h.t
  rw[<-hn] at this;rw[List.length_set,<-hn,<-Xk hx];exact IG this (by omega)
 ·rw[OU hx];exact h.pD
 ·intro p hp
  rcases mem_set hp with hp|rfl
  ·exact(h.tp p hp).grown hG hN
  ·exact hk.grown hG hN
def Bk.drew{w:Ψ}{g:Nat}{t:ϋ}{cs:Array υ}(h:Bk w g t cs):Bk w.drew g t cs:=h
def CI.start{W0 w3 w4 W:Ψ}{q1 q2 q3:υ}(h3:Γ W0.heap.size W0 w3)(h4:Γ w3.heap.size w3 w4)(h5:Γ w4.heap.size w4 W)(hz:w.heap.size+2<=W0.heap.size)
 (kb:Bk W w.heap.size 26 #[ξ κ b.ag,q1,q2,q3])(kr:Bk W (w.heap.size+1) 26 #[ξ κ 0,ζ ν 0 0,ζ ν 0 0,ζ ν 0 0])
 (o9:w3.ownsRow W0.heap.size 72 4 pv b.pieces.length (b.pieces.flatMap vV))(qN:w4.ownsRow w3.heap.size 59 3 bv bs.length (bs.flatMap eP))(Bb:W.ownsRow w4.heap.size 95 3 tv ts.length (ts.flatMap eG))
 (fe:bs.map Ai7=b.aF)(il:ts.map Ai7=b.aJ)(hb:∀p∈bs,cW w No 2 Span.R p.2 p.1.cM)(ht:∀p∈ts,cW w No 1 cH p.2 p.1.pieces)(xA:∀k,No k->k<w.heap.size)(bd:Γ w.heap.size w W0):
 CI No b w (((W.setCell ⟨w.heap.size,1,ν⟩ pv).setCell ⟨w.heap.size,2,ν⟩ bv).setCell ⟨w.heap.size,3,ν⟩ tv) w.heap.size w3.heap.size w4.heap.size pv bv tv bs ts:=by
 have e3:=h3.size;have e4:=h4.size;have e5:=h5.size;have bW:Γ w.heap.size w W:=((bd.trans (h3.mono (by omega))).trans (h4.mono (by omega))).trans (h5.mono (by omega))
 have bF:Γ w.heap.size w (((W.setCell ⟨w.heap.size,1,ν⟩ pv).setCell ⟨w.heap.size,2,ν⟩ bv).setCell ⟨w.heap.size,3,ν⟩ tv):=((bW.setCell (ϊ _) _).setCell (ϊ _) _).setCell (ϊ _) _;have l9:=vU o9;have l12:=vU qN;have g9:=ei o9;have g12:=ei qN;have g15:=ei Bb;have hN:∀k,rj No w.heap.size bv tv k->No k\/w.heap.size<=k:=λk hk=>by
  rcases hk with hk|hk|hk|hk
  ·have:=g12 k hk;omega
  ·have:=g15 k hk;omega
  ·omega
  ·exact Or.inl hk
 have p9:W.ownsRow W0.heap.size 72 4 pv b.pieces.length (b.pieces.flatMap vV):=qO (qO o9 h4 (ϊ _)) h5 (ϊ _);have Ol:W.ownsRow w3.heap.size 59 3 bv bs.length (bs.flatMap eP):=qO qN h5 (ϊ _);refine⟨?_,⟨_,_,_,_,((kr.dn (by simp) _).dn (by simp) _).dn (by simp) _⟩,?_,?_,?_,fe,il,λp hp=>(hb p hp).below bF hN,λp hp=>(ht p hp).below bF hN,bF,rfl,by omega,by omega,l9,l12⟩
 ·exact((kb.set 1 pv).set 2 bv).set 3 tv
 ·exact(lj (lj (lj p9 (λk e=>by have:=g9 k e;simp;omega)) (λk e=>by have:=g9 k e;simp;omega)) (λk e=>by have:=g9 k e;simp;omega)).base hz
 ·exact lj (lj (lj Ol (λk e=>by have:=g12 k e;simp;omega)) (λk e=>by have:=g12 k e;simp;omega)) (λk e=>by have:=g12 k e;simp;omega)
 ·exact lj (lj (lj Bb (λk e=>by have:=g15 k e;simp;omega)) (λk e=>by have:=g15 k e;simp;omega)) (λk e=>by have:=g15 k e;simp;omega)
def CI.Gx{rb n c i j:Nat}{p:bR×υ}{u:υ}(h:CI No b w W g s1 s2 pv (ζ (φ ⟨rb,0,ν⟩) n c) tv bs ts)(hx:bs[i]?=φ p)(hu:(eP p)[j]?=φ u): W.cell? ⟨rb,i * 3+j,ν⟩=φ u:=by
 have hn:=Be h.bo;have h2:=h.bo;rw[<-hn] at h2;have:=vT h2 _ _ (GL (f:=eP) (sz:=3) (λ_=>rfl) bs i _ j u hx hu)
 rwa[nu] at this
def CI.Gy{rb n c i j:Nat}{p:Tape×υ}{u:υ}(h:CI No b w W g s1 s2 pv bv (ζ (φ ⟨rb,0,ν⟩) n c) bs ts)(hx:ts[i]?=φ p)(hu:(eG p)[j]?=φ u): W.cell? ⟨rb,i * 3+j,ν⟩=φ u:=by
 have hn:=Be h.t;have h2:=h.t;rw[<-hn] at h2;have:=vT h2 _ _ (GL (f:=eG) (sz:=3) (λ_=>rfl) ts i _ j u hx hu)
 rwa[nu] at this
def CI.ac1{rb n c:Nat}(h:CI No b w W g s1 s2 pv (ζ (φ ⟨rb,0,ν⟩) n c) tv bs ts)(i:Nat): W.frozen? ⟨rb,i,ν⟩=χ:=by
 rcases h.bo.2 with⟨h0,_⟩ | ⟨g',zd,cur,h1,_,h3,_⟩
 ·cases h0
 ·injection h1 with h1;injection h1 with h1;injection h1 with h1;subst h1
  rw[Go.Sim.xm (a:=⟨rb,i,ν⟩) h3];rfl
def CI.ac2{rb n c:Nat}(h:CI No b w W g s1 s2 pv bv (ζ (φ ⟨rb,0,ν⟩) n c) bs ts)(i:Nat): W.frozen? ⟨rb,i,ν⟩=χ:=by
 rcases h.t.2 with⟨h0,_⟩ | ⟨g',zd,cur,h1,_,h3,_⟩
 ·cases h0
 ·injection h1 with h1;injection h1 with h1;injection h1 with h1;subst h1
  rw[Go.Sim.xm (a:=⟨rb,i,ν⟩) h3];rfl
def CI.Ja{i:Nat}{u:υ}(h:CI No b w W g s1 s2 pv bv tv bs ts)(hi:i<4):CI No b w (W.setCell ⟨g+1,i,ν⟩ u) g s1 s2 pv bv tv bs ts:=by
 have g1:=h.g1;have g2:=h.g2;have hG:=uV W ⟨g+1,i,ν⟩ u;have hN:∀k,φ (g+1)=φ k->rj No g bv tv k:=λk e=>Or.inr (Or.inr (Or.inl (by injection e with e;exact e.symm)))
 refine⟨h.box.dn (by simp) _,?_,lj h.p (λk e=>by have:=ei h.p k e;simp;omega),lj h.bo (λk e=>by have:=ei h.bo k e;simp;omega),lj h.t (λk e=>by have:=ei h.t k e;simp;omega),h.oW,h.pD,λp hp=>(h.kn p hp).grown hG hN,λp hp=>(h.tp p hp).grown hG hN,h.below.setCell (by simp) _,h.gz,h.g1,h.g2,h.pl,h.bl⟩
 obtain⟨u0,u1,u2,u3,hr⟩:=h.res;have:=hr.set i u;match i,hi with
 |0,_=>exact⟨u,u1,u2,u3,this⟩
 |1,_=>exact⟨u0,u,u2,u3,this⟩
 |2,_=>exact⟨u0,u1,u,u3,this⟩
 |3,_=>exact⟨u0,u1,u2,u,this⟩
def yY{α β:Type}{w:Ψ}{B sz:Nat}{R':α×β->List υ->Prop}{R:α->List υ->Prop}{v:υ}{ps:List (α×β)}(h:Row w B sz R' v ps)(hR:∀p∈ps,∀cs,R' p cs->R p.1 cs):Row w B sz R v (ps.map Ai7):=by
 obtain⟨A,c,hv,h1,h2,h3⟩:=h;refine⟨A,c,by rw[Ah6];exact hv,by rw[Ah6];exact h1,h2,λaw=>?_⟩
 obtain⟨ad,ha,hb,hc⟩:=h3 (by intro e;rw[e] at aw;exact aw rfl)
 refine⟨ad,ha,hb,λi x hi=>?_⟩
 rw[Ahs] at hi
 cases e:ps[i]? with
 |none=>rw[e] at hi;cases hi
 |some p=>
  rw[e] at hi;simp at hi;subst hi
  obtain⟨cs,r,hl,au⟩:=hc i p e;exact⟨cs,hR p (ϡ e) cs r,hl,au⟩
def CI.ZO(h:CI No b w W g s1 s2 pv bv tv bs ts)(hp:∀p∈b.pieces,p.name.size<=ϖ)(hx:∀x∈b.aF,x.name.size<=ϖ)(xA:∀k,No k->k<g):pI W No b pv bv tv bs ts:=by
 have g1:=h.g1;have g2:=h.g2;refine⟨cW.vO h.p (λ_=>rfl) (λp hm=>⟨rfl,hp p hm⟩) (λk hk=>by have:=xA k hk;omega),cW.vO h.bo (λ_=>rfl) (λp hm=>rfl) (λk hk=>by have:=xA k hk;omega),cW.vO h.t (λ_=>rfl) (λp hm=>rfl) (λk hk=>by have:=xA k hk;omega),h.oW,h.pD,λp hm=>⟨hx p.1 ?_,(h.kn p hm).weaken λk hk=>Or.inr (Or.inr (Or.inr hk))⟩,λp hm=>(h.tp p hm).weaken λk hk=>Or.inr (Or.inr (Or.inr hk))⟩
 rw[<-h.oW];exact Ahw.2 ⟨p,hm,rfl⟩
def pI.grown{W':Ψ}{row:Option Nat}(h:pI W No b pv bv tv bs ts)(hg:W.grownBy W' row)(hr:∀k,row=φ k->No k):pI W' No b pv bv tv bs ts:=
 ⟨h.p.grown hg hr,h.bo.grown hg hr,h.t.grown hg hr,h.oW,h.pD,λp hp=>⟨(h.kn p hp).1,(h.kn p hp).2.grown hg hr⟩,λp hp=>(h.tp p hp).grown hg hr⟩
def pI.book(h:pI W No b pv bv tv bs ts):bg W W.heap.size b pv bv tv:=by
 refine⟨h.p.row,?_,?_⟩
 ·rw[<-h.oW]
  exact yY h.bo.row (λp hm cs hc=>⟨p.2,hc,(h.kn p hm).1,(h.kn p hm).2.row⟩)
 ·rw[<-h.pD]
  exact yY h.t.row (λp hm cs hc=>⟨p.2,hc,(h.tp p hm).row⟩)
def bg.um{B:Nat}(h:bg W B b pv bv tv)(hB:B<=W.heap.size)(hN:∀k,No k->B<=k):∃bs ts,pI W No b pv bv tv bs ts:=by
 obtain⟨bs,fe,xH⟩:=I1 (R':=λ(p:bR×υ) cs=>cs=eP p/\p.1.name.size<=ϖ/\Row W B 2 Span.R p.2 p.1.cM) h.aF (λx cs ⟨kv,h1,h2,h3⟩=>⟨kv,h1,h2,h3⟩)
 obtain⟨ts,il,pg⟩:=I1 (R':=λ(p:Tape×υ) cs=>cs=eG p/\Row W B 1 cH p.2 p.1.pieces) h.aJ (λx cs ⟨kv,h1,h3⟩=>⟨kv,h1,h3⟩)
 have ox:∀p∈bs,p.1.name.size<=ϖ/\Row W B 2 Span.R p.2 p.1.cM:=λp hp=>by obtain⟨cs,h1,h2⟩:=xH.mem p hp;exact h2
 have rS:∀p∈ts,Row W B 1 cH p.2 p.1.pieces:=λp hp=>by obtain⟨cs,h1,h2⟩:=pg.mem p hp;exact h2
 exact⟨bs,ts,h.pieces.um hB hN,(xH.still (Δ.refl W) λ_ _ h=>h.1).um hB hN,(pg.still (Δ.refl W) λ_ _ h=>h.1).um hB hN,fe,il,λp hp=>⟨(ox p hp).1,(ox p hp).2.um hB hN⟩,λp hp=>(rS p hp).um hB hN⟩
end
end Go.Tw
namespace Go.Tw
variable [Go.Tw.aR]
open Go Go.Proofs Go.RowKit
def ajI(x:Piece):∀u∈vV x,u.oneCell'=θ:=by simp[vV,Value.oneCell']
def ago(x:Int):∀u∈ [ξ κ x],u.oneCell'=θ:=by simp[Value.oneCell']
def al5(x:Span):∀u∈Span.vs x,u.oneCell'=θ:=by simp[Span.vs,Value.oneCell']
def Rh(v:υ):Prop:=∃A n c,v=ζ A n c
def pw{w:Ψ}{base:Nat}{e:ϋ}{sz n:Nat}{v:υ}{xs:List υ}(h:w.ownsRow base e sz v n xs):Rh v:=j8 h
def copied{No:Nat->Prop}{w:Ψ}{b:ao}{pv bv tv:υ}{bs:List (bR×υ)}{ts:List (Tape×υ)}(hN:pI w No b pv bv tv bs ts)(xA:∀k,No k->k<w.heap.size)(hv:Valid b):
 ύ prog 136 #[η #[ξ κ b.ag,pv,bv,tv]] w λe w'=>∃ix ia fD oV qT,e=Ω (η #[ξ κ b.ag,ix,ia,fD])/\pI w' No b ix ia fD oV qT/\Γ w.heap.size w w':=by
 have ai:=hN.book;have HP:Hid (Row w w.heap.size 4 (λx cs=>cs=vV x) pv b.pieces):=ψ (ai.pieces.still (Δ.refl w) λ_ _ h=>h.1)
 have fe:=hN.oW;have il:=hN.pD;have ox:∀p∈bs,cW w No 2 Span.R p.2 p.1.cM:=λp hp=>(hN.kn p hp).2
 have rS:∀p∈ts,cW w No 1 cH p.2 p.1.pieces:=hN.tp
 have YR:Hid (∀p∈b.pieces,p.name.size<=ϖ):=ψ (λp hp=>by obtain⟨cs,h1,h2⟩:=ai.pieces.mem p hp;exact h2)
 have Y1:Hid (∀x∈b.aF,x.name.size<=ϖ):=ψ (λp hp=>by obtain⟨cs,kv,h1,h2,h3⟩:=ai.aF.mem p hp;exact h2)
 have F4:Hid (Row w w.heap.size 3 (λp cs=>cs=eP p) bv bs):=ψ hN.bo.row
 have YZ:Hid (Row w w.heap.size 3 (λp cs=>cs=eG p) tv ts):=ψ hN.t.row
 have sT:=ψ xA;have hB:w.heap.size<=w.heap.size:=ϊ _;have Dq:∀p∈bs,∀u∈eP p,u.oneCell'=θ:=λp hp u hu=>by
  obtain⟨A,c,e,_⟩:=(ox p hp);simp[eP] at hu;rcases hu with rfl|rfl|rfl
  ·rfl
  ·rfl
  ·rw[e];rfl
 have Vk:∀p∈ts,∀u∈eG p,u.oneCell'=θ:=λp hp u hu=>by
  obtain⟨A,c,e,_⟩:=rS p hp;simp[eG] at hu;rcases hu with rfl|rfl|rfl
  ·rw[e];rfl
  ·rfl
  ·rfl
 have fX:bs.length=b.aF.length:=by rw[<-fe,Ah6]
 have qG:ts.length=b.aJ.length:=by rw[<-il,Ah6]
 have C1:Hid (∀w',Δ w.heap.size w w'->w.heap.size<=w'.heap.size->ύ prog 155 #[pv] w' λe bq=>∃v',e=Ω v'/\bq.ownsRow w'.heap.size 72 4 v' b.pieces.length (b.pieces.flatMap vV)/\Γ w'.heap.size w' bq):=
  ψ λw' hs hz=>aaG (HP.e.still hs λ_ _ h=>h) hz (λ_=>rfl) (λp _=>ajI p) (by have:=hv.np;omega)
 have C2:Hid (∀w',Δ w.heap.size w w'->w.heap.size<=w'.heap.size->ύ prog 135 #[bv] w' λe bq=>∃v',e=Ω v'/\bq.ownsRow w'.heap.size 59 3 v' bs.length (bs.flatMap eP)/\Γ w'.heap.size w' bq):=
  ψ λw' hs hz=>Su (F4.e.still hs λ_ _ h=>h) hz (λ_=>rfl) Dq (by have:=hv.nb;omega)
 have C3:Hid (∀w',Δ w.heap.size w w'->w.heap.size<=w'.heap.size->ύ prog 158 #[tv] w' λe bq=>∃v',e=Ω v'/\bq.ownsRow w'.heap.size 95 3 v' ts.length (ts.flatMap eG)/\Γ w'.heap.size w' bq):=
  ψ λw' hs hz=>aaM (YZ.e.still hs λ_ _ h=>h) hz (λ_=>rfl) Vk (by have:=hv.nt;omega)
 have HM:=ψ (ϐ ox (ϐ rS (ϐ fe (ϐ il (ϐ fX qG)))));obtain⟨A1,n1,c1,rfl,-⟩:=ai.pieces.Φ;obtain⟨A2,n2,c2,rfl,-⟩:=ai.aF.Φ;obtain⟨A3,n3,c3,rfl,-⟩:=ai.aJ.Φ;have HV:=ψ hv;clear ai hv ox rS Dq Vk fe il fX qG hN xA;go_enter func136,Tryz.ntmps136;go_wp2;obtain⟨W0,z8⟩:∃W0,W0=((w.alloc (Ξ #[ξ κ b.ag,ζ A1 n1 c1,ζ A2 n2 c2,ζ A3 n3 c3] 26)).alloc (Ξ #[ξ κ 0,ζ ν 0 0,ζ ν 0 0,ζ ν 0 0] 26)):=⟨_,rfl⟩
 rw[<-z8];have kb:Bk W0 w.heap.size 26 #[ξ κ b.ag,ζ A1 n1 c1,ζ A2 n2 c2,ζ A3 n3 c3]:=by rw[z8];exact(Bk.new w _ _).alloc _
 have kr:Bk W0 (w.heap.size+1) 26 #[ξ κ 0,ζ ν 0 0,ζ ν 0 0,ζ ν 0 0]:=by rw[z8];exact Bk.cG (by simp) _ _
 have bw:Γ w.heap.size w W0:=by rw[z8];exact(((ώ _ _).alloc (ϊ _) _).alloc (by simp) _)
 have cT:W0.heap.size=w.heap.size+2:=by rw[z8];simp
 have KB:=ψ (ϐ kb kr);have BW:=ψ bw;have k1:=kb.cell 1;have k2:=kb.cell 2;have k3:=kb.cell 3;clear z8 kb kr bw;have KD:Hid (Bk W0.drew w.heap.size 26 #[ξ κ b.ag,ζ A1 n1 c1,ζ A2 n2 c2,ζ A3 n3 c3]):=ψ KB.e.1;have BD:Hid (Γ w.heap.size w W0.drew):=ψ (iY BW.e);have ZD:w.heap.size<W0.drew.heap.size:=KD.e.lt;have SB:Hid (∀w',Γ w.heap.size w w'->Δ w.heap.size w w'/\w.heap.size<=w'.heap.size):=ψ λw' h=>⟨Δ.aK h hB,by have:=h.size;omega⟩
 refine Code.wp_mono (Q:=dP λa W=>∃A9 n9 c9 mh iq c12 pG n15 c15,a={tmps:=#[Value.agg #[ϟ ϛ b.ag,Value.slice A1 n1 c1,Value.slice A2 n2 c2,Value.slice A3 n3 c3],Value.pointer (φ {block:=w.heap.size,off:=0}),Value.pointer (φ {block:=w.heap.size+1,off:=0}),ω,ω,ω,ω,Value.pointer (φ {block:=w.heap.size,off:=1}),Value.slice A1 n1 c1,Value.slice A9 n9 c9,Value.pointer (φ {block:=w.heap.size,off:=2}),Value.slice A2 n2 c2,Value.slice mh iq c12,Value.pointer (φ {block:=w.heap.size,off:=3}),Value.slice A3 n3 c3,Value.slice pG n15 c15,Value.pointer (φ {block:=w.heap.size,off:=1}),Value.pointer (φ {block:=w.heap.size,off:=2}),Value.pointer (φ {block:=w.heap.size,off:=3}),ω,ω,ω,ω,ω,ω,ω,ω,ω,ω,ω,ω,ω,ω,ω,ω,ω,ω,ω,ω,ω,ω,ω,ω,ω,ω,ω,ω,ω,ω,ω,ω,ω,ω,ω],defers:=[]}/\Hid (∃s1 s2,CI No b w W w.heap.size s1 s2 (ζ A9 n9 c9) (ζ mh iq c12) (ζ pG n15 c15) bs ts)) ?post ?region
 case region=>
  go_region_with (first
   | (go_at_call 155
      refine(C1.e _ ?h1 ?h2).mono ?_
      case h1=>exact(SB.e _ BD.e).1
      case h2=>exact(SB.e _ BD.e).2
      rintro e w3 ⟨v9,rfl,o9,bD⟩;have k1: w3.cell? ⟨w.heap.size,1,ν⟩=φ (ζ A1 n1 c1):=(KD.e.below bD ZD).cell 1;have k2: w3.cell? ⟨w.heap.size,2,ν⟩=φ (ζ A2 n2 c2):=(KD.e.below bD ZD).cell 2;have k3: w3.cell? ⟨w.heap.size,3,ν⟩=φ (ζ A3 n3 c3):=(KD.e.below bD ZD).cell 3;have fw:=ψ bD;have O9:=ψ o9;obtain⟨A9,n9,c9,rfl⟩:=pw o9;clear bD o9)
   | (go_at_call 135
      refine(C2.e _ ?h1 ?h2).mono ?_
      case h1=>exact(SB.e _ (BD.e.trans (fw.e.mono (Agl ZD)))).1
      case h2=>exact(SB.e _ (BD.e.trans (fw.e.mono (Agl ZD)))).2
      rintro e w4 ⟨v12,rfl,qN,cO⟩;have k3: w4.cell? ⟨w.heap.size,3,ν⟩=φ (ζ A3 n3 c3):=((KD.e.below fw.e ZD).below cO (by have:=fw.e.size;omega)).cell 3
      have jK:=ψ cO;have zv:=ψ qN;obtain⟨mh,iq,c12,rfl⟩:=pw qN;clear cO qN)
   | (go_at_call 158
      refine(C3.e _ ?h1 ?h2).mono ?_
      case h1=>exact(SB.e _ ((BD.e.trans (fw.e.mono (Agl ZD))).trans (jK.e.mono (by have:=fw.e.size;omega)))).1
      case h2=>exact(SB.e _ ((BD.e.trans (fw.e.mono (Agl ZD))).trans (jK.e.mono (by have:=fw.e.size;omega)))).2
      rintro e w5 ⟨v15,rfl,Bb,eR⟩;have uD:Hid (Bk w5 w.heap.size 26 #[ξ κ b.ag,ζ A1 n1 c1,ζ A2 n2 c2,ζ A3 n3 c3]):=ψ (((KD.e.below fw.e ZD).below jK.e (by have:=fw.e.size;omega)).below eR (by have:=fw.e.size;have:=jK.e.size;omega))
      have z5:w.heap.size<w5.heap.size:=uD.e.lt;have f1: w5.frozen? ⟨w.heap.size,1,ν⟩=χ:=uD.e.frozen 1;have f2: w5.frozen? ⟨w.heap.size,2,ν⟩=χ:=uD.e.frozen 2;have f3: w5.frozen? ⟨w.heap.size,3,ν⟩=χ:=uD.e.frozen 3;have k1: w5.cell? ⟨w.heap.size,1,ν⟩=φ (ζ A1 n1 c1):=uD.e.cell 1;have k2: w5.cell? ⟨w.heap.size,2,ν⟩=φ (ζ A2 n2 c2):=uD.e.cell 2;have k3: w5.cell? ⟨w.heap.size,3,ν⟩=φ (ζ A3 n3 c3):=uD.e.cell 3;have mi:=ψ eR;have Zc:=ψ Bb;obtain⟨pG,n15,c15,rfl⟩:=pw Bb;clear eR Bb))
  all_goals
   show ∃_,_
   refine⟨_,_,_,_,_,_,_,_,_,rfl,ψ ⟨w3.heap.size,w4.heap.size,?_⟩⟩
   have e3:=fw.e.size;have e4:=jK.e.size;have Ca:w.heap.size+2<=W0.drew.heap.size:=Agi cT.symm;refine CI.start (W:=w5) fw.e jK.e mi.e Ca uD.e (((KB.e.2.drew.below fw.e (by omega)).below jK.e (by omega)).below mi.e (by omega)) O9.e zv.e Zc.e HM.e.2.2.1 HM.e.2.2.2.1 HM.e.1 HM.e.2.1 sT.e BD.e
 case post=>
  clear C1 C2 C3 KB KD BD BW HP k1 k2 k3 SB;refine dP.imp ?_
  rintro a W ⟨A9,n9,c9,mh,iq,c12,pG,n15,c15,rfl,s1,s2,HC⟩;have UB:iq=bs.length:=Be HC.bo;have UC:n15=ts.length:=Be HC.t;have aov:iq<=3:=by have:=HV.e.nb;have:=HM.e.2.2.2.2.1;omega
  have aox:n15<=4:=by have:=HV.e.nt;have:=HM.e.2.2.2.2.2;omega
  have k2: W.cell? ⟨w.heap.size,2,ν⟩=φ (ζ mh iq c12):=HC.box.cell 2;have an3:iq<=c12/\c12<=2 ^ 63 - 1:=Wt HC.bo;have an4:n15<=c15/\c15<=2 ^ 63 - 1:=Wt HC.t;have HL:=ψ (ϐ UB UC);clear UB UC;have HC:=ψ HC;rename_i Kt;clear Kt ZD cT;go_wp2;clear k2;go_loopw [22] (λu wr=>∃i:Nat,i<=iq/\u=ξ κ i/\Hid (∃oV,CI No b w wr w.heap.size s1 s2 (ζ A9 n9 c9) (ζ mh iq c12) (ζ pG n15 c15) oV ts)) (λu _=>iq - (ϗ u).toNat)
  case atStart=>exact⟨0,ϝ _,rfl,ψ ⟨bs,HC.e⟩⟩
  case round=>
   obtain⟨i,hi,rfl,oV,hC⟩:=hrel;by_cases al:i<iq
   ·obtain⟨rb,rfl⟩:=Ww hC.bo (by omega)
    have tE:iq=oV.length:=Be hC.bo;obtain⟨⟨x,kv⟩,hx⟩:∃p,oV[i]?=φ p:=⟨_,Af2 (by omega)⟩
    have da:=hC.kn _ (ϡ hx);simp only at da;have hxs:x.cM.length<=3:=by
     have:x∈b.aF:=by rw[<-hC.oW];exact Ahw.2 ⟨_,ϡ hx,rfl⟩
     exact(HV.e.bp x this).cM
    obtain⟨kn,rI⟩:∃k,k=x.cM:=⟨_,rfl⟩
    rw[<-rI] at da hxs;obtain⟨m5,rN⟩:∃m,m=kn.length:=⟨_,rfl⟩
    obtain⟨A5,c5,rfl,-⟩:=id da;rw[<-rN] at da hxs hx;have g0: wr.cell? ⟨rb,i * 3,ν⟩=φ (.string x.name):=hC.Gx (j:=0) hx rfl;have g1: wr.cell? ⟨rb,i * 3+1,ν⟩=φ (ξ κ x.aH):=hC.Gx (j:=1) hx rfl;have g2: wr.cell? ⟨rb,i * 3+2,ν⟩=φ (ζ A5 m5 c5):=hC.Gx (j:=2) hx rfl;have mF:rb<wr.heap.size:=vU hC.bo rb rfl;have Aq:w.heap.size<rb:=by have:=ei hC.bo rb rfl;have:=hC.g1;omega
    have HX:=ψ (ϐ hx (ϐ rI rN));have KE:=ψ da;have qZ:=ψ hC;clear hx da hC rI rN tE;go_wp2;have oo:=qZ.e.grown (W':=(wr.alloc (Ξ #[.string x.name,ξ κ x.aH,ζ A5 m5 c5] 59)).drew) (qd wr _ ν);have Kx:=ψ oo;have Ep:(wr.alloc (Ξ #[.string x.name,ξ κ x.aH,ζ A5 m5 c5] 59)).drew.cell? ⟨w.heap.size,2,ν⟩=φ (ζ (φ ⟨rb,0,ν⟩) iq c12):=oo.box.cell 2;have Di:(wr.alloc (Ξ #[.string x.name,ξ κ x.aH,ζ A5 m5 c5] 59)).drew.cell? ⟨wr.heap.size,2,ν⟩=φ (ζ A5 m5 c5):=(Bk.new wr _ _).cell 2;have aB:Hid (ύ prog 179 #[ζ A5 m5 c5] (wr.alloc (Ξ #[.string x.name,ξ κ x.aH,ζ A5 m5 c5] 59)).drew λe w'=>∃v',e=Ω v'/\
     cW w' (rj No w.heap.size (ζ (φ ⟨rb,0,ν⟩) iq c12) (ζ pG n15 c15)) 2 Span.R v' kn/\Γ (wr.alloc (Ξ #[.string x.name,ξ κ x.aH,ζ A5 m5 c5] 59)).drew.heap.size (wr.alloc (Ξ #[.string x.name,ξ κ x.aH,ζ A5 m5 c5] 59)).drew w'):=ψ (by
     have hk:=KE.e.grown (w':=(wr.alloc (Ξ #[.string x.name,ξ κ x.aH,ζ A5 m5 c5] 59)).drew) (qd wr _ ν) (by simp)
     obtain⟨r0,r1,r2,r3,lf⟩:=oo.res;refine(aaJ hk.row (ϊ _) (λ_=>rfl) (λp _=>al5 p) (by rw[<-HX.e.2.2];omega)).mono ?_
     rintro e w' ⟨v',rfl,ho,hb⟩;refine⟨v',rfl,cW.vO ho (λ_=>rfl) (λ_ _=>rfl) (λk hk=>?_),hb⟩
     rcases hk with hk|hk|hk|hk
     ·exact vU oo.bo k hk
     ·exact vU oo.t k hk
     ·rw[hk];exact lf.lt
     ·have:=sT.e k hk;have:=lf.lt;omega)
    clear oo;go_region_held3 (λw'=> w'.cell? ⟨w.heap.size,2,ν⟩=φ (ζ (φ ⟨rb,0,ν⟩) iq c12)/\ w'.cell? ⟨wr.heap.size,2,ν⟩=φ (ζ A5 m5 c5))
     (first|exact⟨Ep,Di⟩ |exact⟨mH,ak⟩ |exact⟨rY _,ef _⟩)
     (first
       | (go_at_call 179
          refine aB.e.mono ?_
          rintro e w5 ⟨v9,rfl,r9,oZ⟩;obtain⟨A7,c7,rfl,-⟩:=id r9;have mH: w5.cell? ⟨w.heap.size,2,ν⟩=φ (ζ (φ ⟨rb,0,ν⟩) iq c12):=(oZ.cell (by simp;omega)).trans Ep
          have ak: w5.cell? ⟨wr.heap.size,2,ν⟩=φ (ζ A5 m5 c5):=(oZ.cell (by simp)).trans Di
          have cX:=Kx.e.grown (je oZ (ϊ _) ν);have hg: w5.cell? ⟨rb,i * 3+2,ν⟩=φ (ζ A5 m5 c5):=cX.Gx (j:=2) HX.e.1 rfl;have hf: w5.frozen? ⟨rb,i * 3+2,ν⟩=χ:=cX.ac1 _;have rY:∀u,(w5.setCell ⟨rb,i * 3+2,ν⟩ u).cell? ⟨w.heap.size,2,ν⟩=φ (ζ (φ ⟨rb,0,ν⟩) iq c12):=λu=>(Ail _ _ _ _ (by simp;omega)).trans mH
          have ef:∀u,(w5.setCell ⟨rb,i * 3+2,ν⟩ u).cell? ⟨wr.heap.size,2,ν⟩=φ (ζ A5 m5 c5):=λu=>(Ail _ _ _ _ (by simp;omega)).trans ak
          have lF:=ψ (ϐ r9 cX);clear oZ r9 cX))
    go_wp2;go_roundw;case rel=>exact⟨i+1,by omega,by go_num,ψ ⟨_,lF.e.2.alm HX.e.1 (by rw[<-HX.e.2.1];exact lF.e.1)⟩⟩
    case measure=>simp[ϗ];omega
   ·obtain rfl:i=iq:=by omega
    have Ku:=ψ hC;obtain⟨wb,rfl⟩:∃wb:Ψ,wb=wr:=⟨_,rfl⟩
    have k3: wb.cell? ⟨w.heap.size,3,ν⟩=φ (ζ pG n15 c15):=hC.box.cell 3;clear hC;go_wp2;clear k3;go_loopw [39] (λu wr=>∃k:Nat,k<=n15/\u=ξ κ k/\Hid (∃qT,CI No b w wr w.heap.size s1 s2 (ζ A9 n9 c9) (ζ mh i c12) (ζ pG n15 c15) oV qT)) (λu _=>n15 - (ϗ u).toNat)
    case atStart=>exact⟨0,ϝ _,rfl,ψ ⟨ts,Ku.e⟩⟩
    case round=>
     obtain⟨k,hk,rfl,qT,hC⟩:=hrel;by_cases al:k<n15
     ·obtain⟨rb,rfl⟩:=Ww hC.t (by omega)
      have tE:n15=qT.length:=Be hC.t;obtain⟨⟨x,kv⟩,hx⟩:∃p,qT[k]?=φ p:=⟨_,Af2 (by omega)⟩
      have da:=hC.tp _ (ϡ hx);simp only at da;have hxs:x.pieces.length<=3:=by
       have:x∈b.aJ:=by rw[<-hC.pD];exact Ahw.2 ⟨_,ϡ hx,rfl⟩
       have:=(HV.e.tape x this).2;have:=HV.e.np;omega
      obtain⟨kn,rI⟩:∃k,k=x.pieces:=⟨_,rfl⟩
      rw[<-rI] at da hxs;obtain⟨m5,rN⟩:∃m,m=kn.length:=⟨_,rfl⟩
      obtain⟨A5,c5,rfl,-⟩:=id da;rw[<-rN] at da hxs hx;have g0: wr.cell? ⟨rb,k * 3,ν⟩=φ (ζ A5 m5 c5):=hC.Gy (j:=0) hx rfl;have g1: wr.cell? ⟨rb,k * 3+1,ν⟩=φ (ξ κ x.sum.lo):=hC.Gy (j:=1) hx rfl;have g2: wr.cell? ⟨rb,k * 3+2,ν⟩=φ (ξ κ x.sum.hi):=hC.Gy (j:=2) hx rfl;have mF:rb<wr.heap.size:=vU hC.t rb rfl;have Aq:w.heap.size<rb:=by have:=ei hC.t rb rfl;have:=hC.g1;have:=hC.g2;omega
      have HX:=ψ (ϐ hx (ϐ rI rN));have KE:=ψ da;have qZ:=ψ hC;clear hx da hC rI rN tE;go_wp2;have oo:=qZ.e.grown (W':=(wr.alloc (Ξ #[ζ A5 m5 c5,ξ κ x.sum.lo,ξ κ x.sum.hi] 95)).drew) (qd wr _ ν);have Kx:=ψ oo;have Ep:(wr.alloc (Ξ #[ζ A5 m5 c5,ξ κ x.sum.lo,ξ κ x.sum.hi] 95)).drew.cell? ⟨w.heap.size,3,ν⟩=φ (ζ (φ ⟨rb,0,ν⟩) n15 c15):=oo.box.cell 3;have Di:(wr.alloc (Ξ #[ζ A5 m5 c5,ξ κ x.sum.lo,ξ κ x.sum.hi] 95)).drew.cell? ⟨wr.heap.size,0,ν⟩=φ (ζ A5 m5 c5):=(Bk.new wr _ _).cell 0;have aB:Hid (ύ prog 180 #[ζ A5 m5 c5] (wr.alloc (Ξ #[ζ A5 m5 c5,ξ κ x.sum.lo,ξ κ x.sum.hi] 95)).drew λe w'=>∃v',e=Ω v'/\
               cW w' (rj No w.heap.size (ζ mh i c12) (ζ (φ ⟨rb,0,ν⟩) n15 c15)) 1 cH v' kn/\Γ (wr.alloc (Ξ #[ζ A5 m5 c5,ξ κ x.sum.lo,ξ κ x.sum.hi] 95)).drew.heap.size (wr.alloc (Ξ #[ζ A5 m5 c5,ξ κ x.sum.lo,ξ κ x.sum.hi] 95)).drew w'):=ψ (by
       have hk:=KE.e.grown (w':=(wr.alloc (Ξ #[ζ A5 m5 c5,ξ κ x.sum.lo,ξ κ x.sum.hi] 95)).drew) (qd wr _ ν) (by simp)
       obtain⟨r0,r1,r2,r3,lf⟩:=oo.res;refine(aaD (f:=λn=> [ξ κ n]) hk.row (ϊ _) (λ_=>rfl) (λp _=>ago p) (by rw[<-HX.e.2.2];omega)).mono ?_
       rintro e w' ⟨v',rfl,ho,hb⟩;refine⟨v',rfl,cW.vO ho (λ_=>rfl) (λ_ _=>rfl) (λk hk=>?_),hb⟩
       rcases hk with hk|hk|hk|hk
       ·exact vU oo.bo k hk
       ·exact vU oo.t k hk
       ·rw[hk];exact lf.lt
       ·have:=sT.e k hk;have:=lf.lt;omega)
      clear oo;go_region_held3 (λw'=> w'.cell? ⟨w.heap.size,3,ν⟩=φ (ζ (φ ⟨rb,0,ν⟩) n15 c15)/\ w'.cell? ⟨wr.heap.size,0,ν⟩=φ (ζ A5 m5 c5))
       (first|exact⟨Ep,Di⟩ |exact⟨mH,ak⟩ |exact⟨rY _,ef _⟩)
       (first
               | (go_at_call 180
                  refine aB.e.mono ?_
                  rintro e w5 ⟨v9,rfl,r9,oZ⟩;obtain⟨A7,c7,rfl,-⟩:=id r9;have mH: w5.cell? ⟨w.heap.size,3,ν⟩=φ (ζ (φ ⟨rb,0,ν⟩) n15 c15):=(oZ.cell (by simp;omega)).trans Ep
                  have ak: w5.cell? ⟨wr.heap.size,0,ν⟩=φ (ζ A5 m5 c5):=(oZ.cell (by simp)).trans Di
                  have cX:=Kx.e.grown (je oZ (ϊ _) ν);have hg: w5.cell? ⟨rb,k * 3,ν⟩=φ (ζ A5 m5 c5):=cX.Gy (j:=0) HX.e.1 rfl;have hf: w5.frozen? ⟨rb,k * 3,ν⟩=χ:=cX.ac2 _;have rY:∀u,(w5.setCell ⟨rb,k * 3,ν⟩ u).cell? ⟨w.heap.size,3,ν⟩=φ (ζ (φ ⟨rb,0,ν⟩) n15 c15):=λu=>(Ail _ _ _ _ (by simp;omega)).trans mH
                  have ef:∀u,(w5.setCell ⟨rb,k * 3,ν⟩ u).cell? ⟨wr.heap.size,0,ν⟩=φ (ζ A5 m5 c5):=λu=>(Ail _ _ _ _ (by simp;omega)).trans ak
                  have lF:=ψ (ϐ r9 cX);clear oZ r9 cX))
      go_wp2;go_roundw;case rel=>exact⟨k+1,by omega,by go_num,ψ ⟨_,lF.e.2.alo HX.e.1 (by rw[<-HX.e.2.1];exact lF.e.1)⟩⟩
      case measure=>simp[ϗ];omega
     ·obtain rfl:k=n15:=by omega
      have q0:=hC.box.cell 0;have q1:=hC.box.cell 1;have q2:=hC.box.cell 2;have q3:=hC.box.cell 3;obtain⟨r0,r1,r2,r3,lf⟩:=hC.res;have p0:=lf.cell 0;have p1:=lf.cell 1;have p2:=lf.cell 2;have p3:=lf.cell 3;have f0:=lf.frozen 0;have f1:=lf.frozen 1;have f2:=lf.frozen 2;have f3:=lf.frozen 3;have rV:w.heap.size+1<wr.heap.size:=lf.lt;have qZ:=ψ hC;clear hC;have qz:=((((lf.set 0 (ξ κ b.ag)).set 1 (ζ A9 n9 c9)).set 2 (ζ mh i c12)).set 3 (ζ pG k c15));have y0:=qz.cell 0;have y1:=qz.cell 1;have y2:=qz.cell 2;have y3:=qz.cell 3;have QY:=ψ ((((qZ.e.Ja (i:=0) (u:=ξ κ b.ag) (by omega)).Ja (i:=1) (u:=ζ A9 n9 c9) (by omega)).Ja (i:=2) (u:=ζ mh i c12) (by omega)).Ja (i:=3) (u:=ζ pG k c15) (by omega))
      clear lf qz;go_wp2;refine bodyPost_ret (v:=η #[ξ κ b.ag,ζ A9 n9 c9,ζ mh i c12,ζ pG k c15]) (by simp[results,Tryz.results136,go_sem,y0,y1,y2,y3]) rfl ⟨_,_,_,_,_,rfl,QY.e.ZO YR.e Y1.e sT.e,QY.e.below⟩
def ug{P:Program}{ops:Array Oper}{o:Oper}{a:Act}{w:Ψ}{K:Act->Ψ->Prop}{Q:Exit->Act->Ψ->Prop}{E:Prop}(hg:o.guard=ν)(s x:Operand)(t:ϋ)
 (ho:o.op=.call {callee:=.builtin .append,args:=#[s,x],argTypes:=#[t,t]})
 (base:Nat)(e:ϋ)(i:TypeInfo)(z:υ)(size bytes:Nat)(ht:P.underlying t=φ (.slice e))(hi: P.info? e=φ i)(hz:i.zero=φ z)
 (yk:i.size=size)(ES:i.bytes=bytes)(hzs:z.cells.size=size)(aI:0<size)
 (v:υ)(n:Nat)(xs:List υ)(hs:a.eval s=v)(aG:w.ownsRow base e size v n xs)
 (ad:ϕ)(m c:Nat)(news:List υ)(hx:a.eval x=ζ (φ ad) m c)(hl:news.length=m * size)(Hs:∀j u,news[j]?=φ u-> w.cell? (ad.add j)=φ u)(h1:∀u∈news,u.oneCell'=θ)
 (TI:n+m<=ϖ)(abl:(n+m) * bytes<=140737488355328)(MO:base<=w.heap.size)
 (h:∀v' w',w'.ownsRow base e size v' (n+m) (xs++news)->w.grownBy w' v.ownBlock->K (a.put o.dst v') w'):if Region.wanted o (yielded ops a.tmps)=θ then Oper.wp P o a w K Q else E:=by
 have hw:Region.wanted o (yielded ops a.tmps)=θ:=by simp[Region.wanted,hg]
 rw[if_pos hw];exact wp_append_own w s x t ho base e i z size bytes ht hi hz yk ES hzs aI v n xs hs aG ad m c news hx hl Hs h1 TI abl MO λv' w' h2 h3 _=>h v' w' h2 h3
def fj(b:ao)(x:bR):ao:={b with aF:=b.aF++ [x]}
def Zg{w w1 w6:Ψ}{b:ao}{x:bR}{bs:List (bR×υ)}{pv bv tv kv yU:υ}{B:Nat}(hB:B<=w.heap.size)(ai:bg w B b pv bv tv)(Ib:x.name.size<=ϖ)(Ef:Row w B 2 Span.R kv x.cM)
 (ox:∀p∈bs,p.1.name.size<=ϖ/\Row w B 2 Span.R p.2 p.1.cM)(fe:bs.map Ai7=b.aF)(h1:Γ w.heap.size w w1)(h6:Γ w1.heap.size w1 w6)(hz:w.heap.size+3<=w1.heap.size)
 (o:w6.ownsRow w1.heap.size 59 3 yU (bs.length+1) (bs.flatMap eP++ [.string x.name,ξ κ x.aH,kv]))
 (kb:Bk w1 w.heap.size 26 #[ξ κ b.ag,pv,bv,tv])(kr:Bk w1 (w.heap.size+2) 26 #[ξ κ 0,ζ ν 0 0,ζ ν 0 0,ζ ν 0 0]):
 (∃oV qT,pI (w6.setCell ⟨w.heap.size,2,ν⟩ yU) (λk=>k=w.heap.size+2) (fj b x) pv yU tv oV qT)/\Bk (w6.setCell ⟨w.heap.size,2,ν⟩ yU) w.heap.size 26 #[ξ κ b.ag,pv,yU,tv]/\
 Bk (w6.setCell ⟨w.heap.size,2,ν⟩ yU) (w.heap.size+2) 26 #[ξ κ 0,ζ ν 0 0,ζ ν 0 0,ζ ν 0 0]/\Γ w.heap.size w (w6.setCell ⟨w.heap.size,2,ν⟩ yU)/\Rh yU:=by
 have e6:=h6.size;have bW:Γ w.heap.size w (w6.setCell ⟨w.heap.size,2,ν⟩ yU):=(h1.trans (h6.mono (by omega))).setCell (ϊ _) _
 have o':(w6.setCell ⟨w.heap.size,2,ν⟩ yU).ownsRow w1.heap.size 59 3 yU (bs++ [(x,kv)]).length ((bs++ [(x,kv)]).flatMap eP):=by
  have:=mO (u:=yU) (p:=⟨w.heap.size,2,ν⟩) o (by simp<;>omega)
  simpa [eP] using this
 have hN:∀k,k=w.heap.size+2->(λk=>w.heap.size<=k) k\/w.heap.size<=k:=λk hk=>Or.inr (by omega)
 obtain⟨bs0,ts,hn⟩:=ai.um (No:=λk=>w.heap.size<=k) hB (λk hk=>by omega)
 refine⟨⟨bs++ [(x,kv)],ts,hn.p.below bW hN,cW.vO o' (λ_=>rfl) (λp hm=>rfl) (λk hk=>by omega),hn.t.below bW hN,by simp[fj,fe],hn.pD,λp hm=>?_,λp hm=>(hn.tp p hm).below bW hN⟩,(kb.below h6 (by omega)).set 2 yU,(kr.below h6 (by omega)).dn (by simp) _,bW,pw o⟩
 rcases Af1.1 hm with hm|hm
 ·exact⟨(ox p hm).1,((ox p hm).2.um (No:=λk=>w.heap.size<=k) hB (λk hk=>by omega)).below bW hN⟩
 ·simp at hm;subst hm
  exact⟨Ib,(Ef.um (No:=λk=>w.heap.size<=k) hB (λk hk=>by omega)).below bW hN⟩
def Zh{w:Ψ}{b:ao}{x:bR}{pv bv tv kv:υ}{B:Nat}(hB:B<=w.heap.size)(ai:bg w B b pv bv tv)(Ib:x.name.size<=ϖ)(Ef:Row w B 2 Span.R kv x.cM)(h0:dF b=0)(h1:dF (fj b x)=0):
 ύ prog 53 #[η #[ξ κ b.ag,pv,bv,tv],η #[.string x.name,ξ κ x.aH,kv]] w λe w'=>∃ix ia fD,e=Ω (μ #[η #[ξ κ b.ag,ix,ia,fD],ξ κ 0])/\bg w' w'.heap.size (fj b x) ix ia fD/\Γ w.heap.size w w':=by
 obtain⟨bs,fe,xH⟩:=I1 (R':=λ(p:bR×υ) cs=>cs=eP p/\p.1.name.size<=ϖ/\Row w B 2 Span.R p.2 p.1.cM) ai.aF (λx cs ⟨kv,h1,h2,h3⟩=>⟨kv,h1,h2,h3⟩)
 have ox:∀p∈bs,p.1.name.size<=ϖ/\Row w B 2 Span.R p.2 p.1.cM:=λp hp=>by obtain⟨cs,h1,h2⟩:=xH.mem p hp;exact h2
 have F4:Hid (Row w B 3 (λp cs=>cs=eP p) bv bs):=ψ (xH.still (Δ.refl w) λ_ _ h=>h.1)
 have Dq:∀p∈bs,∀u∈eP p,u.oneCell'=θ:=λp hp u hu=>by
  obtain⟨A,c,e,_⟩:=(ox p hp).2;simp[eP] at hu;rcases hu with rfl|rfl|rfl
  ·rfl
  ·rfl
  ·rw[e];rfl
 have fX:bs.length=b.aF.length:=by rw[<-fe,Ah6]
 have hv:=iy h0;have Au:bs.length<=3:=by rw[fX];exact hv.nb
 have C2:Hid (∀w',Δ B w w'->B<=w'.heap.size->ύ prog 135 #[bv] w' λe bq=>∃v',e=Ω v'/\bq.ownsRow w'.heap.size 59 3 v' bs.length (bs.flatMap eP)/\Γ w'.heap.size w' bq):=
  ψ λw' hs hz=>Su (F4.e.still hs λ_ _ h=>h) hz (λ_=>rfl) Dq (by omega)
 have HM:=ψ (ϐ ox (ϐ fe fX));have bT:=ψ ai;have HH:=ψ (ϐ h0 (ϐ h1 (ϐ Ib Ef)));obtain⟨A1,n1,c1,rfl,-⟩:=ai.pieces.Φ;obtain⟨A2,n2,c2,rfl,-⟩:=ai.aF.Φ;obtain⟨A3,n3,c3,rfl,-⟩:=ai.aJ.Φ;obtain⟨A4,n4,c4,rfl,-⟩:=Ef.Φ;obtain⟨i0,cR,cT,aN,ba⟩:=Agv VI;have dv:=ψ (ϐ cR (ϐ cT (ϐ aN ba)));clear ai xH ox Dq fe fX hv h0 h1 Ib Ef cR cT aN ba;go_enter func53,Tryz.ntmps53;go_wp2_with (first
  | (go_at_call 68;refine(ry (bT.e.still ((((Δ.refl w).alloc hB _).alloc (by simp<;>omega) _).alloc (by simp<;>omega) _)) (by simp<;>omega) HH.e.1).mono ?_;rintro e w1 ⟨rfl,ae⟩
     have kb:Bk w1 w.heap.size 26 #[ξ κ b.ag,ζ A1 n1 c1,ζ A2 n2 c2,ζ A3 n3 c3]:=(((Bk.new w _ _).alloc _).alloc _).below ae (by simp<;>omega)
     have kx:Bk w1 (w.heap.size+1) 59 #[.string x.name,ξ κ x.aH,ζ A4 n4 c4]:=((Bk.cG (by simp<;>omega) _ _).alloc _).below ae (by simp<;>omega)
     have kr:Bk w1 (w.heap.size+2) 26 #[ξ κ 0,ζ ν 0 0,ζ ν 0 0,ζ ν 0 0]:=(Bk.cG (by simp<;>omega) _ _).below ae (by simp)
     have aY:Hid (Γ w.heap.size w w1):=ψ (((((ώ _ _).alloc (ϊ _) _).alloc (by simp) _).alloc (by simp<;>omega) _).trans (ae.mono (by simp<;>omega)))
     have HK:=ψ (ϐ kb (ϐ kx kr));clear kb kx kr ae))
 have k2: w1.cell? ⟨w.heap.size,2,ν⟩=φ (ζ A2 n2 c2):=HK.e.1.cell 2;have x0: w1.cell? ⟨w.heap.size+1,0,ν⟩=φ (.string x.name):=HK.e.2.1.cell 0;have x1: w1.cell? ⟨w.heap.size+1,1,ν⟩=φ (ξ κ x.aH):=HK.e.2.1.cell 1;have x2: w1.cell? ⟨w.heap.size+1,2,ν⟩=φ (ζ A4 n4 c4):=HK.e.2.1.cell 2;have hz:w.heap.size+3<=w1.heap.size:=HK.e.2.2.lt;have jW:w.heap.size<w1.heap.size:=by omega
 have ae3:w.heap.size<=w1.heap.size:=by omega
 have ae4:w.heap.size+1<w1.heap.size:=by omega
 have ae5:w.heap.size+1<=w1.heap.size:=by omega
 have XD:Hid (Γ w1.heap.size w1 w1.drew):=ψ (iY (ώ _ _));have XA:Hid (∀o,Γ w1.heap.size w1 (w1.drew.alloc o)):=ψ λo=>(iY (ώ _ _)).alloc (ϊ _) o
 have SB:Hid (∀w',Γ w1.heap.size w1 w'->Δ B w w'/\B<=w'.heap.size):=ψ λw' h=>⟨Δ.aK (aY.e.trans (h.mono (by omega))) hB,by have:=h.size;omega⟩
 refine Code.wp_mono (Q:=dP λa W=>∃mh iq c12 XX wE n19 c19,a={tmps:=#[Value.agg #[ξ κ b.ag,ζ A1 n1 c1,ζ A2 n2 c2,ζ A3 n3 c3],Value.agg #[.string x.name,ξ κ x.aH,ζ A4 n4 c4],Value.pointer (φ {block:=w.heap.size,off:=0}),Value.pointer (φ {block:=w.heap.size+1,off:=0}),Value.pointer (φ {block:=w.heap.size+1+1,off:=0}),ξ κ 0,ξ κ 0,ω,Value.agg #[ξ κ b.ag,ζ A1 n1 c1,ζ A2 n2 c2,ζ A3 n3 c3],ξ κ 0,ξ κ 0,.bool χ,ω,ω,Value.pointer (φ {block:=w.heap.size,off:=2}),ζ A2 n2 c2,ζ mh iq c12,Value.agg #[.string x.name,ξ κ x.aH,ζ A4 n4 c4],XX,ζ wE n19 c19,Value.pointer (φ {block:=w.heap.size,off:=2}),ω,ω,ω,ω,ω,ω,ω,ω],defers:=[]}/\Hid ((∃oV qT,pI W (λk=>k=w.heap.size+2) (fj b x) (ζ A1 n1 c1) (ζ wE n19 c19) (ζ A3 n3 c3) oV qT)/\Bk W w.heap.size 26 #[ξ κ b.ag,ζ A1 n1 c1,ζ wE n19 c19,ζ A3 n3 c3]/\
  Bk W (w.heap.size+2) 26 #[ξ κ 0,ζ ν 0 0,ζ ν 0 0,ζ ν 0 0]/\Γ w.heap.size w W)) ?post ?region
 case region=>
  go_region_law (first
   | (go_simp
      go_at_call 135
      refine(C2.e _ ?h1 ?h2).mono ?_
      case h1=>first|exact(SB.e _ XD.e).1|exact(SB.e _ (XA.e _)).1
      case h2=>first|exact(SB.e _ XD.e).2|exact(SB.e _ (XA.e _)).2
      rintro e w3 ⟨v12,rfl,qN,bD⟩;have fw:Hid (Γ w1.heap.size w1 w3):=ψ (by first|exact XD.e.trans bD|exact(XA.e _).trans (bD.mono (by simp)))
      have zv:Hid (w3.ownsRow w1.heap.size 59 3 v12 bs.length (bs.flatMap eP)):=ψ (qN.base (by simp))
      have rE:=HK.e.2.1.below fw.e (by omega)
      have x0: w3.cell? ⟨w.heap.size+1,0,ν⟩=φ (.string x.name):=rE.cell 0;have x1: w3.cell? ⟨w.heap.size+1,1,ν⟩=φ (ξ κ x.aH):=rE.cell 1;have x2: w3.cell? ⟨w.heap.size+1,2,ν⟩=φ (ζ A4 n4 c4):=rE.cell 2;have jB:w1.heap.size<=w3.heap.size:=fw.e.size
      try(have HZ:Hid (∀(j:Nat) (u:υ),[Value.string x.name,ξ κ x.aH,ζ A4 n4 c4][j]?=φ u-> w3.cell? ((⟨w1.heap.size,0,ν⟩:ϕ).add j)=φ u):=ψ (λj u hu=>by
       rw[nu];have:=((Bk.new w1.drew 59 #[.string x.name,ξ κ x.aH,ζ A4 n4 c4]).below bD (by simp)).cell j
       simpa using this.trans (by simpa using hu)))
      obtain⟨mh,iq,c12,rfl⟩:=pw qN;clear bD qN rE)
   | (refine ug rfl (.tmp 16) (.tmp 18) 23 rfl w1.heap.size 59 i0 (η #[.string {data:=#[]},ξ κ 0,ζ ν 0 0]) 3 48 (U Tryz.underlying23) dv.e.1 dv.e.2.1 dv.e.2.2.1 dv.e.2.2.2 rfl (by decide) _ bs.length (bs.flatMap eP) rfl zv.e ⟨w1.heap.size,0,ν⟩ 1 1 [.string x.name,ξ κ x.aH,ζ A4 n4 c4] rfl rfl HZ.e ?c2 ?c3 ?c4 jB ?_
      case c2=>simp[Value.oneCell']
      case c3=>(simp only[ϖ];omega)
      case c4=>omega
      intro v' w6 aG dS;have HO:=ψ aG;have xO:Γ w1.heap.size w1 w6:=fw.e.grown dS jB (λk hk=>ei zv.e k hk)
      have gU:=ψ xO;have ig:=HK.e.1.below xO (by omega)
      have q2: w6.cell? ⟨w.heap.size,2,ν⟩=φ (ζ A2 n2 c2):=ig.cell 2;have f2: w6.frozen? ⟨w.heap.size,2,ν⟩=χ:=ig.frozen 2;obtain⟨wE,n19,c19,rfl⟩:=pw aG;clear aG dS xO ig)
   | (refine ug rfl (.tmp 16) (.tmp 18) 23 rfl w1.heap.size 59 i0 (η #[.string {data:=#[]},ξ κ 0,ζ ν 0 0]) 3 48 (U Tryz.underlying23) dv.e.1 dv.e.2.1 dv.e.2.2.1 dv.e.2.2.2 rfl (by decide) _ bs.length (bs.flatMap eP) rfl (zv.e.alloc _) ⟨w3.heap.size,0,ν⟩ 1 1 [.string x.name,ξ κ x.aH,ζ A4 n4 c4] rfl rfl ?c1 ?c2 ?c3 ?c4 ?c5 ?_
      case c1=>(intro j u hu;rw[nu];have:=(Bk.new w3 59 #[.string x.name,ξ κ x.aH,ζ A4 n4 c4]).cell j;simpa using this.trans (by simpa using hu))
      case c2=>simp[Value.oneCell']
      case c3=>(simp only[ϖ];omega)
      case c4=>omega
      case c5=>(simp<;>omega)
      intro v' w6 aG dS;have HO:=ψ aG;have xO:Γ w1.heap.size w1 w6:=(fw.e.alloc jB _).grown dS (by simp<;>omega) (λk hk=>ei zv.e k hk)
      have gU:=ψ xO;have ig:=HK.e.1.below xO (by omega)
      have q2: w6.cell? ⟨w.heap.size,2,ν⟩=φ (ζ A2 n2 c2):=ig.cell 2;have f2: w6.frozen? ⟨w.heap.size,2,ν⟩=χ:=ig.frozen 2;obtain⟨wE,n19,c19,rfl⟩:=pw aG;clear aG dS xO ig))
  all_goals
   have Hq:=Zg hB bT.e HH.e.2.2.1 HH.e.2.2.2 HM.e.1 HM.e.2.1 aY.e gU.e hz HO.e HK.e.1 HK.e.2.2;show ∃_,_
   exact⟨_,_,_,_,_,_,_,rfl,ψ ⟨Hq.1,Hq.2.1,Hq.2.2.1,Hq.2.2.2.1⟩⟩
 case post=>
  clear C2 dv k2 x0 x1 x2 XD XA SB jW ae3 ae4 ae5 hz HK F4 Au;refine dP.imp ?_
  rintro a W ⟨mh,iq,c12,XX,wE,n19,c19,rfl,⟨oV,qT,hp⟩,ig,xS,fX⟩;have k0:=ig.cell 0;have k1:=ig.cell 1;have k2:=ig.cell 2;have k3:=ig.cell 3;have HP:=ψ hp;have HK:=ψ (ϐ ig (ϐ xS fX));have iM:w.heap.size<W.heap.size:=ig.lt;have TJ:=ψ (ry hp.book (ϊ _) HH.e.2.1);have vy:(fj b x).ag=b.ag:=rfl;rw[vy] at TJ;clear hp ig xS fX vy;go_wp2_with (first
   | (go_at_call 68
      refine TJ.e.mono ?_
      rintro e w7 ⟨rfl,jx⟩;have DG:=HK.e.1.below jx iM;have k0: w7.cell? ⟨w.heap.size,0,ν⟩=φ (ξ κ b.ag):=DG.cell 0;have k1: w7.cell? ⟨w.heap.size,1,ν⟩=φ (ζ A1 n1 c1):=DG.cell 1;have k2: w7.cell? ⟨w.heap.size,2,ν⟩=φ (ζ wE n19 c19):=DG.cell 2;have k3: w7.cell? ⟨w.heap.size,3,ν⟩=φ (ζ A3 n3 c3):=DG.cell 3;have Xc:=ψ (HK.e.2.1.below jx HK.e.2.1.lt);have Zk:=(copied (w:=w7) (HP.e.grown (je jx (ϊ _) ν) nofun) (λk hk=>by have:=Xc.e.lt;omega) (iy HH.e.2.1))
      have vy:(fj b x).ag=b.ag:=rfl;rw[vy] at Zk;have Ym:=ψ Zk;clear Zk vy;have QW:=ψ jx;clear jx DG)
   | (go_at_call 136
      refine Ym.e.mono ?_
      rintro e w8 ⟨p8,b8,t8,bs8,ts8,rfl,MW,Ah⟩;have Ha:=MW.book;have qK:=Xc.e.below Ah Xc.e.lt;have r0:=qK.cell 0;have r1:=qK.cell 1;have r2:=qK.cell 2;have r3:=qK.cell 3;have f0:=qK.frozen 0;have f1:=qK.frozen 1;have f2:=qK.frozen 2;have f3:=qK.frozen 3;have hz8:w.heap.size+2<w8.heap.size:=qK.lt;obtain⟨JZ,OY,LG,rfl,-⟩:=Ha.pieces.Φ;obtain⟨J0,OZ,LH,rfl,-⟩:=Ha.aF.Φ;obtain⟨J1,n83,LI,rfl,-⟩:=Ha.aJ.Φ;have Yy:=ψ Ah;have Q0:=ψ (ϐ MW qK);clear Ah Ha MW qK))
  have aeL:Bk w8 (w.heap.size+1+1) 26 #[ξ κ 0,ζ ν 0 0,ζ ν 0 0,ζ ν 0 0]:=Q0.e.2;have yh:=((((aeL.set 0 (ξ κ b.ag)).set 1 (ζ JZ OY LG)).set 2 (ζ J0 OZ LH)).set 3 (ζ J1 n83 LI));have y0:=yh.cell 0;have y1:=yh.cell 1;have y2:=yh.cell 2;have y3:=yh.cell 3;have hG:=λ(V:Ψ) (i:Nat) (u:υ)=>uV V ⟨w.heap.size+2,i,ν⟩ u
  have bj:∀k,φ (w.heap.size+2)=φ k->(λk=>k=w.heap.size+2) k:=λk e=>by injection e with e;exact e.symm
  have Nj:=((((Q0.e.1.grown (hG _ 0 (ξ κ b.ag)) bj).grown (hG _ 1 (ζ JZ OY LG)) bj).grown (hG _ 2 (ζ J0 OZ LH)) bj).grown (hG _ 3 (ζ J1 n83 LI)) bj);have jS:Γ w.heap.size w w8:=(HK.e.2.2.trans (QW.e.mono (Agl iM))).trans (Yy.e.mono (by have:=QW.e.size;omega))
  refine bodyPost_ret (v:=μ #[η #[ξ κ b.ag,ζ JZ OY LG,ζ J0 OZ LH,ζ J1 n83 LI],ξ κ 0]) (by simp[results,Tryz.results53,go_sem,y0,y1,y2,y3]) rfl ⟨_,_,_,rfl,Nj.book,?_⟩
  exact(((jS.setCell (by simp<;>omega) _).setCell (by simp<;>omega) _).setCell (by simp<;>omega) _).setCell (by simp<;>omega) _
def pY:List Int->List Int->Int
 | [],[]=>0
 | [],_::_=> -1
 |_::_,[]=>1
 |x::xs,y::ys=>if Aii x y=0 then pY xs ys else Aii x y
def zN{w:Ψ}{xs ys:List Int}{v u:υ}{B:Nat}(hv:Row w B 1 cH v xs)(hu:Row w B 1 cH u ys)(hB:B<=w.heap.size):
 ύ prog 139 #[v,u] w λe w'=>e=Ω (ξ κ (pY xs ys))/\w=w':=by
 obtain⟨A1,n1,c1,rfl,e1,h1,eA,r1⟩:=hv.Φ;obtain⟨A2,n2,c2,rfl,e2,h2,dW,r2⟩:=hu.Φ;unfold ϖ at eA dW;have R1:=ψ r1;have R2:=ψ r2;have E:=ψ (ϐ e1 e2);clear r1 r2 e1 e2 hv hu;have aB:Hid (∀(x y:Int) (w:Ψ),ύ Tw.prog 181 #[ξ κ x,ξ κ y] w λe w'=>e=Ω (ξ κ (Aii x y))/\w'=w):=ψ (λx y w=>Sh.cmp_Compare_int x y w)
 go_enter func139,Tryz.ntmps139;go_wp2;go_loopw [11] (λk wr=>wr=w/\∃i:Nat,i<=n1/\i<=n2/\k=ξ κ i/\Hid (pY xs ys=pY (xs.drop i) (ys.drop i))) (λk _=>n1 - (ϗ k).toNat)
 case atStart=>exact⟨rfl,0,ϝ _,ϝ _,rfl,ψ rfl⟩
 case round=>
  obtain⟨rfl,i,hi,vm,rfl,hc⟩:=hrel;by_cases al:i<n1
  ·obtain⟨ad,x,cs,kX,aC,hx,rfl,-,au⟩:=R1.e i al
   subst kX;have g0: wr.cell? (ad.add (i * 1))=φ (ξ κ x):=cC au (Δ.refl wr) aC rfl;rw[Agj] at g0;have Dt:xs.drop i=x::xs.drop (i+1):=(Air (ϸ.1 hx).1).trans (by rw[(ϸ.1 hx).2])
   have zm:=ψ Dt;clear Dt hx au;by_cases ae6:i<n2
   ·obtain⟨cI,y,jQ,CO,fV,hy,rfl,-,ie⟩:=R2.e i ae6
    subst CO;have g1: wr.cell? (cI.add (i * 1))=φ (ξ κ y):=cC ie (Δ.refl wr) fV rfl;rw[Agj] at g1;have vf:ys.drop i=y::ys.drop (i+1):=(Air (ϸ.1 hy).1).trans (by rw[(ϸ.1 hy).2])
    have uz:=ψ vf;clear vf hy ie;have aoD:((n2:Int)<=(i:Int))=False:=by simp;omega
    obtain⟨c,cX⟩:∃c,c=Aii x y:=⟨_,rfl⟩
    have CL:=ψ (aB.e x y wr);rw[<-cX] at CL;have qZ:=ψ cX;clear cX;by_cases ic:c=0
    ·have hb:(c !=0)=χ:=by simp[ic]
     go_wp2_with (first
      | (go_at_call 181;refine CL.e.mono ?_;rintro e w1 ⟨rfl,rfl⟩))
     go_roundw;case rel=>exact⟨trivial,i+1,by omega,by omega,by go_num,ψ (by rw[hc.e,zm.e,uz.e,pY,<-qZ.e,if_pos ic])⟩
     case measure=>simp[ϗ];omega
    ·have hb:(c !=0)=θ:=by simp[ic]
     go_wp2_with (first
      | (go_at_call 181;refine CL.e.mono ?_;rintro e w1 ⟨rfl,rfl⟩))
     go_ret;exact⟨aX (by rw[hc.e,zm.e,uz.e,pY,<-qZ.e,if_neg ic]),rfl⟩
   ·obtain rfl:i=n2:=by omega
    have vf:ys.drop i=[]:=Ais (Agi E.e.2);have uz:=ψ vf;clear vf;go_wp2;go_ret;exact⟨aX (by rw[hc.e,zm.e,uz.e,pY]),rfl⟩
  ·obtain rfl:i=n1:=by omega
   have Dt:xs.drop i=[]:=Ais (Agi E.e.1);have zm:=ψ Dt;clear Dt;by_cases hl:i<n2
   ·obtain⟨y,Yh,hy⟩:∃y Yh,ys.drop i=y::Yh:=⟨_,_,Air (by rw[E.e.2];exact hl)⟩
    have uz:=ψ hy;clear hy;go_wp2;go_ret;exact⟨aX (by rw[hc.e,zm.e,uz.e,pY]),rfl⟩
   ·have vf:ys.drop i=[]:=Ais (by rw[E.e.2];omega)
    have uz:=ψ vf;clear vf;go_wp2;go_ret;exact⟨aX (by rw[hc.e,zm.e,uz.e,pY]),rfl⟩
end Go.Tw
namespace Go.Tw
variable [Go.Tw.aR]
open Go Go.Proofs Go.RowKit
def Wu{w:Ψ}{b1 b2 e1 e2 s1 s2 n1 n2:Nat}{v1 v2:υ}{x1 x2:List υ}(h1:w.ownsRow b1 e1 s1 v1 n1 x1)(h2:w.ownsRow b2 e2 s2 v2 n2 x2)(aw:e1≠e2):∀k,v1.ownBlock=φ k->v2.ownBlock≠φ k:=by
 intro k hk cP;rcases h1.2 with⟨h0,_⟩ | ⟨g,cap,cur,a1,a2,a3,_⟩
 ·rw[h0] at hk;cases hk
 ·rcases h2.2 with⟨h0,_⟩ | ⟨g',zd,anN,c1,c2,c3,_⟩
  ·rw[h0] at cP;cases cP
  ·rw[a1] at hk;rw[c1] at cP
   injection hk with hk;injection cP with cP
   simp only at hk cP;subst hk;subst cP
   rw[a3] at c3;injection c3 with c3;injection c3 with _ c3
   exact aw c3
def dJ(m:Nat)(n:Nat):List Nat:=(Θ n).filter (λi=>m.testBit i)
def Ie{m n:Nat}(h:m.testBit n=θ):dJ m (n+1)=dJ m n++ [n]:=by simp[dJ,Ah0,h]
def Ic{m n:Nat}(h:m.testBit n=χ):dJ m (n+1)=dJ m n:=by simp[dJ,Ah0,h]
def fL{α:Type}(l:List α)(m n:Nat):List α:=(dJ m n).filterMap (λi=>l[i]?)
def Wz{α:Type}{l:List α}{m n:Nat}{x:α}(h:m.testBit n=θ)(hx:l[n]?=φ x):fL l m (n+1)=fL l m n++ [x]:=by
 unfold fL;rw[Ie h,List.filterMap_append];simp[hx]
def Wy{α:Type}{l:List α}{m n:Nat}(h:m.testBit n=χ):fL l m (n+1)=fL l m n:=by unfold fL;rw[Ic h]
def mM(b:ao)(m:Nat):ao:={b with aJ:=fL b.aJ m b.aJ.length}
def ajE{α β:Type}(f:α->β)(l:List α)(m n:Nat):fL (l.map f) m n=(fL l m n).map f:=by
 unfold fL;rw[List.map_filterMap];congr 1;funext i;simp
def Pc{α:Type}(l:List α)(m:Nat):∀n,n<=l.length->(fL l m n).length=(dJ m n).length
 |0,_=>by simp[fL,dJ]
 |n+1,h=>by
  have ih:=Pc l m n (by omega)
  cases hb:m.testBit n with
  |true=>rw[Wz hb (Af2 (by omega)),Ie hb];simp[ih]
  |false=>rw[Wy hb,Ic hb];exact ih
def lV(m n:Nat):List υ:=(dJ m n).map λk:Nat=>ξ κ (k:Int)
def Ek(m:Nat)(n:Nat):(dJ m n).length<=n:=by
 unfold dJ;refine ϧ (List.length_filter_le _ _) (by simp)
structure OI(w W:Ψ)(g z:Nat)(ag pv bv c7 v6 v7:υ)(el:Array υ)(n6 n7:Nat)(x6 x7:List υ):Prop where
 o6:W.ownsRow (g+3) 3 1 v6 n6 x6
 o7:W.ownsRow (g+3) 95 3 v7 n7 x7
 kr:Bk W (g+1) 117 #[ξ κ 0,ζ ν 0 0,ζ ν 0 0,ζ ν 0 0]
 kk:Bk W (g+2) 117 #[ag,pv,bv,c7]
 ke:Bk W z 95 el
 hb:Γ g w W
section
variable {w W W':Ψ}{g z n6 n7 m:Nat}{ag pv bv c7 v6 v7 v':υ}{el:Array υ}{x6 x7 ys:List υ}
def OI.alloc(h:OI w W g z ag pv bv c7 v6 v7 el n6 n7 x6 x7)(o:Obj):OI w (W.alloc o) g z ag pv bv c7 v6 v7 el n6 n7 x6 x7:=
 ⟨World.ownsRow.alloc h.o6 o,World.ownsRow.alloc h.o7 o,h.kr.alloc o,h.kk.alloc o,h.ke.alloc o,h.hb.alloc (by have:=h.kr.lt;omega) o⟩
def OI.Rv(h:OI w W g z ag pv bv c7 v6 v7 el n6 n7 x6 x7)(ho:W'.ownsRow (g+3) 3 1 v' m ys)(hg:W.grownBy W' v6.ownBlock):OI w W' g z ag pv bv c7 v' v7 el m n7 ys x7:=by
 have jU:=ei h.o6;refine⟨ho,EJ h.o7 hg (λk hk e=>Wu h.o6 h.o7 (by decide) k e hk),h.kr.grown hg (λe=>by have:=jU _ e.symm;omega),h.kk.grown hg (λe=>by have:=jU _ e.symm;omega),h.ke.grown hg (λe=>?_),h.hb.grown hg (by have:=h.kr.lt;omega) (λk hk=>by have:=jU k hk;omega)⟩
 rcases h.o6.2 with⟨h0,_⟩ | ⟨k,cap,cur,a1,a2,a3,_⟩
 ·rw[h0] at e;cases e
 ·rw[a1] at e;injection e with e
  have tD:=h.ke;unfold Bk at tD;rw[e] at tD;simp only at tD;rw[a3] at tD;injection tD with tD;injection tD with _ tD
  exact absurd tD (by decide)
def OI.Rw(h:OI w W g z ag pv bv c7 v6 v7 el n6 n7 x6 x7)(ho:W'.ownsRow (g+3) 95 3 v' m ys)(hg:W.grownBy W' v7.ownBlock):
 W'.ownsRow (g+3) 3 1 v6 n6 x6/\W'.ownsRow (g+3) 95 3 v' m ys/\Bk W' (g+1) 117 #[ξ κ 0,ζ ν 0 0,ζ ν 0 0,ζ ν 0 0]/\Bk W' (g+2) 117 #[ag,pv,bv,c7]/\Γ g w W':=by
 have jU:=ei h.o7;exact⟨EJ h.o6 hg (λk hk e=>Wu h.o6 h.o7 (by decide) k hk e),ho,h.kr.grown hg (λe=>by have:=jU _ e.symm;omega),h.kk.grown hg (λe=>by have:=jU _ e.symm;omega),h.hb.grown hg (by have:=h.kr.lt;omega) (λk hk=>by have:=jU k hk;omega)⟩
def LO{w:Ψ}{g t:Nat}{a b c:υ}(h:Bk w g t #[a,b,c]):∀(j:Nat) (u:υ),[a,b,c][j]?=φ u-> w.cell? ((⟨g,0,ν⟩:ϕ).add j)=φ u:=by
 intro j u hu;rw[nu];exact(h.cell j).trans (by simpa using hu)
def LN{w:Ψ}{g t:Nat}{a:υ}(h:Bk w g t #[a]):∀(j:Nat) (u:υ),[a][j]?=φ u-> w.cell? ((⟨g,0,ν⟩:ϕ).add j)=φ u:=by
 intro j u hu;rw[nu];exact(h.cell j).trans (by simpa using hu)
def kT{w:Ψ}{b e s n g t:Nat}{v:υ}{xs:List υ}{cs:Array υ}(h:Bk w g t cs)(ho:w.ownsRow b e s v n xs)(aw:t≠e)(hk:φ g=v.ownBlock):False:=by
 rcases ho.2 with⟨h0,_⟩ | ⟨k,cap,cur,a1,a2,a3,_⟩
 ·rw[h0] at hk;cases hk
 ·rw[a1] at hk;injection hk with hk
  unfold Bk at h;rw[hk] at h;simp only at h;rw[a3] at h;injection h with h;injection h with _ h
  exact aw h.symm
def afX{w V w6:Ψ}{g z n6 n7:Nat}{ag pv bv c7 v6 v7 a b c:υ}{el:Array υ}{x6 x7:List υ}{o:Obj}(nZ:OI w V.drew g z ag pv bv c7 v6 v7 el n6 n7 x6 x7)
 (dS:((V.drew.alloc o).alloc (Ξ #[a,b,c] 95)).grownBy w6 v6.ownBlock):Bk w6 (V.heap.size+1) 95 #[a,b,c]:=
 (Bk.cG (g:=V.heap.size+1) (w:=V.drew.alloc o) (by simp) 95 #[a,b,c]).grown dS (λe=>kT (Bk.cG (g:=V.heap.size+1) (w:=V.drew.alloc o) (by simp) 95 #[a,b,c]) ((nZ.alloc o).alloc _).o6 (by decide) e)
def afT{w V w6:Ψ}{g z n6 n7:Nat}{ag pv bv c7 v6 v7 a b c:υ}{el:Array υ}{x6 x7:List υ}{o:Obj}(nZ:OI w V.drew g z ag pv bv c7 v6 v7 el n6 n7 x6 x7)
 (dS:((V.drew.alloc (Ξ #[a,b,c] 95)).alloc o).grownBy w6 v6.ownBlock):Bk w6 V.heap.size 95 #[a,b,c]:=
 ((Bk.new V.drew 95 #[a,b,c]).alloc o).grown dS (λe=>kT ((Bk.new V.drew 95 #[a,b,c]).alloc o) ((nZ.alloc _).alloc o).o6 (by decide) e)
def aja{W:Ψ}(h:W.ownsRow (g+3) 3 1 v6 n6 x6/\W.ownsRow (g+3) 95 3 v' m ys/\Bk W (g+1) 117 #[ξ κ 0,ζ ν 0 0,ζ ν 0 0,ζ ν 0 0]/\Bk W (g+2) 117 #[ag,pv,bv,c7]/\Γ g w W):
 let V:=W.setCell ⟨g+2,3,ν⟩ v'
 V.ownsRow (g+3) 3 1 v6 n6 x6/\V.ownsRow (g+3) 95 3 v' m ys/\Bk V (g+1) 117 #[ξ κ 0,ζ ν 0 0,ζ ν 0 0,ζ ν 0 0]/\Bk V (g+2) 117 #[ag,pv,bv,v']/\Γ g w V:=by
 intro V;exact⟨mO h.1 (by simp),mO h.2.1 (by simp),h.2.2.1.dn (by simp) _,h.2.2.2.1.set 3 v',h.2.2.2.2.setCell (by simp) _⟩
end
def ajc{w W:Ψ}{b:ao}{pv bv tv v6 v7:υ}{B m n:Nat}{ts:List (Tape×υ)}(hB:B<=w.heap.size)(ai:bg w B b pv bv tv)(rS:∀p∈ts,Row w B 1 cH p.2 p.1.pieces)(il:ts.map Ai7=b.aJ)(hn:n=ts.length)
 (h6:W.ownsRow (w.heap.size+3) 3 1 v6 (dJ m n).length (lV m n))(h7:W.ownsRow (w.heap.size+3) 95 3 v7 (dJ m n).length ((fL ts m n).flatMap eG))(hb:Γ w.heap.size w W){x0 x1 x2 x3:υ}:
 let V:=(((W.setCell ⟨w.heap.size+1,0,ν⟩ x0).setCell ⟨w.heap.size+1,1,ν⟩ x1).setCell ⟨w.heap.size+1,2,ν⟩ x2).setCell ⟨w.heap.size+1,3,ν⟩ x3
 bg V V.heap.size (mM b m) pv bv v7/\cW V (λk=>k<w.heap.size) 1 cH v6 ((dJ m b.aJ.length).map Ain)/\Γ w.heap.size w V:=by
 intro V;have hl:b.aJ.length=n:=by rw[<-il,Ah6,hn]
 have xF:Γ w.heap.size w V:=(((hb.setCell (by simp) _).setCell (by simp) _).setCell (by simp) _).setCell (by simp) _
 have st:Δ B w V:=Δ.aK xF hB;have aI:B<=V.heap.size:=by have:=xF.size;omega
 have o6:V.ownsRow (w.heap.size+3) 3 1 v6 (dJ m n).length (lV m n):=mO (mO (mO (mO h6 (by simp)) (by simp)) (by simp)) (by simp)
 have o7:V.ownsRow (w.heap.size+3) 95 3 v7 (dJ m n).length ((fL ts m n).flatMap eG):=mO (mO (mO (mO h7 (by simp)) (by simp)) (by simp)) (by simp)
 refine⟨⟨(ai.pieces.still st λ_ _ h=>h).more aI,(ai.aF.still st λ_ _ h=>?_).more aI,?_⟩,?_,xF⟩
 ·obtain⟨k,e1,e2,e3⟩:=h.still st
  exact⟨k,e1,e2,e3.more aI⟩
 ·rw[<-Pc ts m n (by omega)] at o7
  have:=lu (R:=λp cs=>cs=eG p) o7 (λ_=>rfl) (λp hm=>rfl)
  have e:(mM b m).aJ=(fL ts m n).map Ai7:=by
   show fL b.aJ m b.aJ.length=_;rw[hl,<-il,ajE]
  rw[e];refine yY this (λp hm cs hc=>⟨p.2,hc,((rS p ?_).still st λ_ _ h=>h).more aI⟩)
  unfold fL at hm;obtain⟨k,_,hk⟩:=List.mem_filterMap.1 hm;exact ϡ hk
 ·rw[hl]
  have e:(lV m n)=((dJ m n).map Ain).flatMap (λk=> [ξ κ k]):=by
   unfold lV;rw[Td,Ait];rfl
  rw[e] at o6;have hlen:(dJ m n).length=((dJ m n).map Ain).length:=by simp
  rw[hlen] at o6;exact cW.vO o6 (λ_=>rfl) (λ_ _=>rfl) (λk hk=>by omega)
def ZH:∀(m:Fin 16) (i:Fin 4),(bits BinOp.and ϛ ((m.val:Int) / 2 ^ i.val) 1==1)=m.val.testBit i.val:=by decide+kernel
def only{w:Ψ}{b:ao}{pv bv tv:υ}{B m:Nat}(hB:B<=w.heap.size)(ai:bg w B b pv bv tv)(hv:b.aJ.length<=4)(hm:m<16):
 ύ prog 138 #[η #[ξ κ b.ag,pv,bv,tv],ξ κ m] w λe w'=>∃fD iv,e=Ω (μ #[η #[ξ κ b.ag,pv,bv,fD],iv])/\bg w' w'.heap.size (mM b m) pv bv fD/\
  cW w' (λk=>k<w.heap.size) 1 cH iv ((dJ m b.aJ.length).map Ain)/\Γ w.heap.size w w':=by
 obtain⟨ts,il,pg⟩:=I1 (R':=λ(p:Tape×υ) cs=>cs=eG p/\Row w B 1 cH p.2 p.1.pieces) ai.aJ (λx cs ⟨kv,h1,h3⟩=>⟨kv,h1,h3⟩)
 have rS:∀p∈ts,Row w B 1 cH p.2 p.1.pieces:=λp hp=>by obtain⟨cs,h1,h2⟩:=pg.mem p hp;exact h2
 have qG:ts.length=b.aJ.length:=by rw[<-il,Ah6]
 have HM:=ψ (ϐ rS (ϐ il qG));have bT:=ψ ai;obtain⟨A1,n1,c1,rfl,-⟩:=ai.pieces.Φ;obtain⟨A2,n2,c2,rfl,-⟩:=ai.aF.Φ;obtain⟨A3,n3,c3,rfl,e3,h3,rD,r3⟩:=pg.Φ;have R3:=ψ r3;have lQ:n3<=4:=by omega
 have E3:=ψ e3;unfold ϖ at rD;clear ai pg rS il qG r3 e3 hv;go_enter func138,Tryz.ntmps138;go_wp2;have L0:Hid (Bk (((w.alloc (Ξ #[ξ κ b.ag,ζ A1 n1 c1,ζ A2 n2 c2,ζ A3 n3 c3] 117)).alloc (Ξ #[ξ κ 0,ζ ν 0 0,ζ ν 0 0,ζ ν 0 0] 117)).alloc (Ξ #[ξ κ b.ag,ζ A1 n1 c1,ζ A2 n2 c2,ζ ν 0 0] 117)) (w.heap.size+2) 117 #[ξ κ b.ag,ζ A1 n1 c1,ζ A2 n2 c2,ζ ν 0 0]):=ψ (Bk.cG (by simp) _ _)
 go_loopw [6,17] (λv6 u wr=>∃(i:Nat) (v7:υ),i<=n3/\u=ξ κ i/\Hid (wr.ownsRow (w.heap.size+3) 3 1 v6 (dJ m i).length (lV m i))/\Hid (wr.ownsRow (w.heap.size+3) 95 3 v7 (dJ m i).length ((fL ts m i).flatMap eG))/\
  Hid (Bk wr (w.heap.size+1) 117 #[ξ κ 0,ζ ν 0 0,ζ ν 0 0,ζ ν 0 0])/\Hid (Bk wr (w.heap.size+2) 117 #[ξ κ b.ag,ζ A1 n1 c1,ζ A2 n2 c2,v7])/\Hid (Γ w.heap.size w wr)) (λ_ u _=>n3 - (ϗ u).toNat)
 case atStart=>exact⟨0,_,ϝ _,rfl,ψ ⟨rfl,.inl ⟨rfl,rfl⟩⟩,ψ ⟨rfl,.inl ⟨rfl,rfl⟩⟩,ψ ((Bk.cG (by simp) _ _).alloc _),L0,ψ ((((ώ _ _).alloc (ϊ _) _).alloc (by simp) _).alloc (by simp<;>omega) _)⟩
 case round=>
  obtain⟨i,v7,hi,rfl,h6,h7,hr,hk,hb⟩:=hrel;obtain⟨A6,n6,c6,rfl⟩:=pw h6.e;obtain⟨A7,n7,c7,rfl⟩:=pw h7.e;by_cases al:i<n3
  ·obtain⟨ad,x,cs,kX,aC,hx,⟨rfl,Oj⟩,-,au⟩:=R3.e i al
   subst kX;have st:Δ B w wr:=Δ.aK hb.e hB;obtain⟨x,kv⟩:=x;simp only at Oj;obtain⟨m5,rN⟩:∃k,k=x.pieces.length:=⟨_,rfl⟩
   obtain⟨A5,c5,rfl,-⟩:=id Oj;rw[<-rN] at hx au;clear Oj rN;have g0:=cC au st aC rfl;have g1:=bK au st aC 0 rfl;have g2:=bK au st aC 1 rfl;have aI:=hb.e.size;have xD:(ad.add (i * 3)).block<wr.heap.size:=by rw[cq];omega
   have G9:=ZH ⟨m,hm⟩ ⟨i,by omega⟩
   simp only at G9;have HX:=ψ hx;have sR:=ψ (ϐ h6.e (ϐ h7.e (ϐ hr.e (ϐ hk.e hb.e))));clear hx au st;cases vb:m.testBit i with
   |false=>
    rw[vb] at G9;go_wp2;go_roundw;case rel=>exact⟨i+1,_,by omega,by go_num,ψ (by unfold lV;rw[Ic vb];exact h6.e.alloc _),ψ (by rw[Ic vb,Wy vb];exact h7.e.alloc _),ψ (hr.e.alloc _),ψ (hk.e.alloc _),ψ (hb.e.alloc aI _)⟩
    case measure=>simp[ϗ];omega
   |true=>
    rw[vb] at G9;go_wp2;obtain⟨i3,fZ,jB,gQ,bD⟩:=Agv VG;obtain⟨i9,DC,Vu,N7,oZ⟩:=Agv Oq;have nW:=ψ (ϐ fZ (ϐ jB (ϐ gQ bD)));have nX:=ψ (ϐ DC (ϐ Vu (ϐ N7 oZ)));clear fZ jB gQ bD DC Vu N7 oZ h6 h7 hr hk hb g0 g1 g2 xD G9;have yS:OI w (wr.alloc (Ξ #[ζ A5 m5 c5,ξ κ x.sum.lo,ξ κ x.sum.hi] 95)) w.heap.size wr.heap.size (ξ κ b.ag) (ζ A1 n1 c1) (ζ A2 n2 c2) (ζ A7 n7 c7) (ζ A6 n6 c6) (ζ A7 n7 c7) #[ζ A5 m5 c5,ξ κ x.sum.lo,ξ κ x.sum.hi] (dJ m i).length (dJ m i).length (lV m i) ((fL ts m i).flatMap eG):=
     ⟨sR.e.1.alloc _,sR.e.2.1.alloc _,sR.e.2.2.1.alloc _,sR.e.2.2.2.1.alloc _,Bk.new wr _ _,sR.e.2.2.2.2.alloc aI _⟩
    have Vv:(wr.alloc (Ξ #[ζ A5 m5 c5,ξ κ x.sum.lo,ξ κ x.sum.hi] 95)).heap.size=wr.heap.size+1:=by simp
    generalize (wr.alloc (Ξ #[ζ A5 m5 c5,ξ κ x.sum.lo,ξ κ x.sum.hi] 95))=V at yS Vv |-
    have nZ:Hid (OI w V.drew w.heap.size wr.heap.size (ξ κ b.ag) (ζ A1 n1 c1) (ζ A2 n2 c2) (ζ A7 n7 c7) (ζ A6 n6 c6) (ζ A7 n7 c7) #[ζ A5 m5 c5,ξ κ x.sum.lo,ξ κ x.sum.hi] (dJ m i).length (dJ m i).length (lV m i) ((fL ts m i).flatMap eG)):=ψ ⟨yS.o6,yS.o7,yS.kr,yS.kk,yS.ke,iY yS.hb⟩;have q7: V.cell? ⟨w.heap.size+2,3,ν⟩=φ (ζ A7 n7 c7):=yS.kk.cell 3;have e0: V.cell? ⟨wr.heap.size,0,ν⟩=φ (ζ A5 m5 c5):=yS.ke.cell 0;have e1: V.cell? ⟨wr.heap.size,1,ν⟩=φ (ξ κ x.sum.lo):=yS.ke.cell 1;have e2: V.cell? ⟨wr.heap.size,2,ν⟩=φ (ξ κ x.sum.hi):=yS.ke.cell 2;have xR:=yS.kk.lt;have aeO:w.heap.size+2<=V.heap.size:=by omega
    have aeP:w.heap.size+2<V.heap.size+1:=by omega
    have aeQ:w.heap.size+2<=V.heap.size+1:=by omega
    have Ng:wr.heap.size<V.heap.size:=by omega
    have aep:wr.heap.size<=V.heap.size:=by omega
    have aer:wr.heap.size<V.heap.size+1:=by omega
    have aes:wr.heap.size<=V.heap.size+1:=by omega
    have afZ:w.heap.size+3<=V.heap.size:=xR;have rJ:(dJ m i).length<=4:=by have:=Ek m i;omega
    obtain⟨nl,Az⟩:∃k,k=(dJ m i).length:=⟨_,rfl⟩
    rw[<-Az] at nZ rJ;have Q8:=ψ Az;clear yS sR Vv aI Az;refine Code.wp_mono (Q:=dP λa W=>∃BT n61 Nh BU Ez CJ XY XZ,a={tmps:=#[Value.agg #[ϟ ϛ b.ag,Value.slice A1 n1 c1,Value.slice A2 n2 c2,Value.slice (φ ad) n3 c3],ϟ ϛ (m:Int),Value.pointer (φ {block:=w.heap.size,off:=0}),ω,Value.pointer (φ {block:=w.heap.size+1,off:=0}),Value.slice ν 0 0,Value.slice BT n61 Nh,Value.pointer (φ {block:=w.heap.size+1+1,off:=0}),ϟ ϛ (i:Int),Value.pointer (φ {block:=wr.heap.size,off:=0}),Value.agg #[ϟ ϛ b.ag,Value.slice A1 n1 c1,Value.slice A2 n2 c2,Value.slice (φ ad) n3 c3],Value.pointer (φ {block:=w.heap.size+1+1,off:=0}),Value.pointer (φ {block:=w.heap.size+1+1,off:=3}),Value.pointer (φ {block:=w.heap.size,off:=0}),Value.pointer (φ {block:=w.heap.size,off:=3}),Value.slice (φ ad) n3 c3,ϟ ϛ (n3:Int),ϟ ϛ (i:Int),Value.bool θ,ϟ ϛ (i:Int),Value.pointer (φ (ad.add (i * 3))),Value.agg #[Value.slice A5 m5 c5,ϟ ϛ x.sum.lo,ϟ ϛ x.sum.hi],ϟ ϛ (m:Int),ϟ ϛ (i:Int),ϟ ϛ ((m:Int) / 2 ^ i),ϟ ϛ (bits BinOp.and ϛ ((m:Int) / 2 ^ i) 1),Value.bool θ,Value.slice A6 n6 c6,ϟ ϛ (i:Int),XY,Value.slice BT n61 Nh,Value.pointer (φ {block:=w.heap.size+1+1,off:=0}),Value.pointer (φ {block:=w.heap.size+1+1,off:=3}),Value.slice A7 n7 c7,Value.agg #[Value.slice A5 m5 c5,ϟ ϛ x.sum.lo,ϟ ϛ x.sum.hi],XZ,Value.slice BU Ez CJ,Value.pointer (φ {block:=w.heap.size+1+1,off:=0}),Value.pointer (φ {block:=w.heap.size+1+1,off:=3}),u39,ω,ω],defers:=[]}/\
     Hid (W.ownsRow (w.heap.size+3) 3 1 (ζ BT n61 Nh) (nl+1) (lV m i++ [ξ κ i])/\W.ownsRow (w.heap.size+3) 95 3 (ζ BU Ez CJ) (nl+1) ((fL ts m i).flatMap eG++ [ζ A5 m5 c5,ξ κ x.sum.lo,ξ κ x.sum.hi])/\
      Bk W (w.heap.size+1) 117 #[ξ κ 0,ζ ν 0 0,ζ ν 0 0,ζ ν 0 0]/\Bk W (w.heap.size+2) 117 #[ξ κ b.ag,ζ A1 n1 c1,ζ A2 n2 c2,ζ BU Ez CJ]/\Γ w.heap.size w W)) ?post ?region
    case region=>
     go_region_law (first
      | (first
              |refine ug rfl (.tmp 27) (.tmp 29) 33 rfl (w.heap.size+3) 3 i3 (ξ κ 0) 1 8 (U Tryz.underlying33) nW.e.1 nW.e.2.1 nW.e.2.2.1 nW.e.2.2.2 rfl (by decide) _ nl (lV m i) rfl (nZ.e.alloc _).o6 ⟨V.heap.size,0,ν⟩ 1 1 [ξ κ i] rfl rfl ?c1 ?c2 ?c3 ?c4 ?c5 ?_
              |refine ug rfl (.tmp 27) (.tmp 29) 33 rfl (w.heap.size+3) 3 i3 (ξ κ 0) 1 8 (U Tryz.underlying33) nW.e.1 nW.e.2.1 nW.e.2.2.1 nW.e.2.2.2 rfl (by decide) _ nl (lV m i) rfl ((nZ.e.alloc _).alloc _).o6 ⟨V.heap.size,0,ν⟩ 1 1 [ξ κ i] rfl rfl ?c1 ?c2 ?c3 ?c4 ?c5 ?_
              |refine ug rfl (.tmp 27) (.tmp 29) 33 rfl (w.heap.size+3) 3 i3 (ξ κ 0) 1 8 (U Tryz.underlying33) nW.e.1 nW.e.2.1 nW.e.2.2.1 nW.e.2.2.2 rfl (by decide) _ nl (lV m i) rfl ((nZ.e.alloc _).alloc _).o6 ⟨V.heap.size+1,0,ν⟩ 1 1 [ξ κ i] rfl rfl ?c1 ?c2 ?c3 ?c4 ?c5 ?_
         case c1=>first|exact LN (Bk.new V.drew 3 _) |exact LN ((Bk.new V.drew 3 _).alloc _) |exact LN (Bk.cG (w:=V.drew.alloc _) (by simp) 3 _)
         case c2=>simp[Value.oneCell']
         case c3=>(simp only[ϖ];omega)
         case c4=>omega
         case c5=>first| (simp;done) | (simp;omega)
         intro v6 w6 aG dS;have jM:Hid (OI w w6 w.heap.size wr.heap.size (ξ κ b.ag) (ζ A1 n1 c1) (ζ A2 n2 c2) (ζ A7 n7 c7) v6 (ζ A7 n7 c7) #[ζ A5 m5 c5,ξ κ x.sum.lo,ξ κ x.sum.hi] (nl+1) nl (lV m i++ [ξ κ i]) ((fL ts m i).flatMap eG)):=ψ (by first|exact(nZ.e.alloc _).Rv aG dS|exact((nZ.e.alloc _).alloc _).Rv aG dS)
         have q7: w6.cell? ⟨w.heap.size+2,3,ν⟩=φ (ζ A7 n7 c7):=jM.e.kk.cell 3;have e0: w6.cell? ⟨wr.heap.size,0,ν⟩=φ (ζ A5 m5 c5):=jM.e.ke.cell 0;have e1: w6.cell? ⟨wr.heap.size,1,ν⟩=φ (ξ κ x.sum.lo):=jM.e.ke.cell 1;have e2: w6.cell? ⟨wr.heap.size,2,ν⟩=φ (ξ κ x.sum.hi):=jM.e.ke.cell 2;have jV:w.heap.size+2<w6.heap.size:=jM.e.kk.lt;have he6:wr.heap.size<w6.heap.size:=jM.e.ke.lt;have aoo:w.heap.size+2<=w6.heap.size:=by omega
         have aoc:wr.heap.size<=w6.heap.size:=by omega
         try(have HZ:Hid (Bk w6 (V.heap.size+1) 95 #[ζ A5 m5 c5,ξ κ x.sum.lo,ξ κ x.sum.hi]):=ψ (afX nZ.e dS))
         try(have HY:Hid (Bk w6 V.heap.size 95 #[ζ A5 m5 c5,ξ κ x.sum.lo,ξ κ x.sum.hi]):=ψ (afT nZ.e dS))
         obtain⟨BT,n61,Nh,rfl⟩:=pw aG;clear aG dS)
      | (first
              |refine ug rfl (.tmp 33) (.tmp 35) 24 rfl (w.heap.size+3) 95 i9 (η #[ζ ν 0 0,ξ κ 0,ξ κ 0]) 3 40 (U Tryz.underlying24) nX.e.1 nX.e.2.1 nX.e.2.2.1 nX.e.2.2.2 rfl (by decide) _ nl ((fL ts m i).flatMap eG) rfl (jM.e.alloc _).o7 ⟨w6.heap.size,0,ν⟩ 1 1 [ζ A5 m5 c5,ξ κ x.sum.lo,ξ κ x.sum.hi] rfl rfl ?c1 ?c2 ?c3 ?c4 ?c5 ?_
              |refine ug rfl (.tmp 33) (.tmp 35) 24 rfl (w.heap.size+3) 95 i9 (η #[ζ ν 0 0,ξ κ 0,ξ κ 0]) 3 40 (U Tryz.underlying24) nX.e.1 nX.e.2.1 nX.e.2.2.1 nX.e.2.2.2 rfl (by decide) _ nl ((fL ts m i).flatMap eG) rfl jM.e.o7 ⟨V.heap.size+1,0,ν⟩ 1 1 [ζ A5 m5 c5,ξ κ x.sum.lo,ξ κ x.sum.hi] rfl rfl ?c1 ?c2 ?c3 ?c4 ?c5 ?_
              |refine ug rfl (.tmp 33) (.tmp 35) 24 rfl (w.heap.size+3) 95 i9 (η #[ζ ν 0 0,ξ κ 0,ξ κ 0]) 3 40 (U Tryz.underlying24) nX.e.1 nX.e.2.1 nX.e.2.2.1 nX.e.2.2.2 rfl (by decide) _ nl ((fL ts m i).flatMap eG) rfl jM.e.o7 ⟨V.heap.size,0,ν⟩ 1 1 [ζ A5 m5 c5,ξ κ x.sum.lo,ξ κ x.sum.hi] rfl rfl ?c1 ?c2 ?c3 ?c4 ?c5 ?_
         case c1=>first|exact LO (Bk.new w6 95 _) |exact LO HZ.e|exact LO HY.e
         case c2=>simp[Value.oneCell']
         case c3=>(simp only[ϖ];omega)
         case c4=>omega
         case c5=>first|omega| (simp;omega)
         intro v7 w7 aG dS;have KV:Hid (w7.ownsRow (w.heap.size+3) 3 1 _ (nl+1) (lV m i++ [ξ κ i])/\w7.ownsRow (w.heap.size+3) 95 3 v7 (nl+1) ((fL ts m i).flatMap eG++ [ζ A5 m5 c5,ξ κ x.sum.lo,ξ κ x.sum.hi])/\Bk w7 (w.heap.size+1) 117 #[ξ κ 0,ζ ν 0 0,ζ ν 0 0,ζ ν 0 0]/\Bk w7 (w.heap.size+2) 117 #[ξ κ b.ag,ζ A1 n1 c1,ζ A2 n2 c2,ζ A7 n7 c7]/\Γ w.heap.size w w7):=ψ (by first|exact(jM.e.alloc _).Rw aG dS|exact jM.e.Rw aG dS)
         have q3: w7.cell? ⟨w.heap.size+2,3,ν⟩=φ (ζ A7 n7 c7):=KV.e.2.2.2.1.cell 3;have f3: w7.frozen? ⟨w.heap.size+2,3,ν⟩=χ:=KV.e.2.2.2.1.frozen 3;obtain⟨BU,Ez,CJ,rfl⟩:=pw aG;clear aG dS))
     all_goals
      show ∃_,_
      exact⟨_,_,_,_,_,_,_,_,rfl,ψ (aja KV.e)⟩
    case post=>
     clear nZ q7 e0 e1 e2 xR aeO aeP aeQ Ng aep aer aes afZ nW nX;refine dP.imp ?_
     rintro a W ⟨BT,n61,Nh,BU,Ez,CJ,XY,XZ,rfl,hW⟩;have HW:=ψ hW;clear hW;go_wp2;go_roundw;case rel=>exact⟨i+1,_,by omega,by go_num,ψ (by unfold lV;rw[Ie vb];have:=HW.e.1;rw[Q8.e] at this;simpa [lV] using this),ψ (by rw[Ie vb,Wz vb HX.e];have:=HW.e.2.1;rw[Q8.e] at this;simpa [eG] using this),ψ HW.e.2.2.1,ψ HW.e.2.2.2.1,ψ HW.e.2.2.2.2⟩
     case measure=>simp[ϗ];omega
  ·obtain rfl:i=n3:=by omega
   have q0:=hk.e.cell 0;have q1:=hk.e.cell 1;have q2:=hk.e.cell 2;have q3:=hk.e.cell 3;have p0:=hr.e.cell 0;have p1:=hr.e.cell 1;have p2:=hr.e.cell 2;have p3:=hr.e.cell 3;have f0:=hr.e.frozen 0;have f1:=hr.e.frozen 1;have f2:=hr.e.frozen 2;have f3:=hr.e.frozen 3;have rV:w.heap.size+1<wr.heap.size:=hr.e.lt;have qz:=((((hr.e.set 0 (ξ κ b.ag)).set 1 (ζ A1 n1 c1)).set 2 (ζ A2 n2 c2)).set 3 (ζ A7 n7 c7));have y0:=qz.cell 0;have y1:=qz.cell 1;have y2:=qz.cell 2;have y3:=qz.cell 3;clear qz;go_wp2;refine bodyPost_ret (v:=μ #[η #[ξ κ b.ag,ζ A1 n1 c1,ζ A2 n2 c2,ζ A7 n7 c7],ζ A6 n6 c6]) (by simp[results,Tryz.results138,go_sem,y0,y1,y2,y3]) rfl ⟨_,_,rfl,?_⟩
   exact ajc hB bT.e HM.e.1 HM.e.2.1 (by rw[E3.e]) h6.e h7.e hb.e
end Go.Tw
namespace Go.Tw
variable [Go.Tw.aR]
open Go Go.Proofs Go.RowKit
def wW(b:ao)(m:Nat)(cur:List Int):Bool:=
 let l:=(dJ m b.aJ.length).map Ain
 (decide (l.length<cur.length) || (decide (l.length=cur.length) && decide (pY l cur<0))) && decide ((aD (mM b m)).length=0)
def ju(b:ao):Nat->List Int
 |0=>(dJ (2 ^ b.aJ.length - 1) b.aJ.length).map Ain
 |m+1=>if wW b m (ju b m) then(dJ m b.aJ.length).map Ain else ju b m
def zM(b:ao):List Int:=if(aD b).length=0 then ju b (2 ^ b.aJ.length) else []
def yK{b:ao}{m:Nat}(h:Valid b):Valid (mM b m):=by
 have mB:∀t∈(mM b m).aJ,t∈b.aJ:=λt ht=>by
  have:t∈fL b.aJ m b.aJ.length:=ht;unfold fL at this;obtain⟨k,_,hk⟩:=List.mem_filterMap.1 this;exact ϡ hk
 refine⟨h.ag,h.np,h.piece,h.nb,h.bp,?_,λt ht=>h.tape t (mB t ht)⟩
 have:(mM b m).aJ.length=(dJ m b.aJ.length).length:=Pc b.aJ m _ (ϊ _);rw[this];exact ϧ (Ek _ _) h.nt
def agu{K:Act->Ψ->Prop}{a:Act}{w:Ψ}(F:Ψ->Prop)(h:∀W,F W->K a W)(hw:F w):K a w:=h w hw
def Ss{b:ao}{m:Nat}(h:wW b m (ju b m)=θ):ju b (m+1)=(dJ m b.aJ.length).map Ain:=by
 show(if wW b m (ju b m) then(dJ m b.aJ.length).map Ain else ju b m)=_
 rw[if_pos h]
def GA{b:ao}{m:Nat}(h:wW b m (ju b m)=χ):ju b (m+1)=ju b m:=by
 show(if wW b m (ju b m) then(dJ m b.aJ.length).map Ain else ju b m)=_
 rw[h];rfl
def Sr(b:ao):∀m,(ju b m).length<=b.aJ.length
 |0=>by simp[ju];exact Ek _ _
 |m+1=>by
  unfold ju;split
  ·simp;exact Ek _ _
  ·exact Sr b m
def aaq{w:Ψ}{b:ao}{pv bv tv:υ}{B:Nat}(hB:B<=w.heap.size)(ai:bg w B b pv bv tv)(h0:dF b=0):
 ύ prog 56 #[η #[ξ κ b.ag,pv,bv,tv]] w λe w'=>∃v,e=Ω (μ #[v,ξ κ 0])/\Row w' w'.heap.size 1 cH v (zM b)/\Γ w.heap.size w w':=by
 have st:Δ B w (w.alloc (Ξ #[ξ κ b.ag,pv,bv,tv] 26)):=(Δ.refl w).alloc hB _;have aB:=ψ (ry (ai.still st) (by simp<;>omega) h0)
 have bT:=ψ ai;have hv:=iy h0;have HV:=ψ hv;have adV:=Ct hv;have xZ:=hv.nt;obtain⟨A1,n1,c1,rfl,-⟩:=ai.pieces.Φ;obtain⟨A2,n2,c2,rfl,-⟩:=ai.aF.Φ;obtain⟨A3,n3,c3,rfl,e3,h3,rD,-⟩:=ai.aJ.Φ;rw[e3] at xZ;have E3:=ψ e3;unfold ϖ at rD;obtain⟨na,vr⟩:∃n,n=(aD b).length:=⟨_,rfl⟩
 rw[<-vr] at adV;by_cases rP:0<na
 ·have Ot:=ψ vr
  have fY:zM b=[]:=by unfold zM;rw[if_neg (by have:=Ot.e;omega)]
  have uy:=ψ fY;clear vr fY;go_enter func56,Tryz.ntmps56;go_wp2_with (first
   | (go_at_call 68;refine aB.e.mono ?_;rintro e w1 ⟨rfl,ae⟩
      have kb:Bk w1 w.heap.size 26 #[ξ κ b.ag,ζ A1 n1 c1,ζ A2 n2 c2,ζ A3 n3 c3]:=(Bk.new w _ _).below ae (by simp)
      have k0:=kb.cell 0;have k1:=kb.cell 1;have k2:=kb.cell 2;have k3:=kb.cell 3;have aY:Hid (Γ w.heap.size w w1):=ψ ((((ώ _ _).alloc (ϊ _) _)).trans (ae.mono (by simp)))
      have KB:=ψ kb;have aN:w.heap.size<w1.heap.size:=kb.lt;have Kg:Hid (∀w',Γ w1.heap.size w1 w'->ύ prog 96 #[η #[ξ κ b.ag,ζ A1 n1 c1,ζ A2 n2 c2,ζ A3 n3 c3]] w' λe bq=>∃v,e=Ω v/\qQ bq w'.heap.size v (aD b)/\Γ w'.heap.size w' bq):=ψ λw' hw=>by
       have st:Δ B w w':=Δ.aK (aY.e.trans (hw.mono (by omega))) hB
       exact all (by have:=hw.size;omega) (bT.e.still st) HV.e
      clear kb ae)
   | (go_at_call 96
      refine(Kg.e _ ((ώ _ _).alloc (ϊ _) _)).mono ?_
      rintro e w2 ⟨sv,rfl,aG,ak⟩;obtain⟨A9,n9,c9,rfl,cY,nG,py,iN⟩:=aG.row.Φ;have e9:n9=na:=by rw[<-cY];exact Ot.e.symm
      subst e9;have dV:=ψ ak;clear ak aG cY iN))
  go_ret2
  exact⟨_,rfl,by rw[uy.e];exact Row.nil,aY.e.trans ((((ώ _ _).alloc (ϊ _) _).trans (dV.e.mono (by simp))).mono (by omega))⟩
 obtain rfl:na=0:=by omega
 have Ot:=ψ vr;clear ai st hv h0 vr e3;obtain⟨mp,rO⟩:∃mp,2 ^ n3=mp+1:=⟨2 ^ n3 - 1,by have:0<2 ^ n3:=Nat.two_pow_pos n3;omega⟩
 have hp:((2:Int) ^ n3)=(mp:Int)+1:=by
  have h1:((2:Int) ^ n3)=((2 ^ n3:Nat):Int):=by simp
  rw[h1,rO];simp
 have ae9:mp<16:=by
  have:2 ^ n3<=2 ^ 4:=Aib (by omega) xZ
  omega
 have yo:ϛ.wrap ((mp:Int)+1)=(mp:Int)+1:=by rw[IntWalk.i64_left];exact IntWalk.wrap64_in _ (by omega)
 have eC:ϛ.wrap (mp:Int)=(mp:Int):=by rw[IntWalk.i64_left];exact IntWalk.wrap64_in _ (by omega)
 have Sn:ϛ.wrap ((mp:Int)+1 - 1)=(mp:Int):=by rw[Int.add_sub_cancel];exact eC
 have Q7:=ψ rO;clear rO;go_enter func56,Tryz.ntmps56;go_wp2_with (first
  | (go_at_call 68;refine aB.e.mono ?_;rintro e w1 ⟨rfl,ae⟩
     have kb:Bk w1 w.heap.size 26 #[ξ κ b.ag,ζ A1 n1 c1,ζ A2 n2 c2,ζ A3 n3 c3]:=(Bk.new w _ _).below ae (by simp)
     have k0:=kb.cell 0;have k1:=kb.cell 1;have k2:=kb.cell 2;have k3:=kb.cell 3;have aY:Hid (Γ w.heap.size w w1):=ψ ((((ώ _ _).alloc (ϊ _) _)).trans (ae.mono (by simp)))
     have KB:=ψ kb;have aN:w.heap.size<w1.heap.size:=kb.lt;have Kg:Hid (∀w',Γ w1.heap.size w1 w'->ύ prog 96 #[η #[ξ κ b.ag,ζ A1 n1 c1,ζ A2 n2 c2,ζ A3 n3 c3]] w' λe bq=>∃v,e=Ω v/\qQ bq w'.heap.size v (aD b)/\Γ w'.heap.size w' bq):=ψ λw' hw=>by
      have st:Δ B w w':=Δ.aK (aY.e.trans (hw.mono (by omega))) hB
      exact all (by have:=hw.size;omega) (bT.e.still st) HV.e
     clear kb ae)
  | (go_at_call 96
     refine(Kg.e _ ((ώ _ _).alloc (ϊ _) _)).mono ?_
     rintro e w2 ⟨sv,rfl,aG,ak⟩;obtain⟨A9,n9,c9,rfl,cY,nG,py,iN⟩:=aG.row.Φ;have e9:n9=0:=by rw[<-cY,<-Ot.e]
     subst e9;have dV:=ψ ak;have mH:Bk w2 w.heap.size 26 #[ξ κ b.ag,ζ A1 n1 c1,ζ A2 n2 c2,ζ A3 n3 c3]:=(KB.e.alloc _).below ak (by simp<;>omega)
     have rY:Bk w2 w1.heap.size 117 #[ξ κ b.ag,ζ A1 n1 c1,ζ A2 n2 c2,ζ A3 n3 c3]:=(Bk.new _ _ _).below ak (by simp)
     have q3: w2.cell? ⟨w.heap.size,3,ν⟩=φ (ζ A3 n3 c3):=mH.cell 3;have k0:=rY.cell 0;have k1:=rY.cell 1;have k2:=rY.cell 2;have k3:=rY.cell 3;have wS:=ψ (ϐ mH rY);clear ak aG cY iN mH rY))
 have KS:∀w',Hid (Γ w2.heap.size w2 w')-> w'.cell? ⟨w.heap.size,3,ν⟩=φ (ζ A3 n3 c3)/\ w'.cell? ⟨w1.heap.size,0,ν⟩=φ (ξ κ b.ag)/\ w'.cell? ⟨w1.heap.size,1,ν⟩=φ (ζ A1 n1 c1)/\ w'.cell? ⟨w1.heap.size,2,ν⟩=φ (ζ A2 n2 c2)/\ w'.cell? ⟨w1.heap.size,3,ν⟩=φ (ζ A3 n3 c3)/\Hid (Γ w2.heap.size w2 w'):=λw' h=>
  ⟨(h.e.cell wS.e.1.lt).trans q3,(h.e.cell wS.e.2.lt).trans k0,(h.e.cell wS.e.2.lt).trans k1,(h.e.cell wS.e.2.lt).trans k2,(h.e.cell wS.e.2.lt).trans k3,h⟩
 have HD:Hid (Γ w2.heap.size w2 w2.drew):=ψ (iY (ώ _ _));have QG:Hid (∀(m:Nat) (w':Ψ),m<16->Γ w2.heap.size w2 w'->ύ prog 138 #[η #[ξ κ b.ag,ζ A1 n1 c1,ζ A2 n2 c2,ζ A3 n3 c3],ξ κ m] w' λe bq=>∃fD iv,e=Ω (μ #[η #[ξ κ b.ag,ζ A1 n1 c1,ζ A2 n2 c2,fD],iv])/\bg bq bq.heap.size (mM b m) (ζ A1 n1 c1) (ζ A2 n2 c2) fD/\
  cW bq (λk=>k<w'.heap.size) 1 cH iv ((dJ m b.aJ.length).map Ain)/\Γ w'.heap.size w' bq):=ψ λm w' hm hw=>by
  have st:Δ B w w':=Δ.aK ((aY.e.trans ((((ώ _ _).alloc (ϊ _) _).trans (dV.e.mono (by simp))).mono (by omega))).trans (hw.mono (by have:=wS.e.1.lt;omega))) hB
  exact only (by have:=hw.size;have:=dV.e.size;have:=aY.e.size;simp at *;omega) (bT.e.still st) HV.e.nt hm
 clear q3 k0 k1 k2 k3;go_region_held3 (λw'=> w'.cell? ⟨w.heap.size,3,ν⟩=φ (ζ A3 n3 c3)/\ w'.cell? ⟨w1.heap.size,0,ν⟩=φ (ξ κ b.ag)/\ w'.cell? ⟨w1.heap.size,1,ν⟩=φ (ζ A1 n1 c1)/\ w'.cell? ⟨w1.heap.size,2,ν⟩=φ (ζ A2 n2 c2)/\ w'.cell? ⟨w1.heap.size,3,ν⟩=φ (ζ A3 n3 c3)/\Hid (Γ w2.heap.size w2 w'))
  (first
    |exact KS _ HD|exact KS _ (ψ (HD.e.alloc (ϊ _) _)) |exact KS _ nY|exact KS _ (ψ (nY.e.alloc (nY.e.size) _))
    |exact KS _ (ψ ((((nY.e.setCell (ϊ _) _).setCell (ϊ _) _).setCell (ϊ _) _).setCell (ϊ _) _))
    |exact KS _ (ψ (((((nY.e.alloc (nY.e.size) _).setCell nY.e.size _).setCell nY.e.size _).setCell nY.e.size _).setCell nY.e.size _)))
  (first
    | (go_at_call 138
       refine(QG.e mp _ ae9 ?hx).mono ?_
       case hx=>first|exact HD.e|exact HD.e.alloc (ϊ _) _
       rintro e w3 ⟨t6v,i7v,rfl,bD,AG,Hd⟩;have nY:Hid (Γ w2.heap.size w2 w3):=ψ (by first|exact HD.e.trans Hd|exact(HD.e.alloc (ϊ _) _).trans (Hd.mono (by simp)))
       obtain⟨iW,n31,iZ,rfl,-⟩:=bD.aJ.Φ;obtain⟨QD,n32,Sg,rfl,-⟩:=id AG.row.Φ
       try(
        have rU:Bk w3 w2.heap.size 117 #[ξ κ 0,ζ ν 0 0,ζ ν 0 0,ζ ν 0 0]:=(Bk.new w2.drew _ _).below Hd (by simp)
        have z0: w3.cell? ⟨w2.heap.size,0,ν⟩=φ (ξ κ 0):=rU.cell 0;have z1: w3.cell? ⟨w2.heap.size,1,ν⟩=φ (ζ ν 0 0):=rU.cell 1;have z2: w3.cell? ⟨w2.heap.size,2,ν⟩=φ (ζ ν 0 0):=rU.cell 2;have z3: w3.cell? ⟨w2.heap.size,3,ν⟩=φ (ζ ν 0 0):=rU.cell 3;have y0:=rU.frozen 0;have y1:=rU.frozen 1;have y2:=rU.frozen 2;have y3:=rU.frozen 3;have YV:Hid (cW w3 (λk=>k=w2.heap.size) 1 cH (ζ QD n32 Sg) ((dJ mp b.aJ.length).map Ain)):=ψ (AG.weaken (λk hk=>by subst hk;simp))
        have y9:w2.heap.size<w3.heap.size:=rU.lt;clear rU)
       have YT:=ψ AG.row;clear bD AG Hd))
 all_goals
  have ic:ju b 0=(dJ mp b.aJ.length).map Ain:=by
   show(dJ (2 ^ b.aJ.length - 1) b.aJ.length).map Ain=_;rw[E3.e,Q7.e,Nat.add_sub_cancel]
  have Kt:=ψ ic;clear ic;simp only[Exit.then];refine agu (λW=>Hid (Γ w2.heap.size w2 W)/\Hid (Row W W.heap.size 1 cH (ζ QD n32 Sg) (ju b 0))) ?_ ?_
  rotate_left 1
  ·rw[Kt.e]
   first
    |exact⟨ψ (nY.e.alloc nY.e.size _),ψ ((YT.e.still (Δ.aK ((ώ w3.heap.size w3).alloc (ϊ _) _) (ϊ _)) λ_ _ h=>h).more (by simp))⟩
    |exact⟨ψ ((((nY.e.setCell (ϊ _) _).setCell (ϊ _) _).setCell (ϊ _) _).setCell (ϊ _) _),
       ψ ((((YV.e.grown (uV _ _ _) (λk e=>by injection e with e;exact e.symm)).grown (uV _ _ _) (λk e=>by injection e with e;exact e.symm)).grown (uV _ _ _) (λk e=>by injection e with e;exact e.symm)).grown (uV _ _ _) (λk e=>by injection e with e;exact e.symm)).row⟩
  rintro W ⟨HW,HR⟩;have⟨s3,s0,s1,s2,s4,_⟩:=KS W HW;go_wp2;go_loopw [7,36] (λv7 u wr=>∃m:Nat,m<=mp+1/\u=ξ κ m/\Hid (Γ w2.heap.size w2 wr)/\Hid (Row wr wr.heap.size 1 cH v7 (ju b m))) (λ_ u _=>mp+1 - (ϗ u).toNat)
  case atStart=>exact⟨0,ϝ _,rfl,HW,HR⟩
  case round=>
   clear s3 s0 s1 s2 s4;obtain⟨m,hm,rfl,iX,oa⟩:=hrel;obtain⟨wq,rfl⟩:∃wq:Ψ,wq=wr:=⟨_,rfl⟩
   have⟨s3,s0,s1,s2,s4,_⟩:=KS wq iX;obtain⟨A7,n7,c7,rfl,e7,h7,Fl,-⟩:=oa.e.Φ;unfold ϖ at Fl;by_cases al:m<mp+1
   ·have wG:=ψ (QG.e m wq (by omega) iX.e)
    obtain⟨L,hL⟩:∃L,L=(dJ m b.aJ.length).map Ain:=⟨_,rfl⟩
    rw[<-hL] at wG;obtain⟨cur,tB⟩:∃l,l=ju b m:=⟨_,rfl⟩
    rw[<-tB] at oa e7;obtain⟨l,hl⟩:∃l,l=L.length:=⟨_,rfl⟩
    have hl4:l<=4:=by rw[hl,hL,Ah6];have:=Ek m b.aJ.length;have:=E3.e;omega
    have hc4:n7<=4:=by rw[<-e7,tB];have:=Sr b m;have:=E3.e;omega
    obtain⟨cm,kZ⟩:∃c,c=pY L cur:=⟨_,rfl⟩
    obtain⟨nb,gy⟩:∃n,n=(aD (mM b m)).length:=⟨_,rfl⟩
    have aoA:nb<=27:=by rw[gy];exact Ct (yK HV.e)
    have TY:wW b m cur=((decide (l<n7) || (decide (l=n7) && decide (cm<0))) && decide (nb=0)):=by
     unfold wW;rw[<-hL];simp only[<-hl,<-kZ,<-gy,e7]
    have HE:=ψ (ϐ hL (ϐ tB (ϐ hl (ϐ kZ (ϐ gy (ϐ e7 TY))))));clear hL tB hl kZ gy e7 TY;have hwm:m+1<=mp+1:=al;by_cases h1:l<n7
    ·by_cases hE:nb=0
     ·have uY:((nb:Int)==0)=θ:=by simp;omega
      go_wp2_with (first
       | (go_at_call 138
          refine wG.e.mono ?_
          rintro e w4 ⟨qU,qJ,rfl,cO,cV,eB⟩;have pK:Hid (∀w',Γ w4.heap.size w4 w'->ύ prog 96 #[η #[ξ κ b.ag,ζ A1 n1 c1,ζ A2 n2 c2,qU]] w' λe bq=>∃v,e=Ω v/\qQ bq w'.heap.size v (aD (mM b m))/\Γ w'.heap.size w' bq):=ψ λw' hw=>all hw.size (cO.still (Δ.aK hw (ϊ _))) (yK HV.e)
          have pJ:Hid (∀w',Γ w4.heap.size w4 w'->ύ prog 139 #[qJ,ζ A7 n7 c7] w' λe bq=>e=Ω (ξ κ cm)/\w'=bq):=ψ λw' hw=>by
             have st:Δ wq.heap.size wq w':=Δ.aK (eB.trans (hw.mono eB.size)) (ϊ _);rw[HE.e.2.2.2.1];exact zN ((cV.row.still (Δ.aK hw (ϊ _)) λ_ _ h=>h)) ((oa.e.still st λ_ _ h=>h).more eB.size) hw.size
          obtain⟨uu,n41,uM,rfl,-⟩:=cO.aJ.Φ;obtain⟨J2,n42,CG,rfl,kW,-⟩:=cV.row.Φ;have pZ:n42=l:=by rw[<-kW,<-HE.e.2.2.1]
          subst pZ;have wT:=ψ cV.row;have fx:Hid (Γ wq.heap.size wq w4):=ψ eB;clear cO cV eB kW)
       | (go_at_call 139
          refine(pJ.e _ ((ώ _ _).alloc (ϊ _) _)).mono ?_
          rintro e w5 ⟨rfl,rfl⟩)
       | (go_at_call 96
          refine(pK.e _ ((ώ _ _).alloc (ϊ _) _)).mono ?_
          rintro e w6 ⟨sv,rfl,aG,fI⟩;obtain⟨A9,n9,c9,rfl,cY,nG,py,-⟩:=aG.row.Φ;have e9:n9=nb:=by rw[<-cY];exact HE.e.2.2.2.2.1.symm
          subst e9;have gU:=ψ fI;clear fI aG cY))
      go_roundw;case rel=>exact⟨m+1,by omega,by go_num,ψ ((iX.e.trans (fx.e.mono iX.e.size)).trans ((((ώ w4.heap.size w4).alloc (ϊ _) _).trans (gU.e.mono (by simp))).mono (by have:=fx.e.size;have:=iX.e.size;omega))),ψ (by
       rw[Ss (by rw[<-HE.e.2.1,HE.e.2.2.2.2.2.2];simp;omega),<-HE.e.1]
       exact((wT.e.still (Δ.aK (((ώ w4.heap.size w4).alloc (ϊ _) _).trans (gU.e.mono (by simp))) (ϊ _)) λ_ _ h=>h).more (by have:=gU.e.size;simp at this;omega)))⟩
      case measure=>simp[ϗ];omega
     ·have uY:((nb:Int)==0)=χ:=by simp;omega
      go_wp2_with (first
       | (go_at_call 138
          refine wG.e.mono ?_
          rintro e w4 ⟨qU,qJ,rfl,cO,cV,eB⟩;have pK:Hid (∀w',Γ w4.heap.size w4 w'->ύ prog 96 #[η #[ξ κ b.ag,ζ A1 n1 c1,ζ A2 n2 c2,qU]] w' λe bq=>∃v,e=Ω v/\qQ bq w'.heap.size v (aD (mM b m))/\Γ w'.heap.size w' bq):=ψ λw' hw=>all hw.size (cO.still (Δ.aK hw (ϊ _))) (yK HV.e)
          have pJ:Hid (∀w',Γ w4.heap.size w4 w'->ύ prog 139 #[qJ,ζ A7 n7 c7] w' λe bq=>e=Ω (ξ κ cm)/\w'=bq):=ψ λw' hw=>by
             have st:Δ wq.heap.size wq w':=Δ.aK (eB.trans (hw.mono eB.size)) (ϊ _);rw[HE.e.2.2.2.1];exact zN ((cV.row.still (Δ.aK hw (ϊ _)) λ_ _ h=>h)) ((oa.e.still st λ_ _ h=>h).more eB.size) hw.size
          obtain⟨uu,n41,uM,rfl,-⟩:=cO.aJ.Φ;obtain⟨J2,n42,CG,rfl,kW,-⟩:=cV.row.Φ;have pZ:n42=l:=by rw[<-kW,<-HE.e.2.2.1]
          subst pZ;have wT:=ψ cV.row;have fx:Hid (Γ wq.heap.size wq w4):=ψ eB;clear cO cV eB kW)
       | (go_at_call 139
          refine(pJ.e _ ((ώ _ _).alloc (ϊ _) _)).mono ?_
          rintro e w5 ⟨rfl,rfl⟩)
       | (go_at_call 96
          refine(pK.e _ ((ώ _ _).alloc (ϊ _) _)).mono ?_
          rintro e w6 ⟨sv,rfl,aG,fI⟩;obtain⟨A9,n9,c9,rfl,cY,nG,py,-⟩:=aG.row.Φ;have e9:n9=nb:=by rw[<-cY];exact HE.e.2.2.2.2.1.symm
          subst e9;have gU:=ψ fI;clear fI aG cY))
      go_roundw;case rel=>exact⟨m+1,by omega,by go_num,ψ ((iX.e.trans (fx.e.mono iX.e.size)).trans ((((ώ w4.heap.size w4).alloc (ϊ _) _).trans (gU.e.mono (by simp))).mono (by have:=fx.e.size;have:=iX.e.size;omega))),ψ (by
       rw[GA (by rw[<-HE.e.2.1,HE.e.2.2.2.2.2.2];simp;omega),<-HE.e.2.1]
       exact((oa.e.still (Δ.aK (fx.e.trans ((((ώ w4.heap.size w4).alloc (ϊ _) _).trans (gU.e.mono (by simp))).mono fx.e.size)) (ϊ _)) λ_ _ h=>h).more (by have:=gU.e.size;have:=fx.e.size;simp at *;omega)))⟩
      case measure=>simp[ϗ];omega
    ·by_cases h2:l=n7
     ·have dW:((l:Int)==(n7:Int))=θ:=by simp;omega
      by_cases h3:cm<0
      ·by_cases hE:nb=0
       ·have uY:((nb:Int)==0)=θ:=by simp;omega
        go_wp2_with (first
            | (go_at_call 138
               refine wG.e.mono ?_
               rintro e w4 ⟨qU,qJ,rfl,cO,cV,eB⟩;have pK:Hid (∀w',Γ w4.heap.size w4 w'->ύ prog 96 #[η #[ξ κ b.ag,ζ A1 n1 c1,ζ A2 n2 c2,qU]] w' λe bq=>∃v,e=Ω v/\qQ bq w'.heap.size v (aD (mM b m))/\Γ w'.heap.size w' bq):=ψ λw' hw=>all hw.size (cO.still (Δ.aK hw (ϊ _))) (yK HV.e)
               have pJ:Hid (∀w',Γ w4.heap.size w4 w'->ύ prog 139 #[qJ,ζ A7 n7 c7] w' λe bq=>e=Ω (ξ κ cm)/\w'=bq):=ψ λw' hw=>by
                have st:Δ wq.heap.size wq w':=Δ.aK (eB.trans (hw.mono eB.size)) (ϊ _);rw[HE.e.2.2.2.1];exact zN ((cV.row.still (Δ.aK hw (ϊ _)) λ_ _ h=>h)) ((oa.e.still st λ_ _ h=>h).more eB.size) hw.size
               obtain⟨uu,n41,uM,rfl,-⟩:=cO.aJ.Φ;obtain⟨J2,n42,CG,rfl,kW,-⟩:=cV.row.Φ;have pZ:n42=l:=by rw[<-kW,<-HE.e.2.2.1]
               subst pZ;have wT:=ψ cV.row;have fx:Hid (Γ wq.heap.size wq w4):=ψ eB;clear cO cV eB kW)
            | (go_at_call 139
               have py:=pJ.e (w4.alloc (Obj.cells #[ϟ ϛ b.ag,Value.slice A1 n1 c1,Value.slice A2 n2 c2,Value.slice uu n41 uM] 117)) ((ώ _ _).alloc (ϊ _) _);rw[h2] at py;refine py.mono ?_
               clear py;rintro e w5 ⟨rfl,rfl⟩)
            | (go_at_call 96
               refine(pK.e _ ((ώ _ _).alloc (ϊ _) _)).mono ?_
               rintro e w6 ⟨sv,rfl,aG,fI⟩;obtain⟨A9,n9,c9,rfl,cY,nG,py,-⟩:=aG.row.Φ;have e9:n9=nb:=by rw[<-cY];exact HE.e.2.2.2.2.1.symm
               subst e9;have gU:=ψ fI;clear fI aG cY))
        go_roundw;case rel=>exact⟨m+1,by omega,by go_num,ψ ((iX.e.trans (fx.e.mono iX.e.size)).trans ((((ώ w4.heap.size w4).alloc (ϊ _) _).trans (gU.e.mono (by simp))).mono (by have:=fx.e.size;have:=iX.e.size;omega))),ψ (by
            rw[Ss (by rw[<-HE.e.2.1,HE.e.2.2.2.2.2.2];simp;omega),<-HE.e.1]
            have Ro:=wT.e;rw[h2] at Ro;exact((Ro.still (Δ.aK (((ώ w4.heap.size w4).alloc (ϊ _) _).trans (gU.e.mono (by simp))) (ϊ _)) λ_ _ h=>h).more (by have:=gU.e.size;simp at this;omega)))⟩
        case measure=>simp[ϗ];omega
       ·have uY:((nb:Int)==0)=χ:=by simp;omega
        go_wp2_with (first
            | (go_at_call 138
               refine wG.e.mono ?_
               rintro e w4 ⟨qU,qJ,rfl,cO,cV,eB⟩;have pK:Hid (∀w',Γ w4.heap.size w4 w'->ύ prog 96 #[η #[ξ κ b.ag,ζ A1 n1 c1,ζ A2 n2 c2,qU]] w' λe bq=>∃v,e=Ω v/\qQ bq w'.heap.size v (aD (mM b m))/\Γ w'.heap.size w' bq):=ψ λw' hw=>all hw.size (cO.still (Δ.aK hw (ϊ _))) (yK HV.e)
               have pJ:Hid (∀w',Γ w4.heap.size w4 w'->ύ prog 139 #[qJ,ζ A7 n7 c7] w' λe bq=>e=Ω (ξ κ cm)/\w'=bq):=ψ λw' hw=>by
                have st:Δ wq.heap.size wq w':=Δ.aK (eB.trans (hw.mono eB.size)) (ϊ _);rw[HE.e.2.2.2.1];exact zN ((cV.row.still (Δ.aK hw (ϊ _)) λ_ _ h=>h)) ((oa.e.still st λ_ _ h=>h).more eB.size) hw.size
               obtain⟨uu,n41,uM,rfl,-⟩:=cO.aJ.Φ;obtain⟨J2,n42,CG,rfl,kW,-⟩:=cV.row.Φ;have pZ:n42=l:=by rw[<-kW,<-HE.e.2.2.1]
               subst pZ;have wT:=ψ cV.row;have fx:Hid (Γ wq.heap.size wq w4):=ψ eB;clear cO cV eB kW)
            | (go_at_call 139
               have py:=pJ.e (w4.alloc (Obj.cells #[ϟ ϛ b.ag,Value.slice A1 n1 c1,Value.slice A2 n2 c2,Value.slice uu n41 uM] 117)) ((ώ _ _).alloc (ϊ _) _);rw[h2] at py;refine py.mono ?_
               clear py;rintro e w5 ⟨rfl,rfl⟩)
            | (go_at_call 96
               refine(pK.e _ ((ώ _ _).alloc (ϊ _) _)).mono ?_
               rintro e w6 ⟨sv,rfl,aG,fI⟩;obtain⟨A9,n9,c9,rfl,cY,nG,py,-⟩:=aG.row.Φ;have e9:n9=nb:=by rw[<-cY];exact HE.e.2.2.2.2.1.symm
               subst e9;have gU:=ψ fI;clear fI aG cY))
        go_roundw;case rel=>exact⟨m+1,by omega,by go_num,ψ ((iX.e.trans (fx.e.mono iX.e.size)).trans ((((ώ w4.heap.size w4).alloc (ϊ _) _).trans (gU.e.mono (by simp))).mono (by have:=fx.e.size;have:=iX.e.size;omega))),ψ (by
            rw[GA (by rw[<-HE.e.2.1,HE.e.2.2.2.2.2.2];simp;omega),<-HE.e.2.1]
            exact((oa.e.still (Δ.aK (fx.e.trans ((((ώ w4.heap.size w4).alloc (ϊ _) _).trans (gU.e.mono (by simp))).mono fx.e.size)) (ϊ _)) λ_ _ h=>h).more (by have:=gU.e.size;have:=fx.e.size;simp at *;omega)))⟩
        case measure=>simp[ϗ];omega
      ·go_wp2_with (first
        | (go_at_call 138
           refine wG.e.mono ?_
           rintro e w4 ⟨qU,qJ,rfl,cO,cV,eB⟩;have pK:Hid (∀w',Γ w4.heap.size w4 w'->ύ prog 96 #[η #[ξ κ b.ag,ζ A1 n1 c1,ζ A2 n2 c2,qU]] w' λe bq=>∃v,e=Ω v/\qQ bq w'.heap.size v (aD (mM b m))/\Γ w'.heap.size w' bq):=ψ λw' hw=>all hw.size (cO.still (Δ.aK hw (ϊ _))) (yK HV.e)
           have pJ:Hid (∀w',Γ w4.heap.size w4 w'->ύ prog 139 #[qJ,ζ A7 n7 c7] w' λe bq=>e=Ω (ξ κ cm)/\w'=bq):=ψ λw' hw=>by
             have st:Δ wq.heap.size wq w':=Δ.aK (eB.trans (hw.mono eB.size)) (ϊ _);rw[HE.e.2.2.2.1];exact zN ((cV.row.still (Δ.aK hw (ϊ _)) λ_ _ h=>h)) ((oa.e.still st λ_ _ h=>h).more eB.size) hw.size
           obtain⟨uu,n41,uM,rfl,-⟩:=cO.aJ.Φ;obtain⟨J2,n42,CG,rfl,kW,-⟩:=cV.row.Φ;have pZ:n42=l:=by rw[<-kW,<-HE.e.2.2.1]
           subst pZ;have wT:=ψ cV.row;have fx:Hid (Γ wq.heap.size wq w4):=ψ eB;clear cO cV eB kW)
        | (go_at_call 139
           have py:=pJ.e (w4.alloc (Obj.cells #[ϟ ϛ b.ag,Value.slice A1 n1 c1,Value.slice A2 n2 c2,Value.slice uu n41 uM] 117)) ((ώ _ _).alloc (ϊ _) _);rw[h2] at py;refine py.mono ?_
           clear py;rintro e w5 ⟨rfl,rfl⟩)
        | (go_at_call 96
           refine(pK.e _ ((ώ _ _).alloc (ϊ _) _)).mono ?_
           rintro e w6 ⟨sv,rfl,aG,fI⟩;obtain⟨A9,n9,c9,rfl,cY,nG,py,-⟩:=aG.row.Φ;have e9:n9=nb:=by rw[<-cY];exact HE.e.2.2.2.2.1.symm
           subst e9;have gU:=ψ fI;clear fI aG cY))
       go_roundw;case rel=>exact⟨m+1,by omega,by go_num,ψ ((iX.e.trans (fx.e.mono iX.e.size)).trans (((ώ w4.heap.size w4).alloc (ϊ _) _).mono (by have:=fx.e.size;have:=iX.e.size;omega))),ψ (by
        rw[GA (by rw[<-HE.e.2.1,HE.e.2.2.2.2.2.2];simp;omega),<-HE.e.2.1]
        exact((oa.e.still (Δ.aK (fx.e.trans (((ώ w4.heap.size w4).alloc (ϊ _) _).mono fx.e.size)) (ϊ _)) λ_ _ h=>h).more (by have:=fx.e.size;simp;omega)))⟩
       case measure=>simp[ϗ];omega
     ·have dW:((l:Int)==(n7:Int))=χ:=by simp;omega
      go_wp2_with (first
       | (go_at_call 138
          refine wG.e.mono ?_
          rintro e w4 ⟨qU,qJ,rfl,cO,cV,eB⟩;have pK:Hid (∀w',Γ w4.heap.size w4 w'->ύ prog 96 #[η #[ξ κ b.ag,ζ A1 n1 c1,ζ A2 n2 c2,qU]] w' λe bq=>∃v,e=Ω v/\qQ bq w'.heap.size v (aD (mM b m))/\Γ w'.heap.size w' bq):=ψ λw' hw=>all hw.size (cO.still (Δ.aK hw (ϊ _))) (yK HV.e)
          have pJ:Hid (∀w',Γ w4.heap.size w4 w'->ύ prog 139 #[qJ,ζ A7 n7 c7] w' λe bq=>e=Ω (ξ κ cm)/\w'=bq):=ψ λw' hw=>by
             have st:Δ wq.heap.size wq w':=Δ.aK (eB.trans (hw.mono eB.size)) (ϊ _);rw[HE.e.2.2.2.1];exact zN ((cV.row.still (Δ.aK hw (ϊ _)) λ_ _ h=>h)) ((oa.e.still st λ_ _ h=>h).more eB.size) hw.size
          obtain⟨uu,n41,uM,rfl,-⟩:=cO.aJ.Φ;obtain⟨J2,n42,CG,rfl,kW,-⟩:=cV.row.Φ;have pZ:n42=l:=by rw[<-kW,<-HE.e.2.2.1]
          subst pZ;have wT:=ψ cV.row;have fx:Hid (Γ wq.heap.size wq w4):=ψ eB;clear cO cV eB kW)
       | (go_at_call 139
          refine(pJ.e _ ((ώ _ _).alloc (ϊ _) _)).mono ?_
          rintro e w5 ⟨rfl,rfl⟩)
       | (go_at_call 96
          refine(pK.e _ ((ώ _ _).alloc (ϊ _) _)).mono ?_
          rintro e w6 ⟨sv,rfl,aG,fI⟩;obtain⟨A9,n9,c9,rfl,cY,nG,py,-⟩:=aG.row.Φ;have e9:n9=nb:=by rw[<-cY];exact HE.e.2.2.2.2.1.symm
          subst e9;have gU:=ψ fI;clear fI aG cY))
      go_roundw;case rel=>exact⟨m+1,by omega,by go_num,ψ ((iX.e.trans (fx.e.mono iX.e.size)).trans (((ώ w4.heap.size w4).alloc (ϊ _) _).mono (by have:=fx.e.size;have:=iX.e.size;omega))),ψ (by
       rw[GA (by rw[<-HE.e.2.1,HE.e.2.2.2.2.2.2];simp;omega),<-HE.e.2.1]
       exact((oa.e.still (Δ.aK (fx.e.trans (((ώ w4.heap.size w4).alloc (ϊ _) _).mono fx.e.size)) (ϊ _)) λ_ _ h=>h).more (by have:=fx.e.size;simp;omega)))⟩
      case measure=>simp[ϗ];omega
   ·obtain rfl:m=mp+1:=by omega
    have fY:zM b=ju b (mp+1):=by unfold zM;rw[if_pos Ot.e.symm,E3.e,Q7.e]
    have uy:=ψ fY;clear fY;have jS:Γ w.heap.size w wq:=(aY.e.trans ((((ώ _ _).alloc (ϊ _) _).trans (dV.e.mono (by simp))).mono (by omega))).trans (iX.e.mono (by have:=wS.e.1.lt;omega))
    have wO:=ψ jS;clear jS;go_wp2
    go_ret2
    exact⟨_,rfl,by rw[uy.e];exact oa.e,wO.e⟩
def uS:List Cut:=[⟨1,0⟩,⟨0,0⟩,⟨0,6⟩]
def te:bR:=⟨EA,8,[⟨3,3⟩]⟩
def xh:dF aW=0:=by decide+kernel
def PH:cj aW 0=0:=by decide+kernel
def abZ:GB te=[⟨0,2⟩,⟨4,7⟩]:=by decide+kernel
def ab7:Im te 0=4:=by decide+kernel
def ab8:Im te 1=8:=by decide+kernel
def acd:scan (λ_ s=>s) [] [qL aW [4,3,3],ez aW dQ]=0:=by decide+kernel
def ace:scan (λ_ s=>s) [] [qL aW [4,3,3],ez aW uS]=0:=by decide+kernel
def ab4:fp aW (fK [4,3,3]) dQ=θ:=by decide+kernel
def ab5:fp aW (fK [4,3,3]) uS=χ:=by decide+kernel
def abX:Gt aW=2:=by decide+kernel
def ack:oK (aD aW)=⟨10,10⟩:=by decide+kernel
def aca:cj aW (Bh aW 0)=0:=by decide+kernel
def ab0:(aD aW).map (·.at 0)=[4,5]:=by decide+kernel
def aeR:cj aW (ez aW dQ)=0:=by decide+kernel
def S3:cj aW (ez aW uS)=0:=by decide+kernel
def ab1:za (iI (λL=>fp aW L dQ) (aD aW)) (aD aW).length=1:=by decide+kernel
def ab2:za (iI (λL=>fp aW L uS) (aD aW)) (aD aW).length=0:=by decide+kernel
def ach:FJ aW (aD aW) dQ=θ:=by decide+kernel
def aci:FJ aW (aD aW) uS=χ:=by decide+kernel
def acg:BB aW dQ=[1,1]:=by decide+kernel
def Fy{xs ys:List Int}(hp:xs.Perm ys)(hs:ys.Pairwise (λx y=>decide (x<=y)=θ)):ga xs=ys:=by
 have h1:(ga xs).Perm ys:=(Aiu _ _).trans hp;refine h1.eq_of_pairwise (le:=λx y=>decide (x<=y)=θ) (λa c _ _ h k=>by simp only[decide_eq_true_eq] at h k;omega) ?_ hs
 exact Aiv (λa b c h k=>by simp only[decide_eq_true_eq] at *;omega) (λa b=>by simp;omega) _
def adY(mI:List Cut->Int):fA aW mI=φ (dQ,mI dQ):=by
 have s0:search aW (cz (aD aW)) (jf 0) aW.pieces.length []=ν:=by decide+kernel
 have s1:search aW (cz (aD aW)) (jf 1) aW.pieces.length []=ν:=by decide+kernel
 have s2:search aW (cz (aD aW)) (jf 2) aW.pieces.length []=ν:=by decide+kernel
 have s3:search aW (cz (aD aW)) (jf 3) aW.pieces.length []=φ dQ:=by decide+kernel
 unfold fA;rw[if_pos PH];show iG aW (cz (aD aW)) mI 4=_;rw[kS,kS,kS,kS];simp only[iG,List.range_zero,List.foldl_nil,sY,s0,s1,s2,s3,nw]
def adD:ga (dQ.map (·.bp))=[0,0,1]:=Fy (by decide) (by decide)
def ab3:fA aW j6=φ (dQ,2):=by
 rw[adY];unfold j6 jG;rw[adD];rfl
def acf:fA aW (qM aW)=φ (dQ,14):=by
 rw[adY];unfold qM jG;rw[adD]
 have:lY aW (Lib.compact [0,0,1])=14:=by decide+kernel
 rw[this]
def abW:Cu aW=(0,1):=by decide+kernel
def O1:ByteArray:={data:=#[97,115,104]}
def gh:bR:=⟨O1,13,[]⟩
def abU:dF (fj aW gh)=0:=by decide+kernel
def mr:List Cut:=[⟨2,0⟩,⟨2,6⟩,⟨2,10⟩]
def abV:fA (fj aW gh) j6=φ (mr,1):=by
 have s0:search (fj aW gh) (cz (aD (fj aW gh))) (jf 0) 3 []=ν:=by decide+kernel
 have s1:search (fj aW gh) (cz (aD (fj aW gh))) (jf 1) 3 []=ν:=by decide+kernel
 have s2:search (fj aW gh) (cz (aD (fj aW gh))) (jf 2) 3 []=ν:=by decide+kernel
 have s3:search (fj aW gh) (cz (aD (fj aW gh))) (jf 3) 3 []=φ dQ:=by decide+kernel
 have s4:search (fj aW gh) (cz (aD (fj aW gh))) (jf 4) 3 []=φ mr:=by decide+kernel
 have s5:search (fj aW gh) (cz (aD (fj aW gh))) (jf 5) 3 []=φ [⟨2,0⟩,⟨0,0⟩,⟨0,4⟩]:=by decide+kernel
 have s6:search (fj aW gh) (cz (aD (fj aW gh))) (jf 6) 3 []=φ [⟨1,0⟩,⟨2,0⟩,⟨2,4⟩]:=by decide+kernel
 have s7:search (fj aW gh) (cz (aD (fj aW gh))) (jf 7) 3 []=φ dQ:=by decide+kernel
 have m3:j6 dQ=2:=by unfold j6 jG;rw[adD];rfl
 have m4:j6 mr=1:=by unfold j6 jG;rw[Fy (ys:=[2,2,2]) (by decide) (by decide)];rfl
 have m5:j6 [⟨2,0⟩,⟨0,0⟩,⟨0,4⟩]=2:=by unfold j6 jG;rw[Fy (ys:=[0,0,2]) (by decide) (by decide)];rfl
 have m6:j6 [⟨1,0⟩,⟨2,0⟩,⟨2,4⟩]=2:=by unfold j6 jG;rw[Fy (ys:=[1,2,2]) (by decide) (by decide)];rfl
 have ho:cj (fj aW gh) 0=0:=by decide+kernel
 unfold fA;rw[if_pos ho];show iG (fj aW gh) (cz (aD (fj aW gh))) j6 8=_;have hl:(fj aW gh).pieces.length=3:=rfl;rw[kS,kS,kS,kS,kS,kS,kS,kS];simp only[iG,List.range_zero,List.foldl_nil,sY,hl,s0,s1,s2,s3,s4,s5,s6,s7,nw,m3,m4,m5,m6]
 decide
def ab6:Il aW 0=[4,5]:=by
 unfold Il;rw[ab0,Fy (ys:=[4,5]) (by decide) (by decide)];rfl
def zS:ao:={aW with aJ:=aW.aJ++ [⟨[0],⟨4,4⟩⟩,⟨[2],⟨2,2⟩⟩]}
def acj:dF zS=0:=by decide+kernel
def amj{n m:Int}(h:za n m=1):n=m:=by
 unfold za at h;split at h
 ·cases h
 ·split at h
  ·assumption
  ·cases h
def aa4{p:an->Bool}{l:List an}(h:iI p l=l.length):∀L∈l,p L=θ:=by
 unfold iI at h;have h:(l.filter p).length=l.length:=by omega
 intro L hL;exact List.length_filter_eq_length_iff.1 h L hL
end Go.Tw
namespace Go.Tw
variable [Go.Tw.aR]
open Go Go.Proofs Go.RowKit
end Go.Tw
namespace Go.Tw
variable [Go.Tw.aR]
open Go Go.Proofs Go.RowKit
end Go.Tw
namespace Go.Tw
variable [Go.Tw.aR]
open Go Go.Proofs Go.RowKit
def O7(l m:List Int):Prop:=l.Pairwise (· < ·)/\∀x,x∈l↔x∈m
def af3{zs:List Int}(hs:zs.Pairwise (· <= ·)):O7 (Lib.compact zs) zs:=by
 have key:∀m,m<=zs.length->(Aij zs.toArray m).Pairwise (· < ·)/\(∀x,x∈Aij zs.toArray m↔x∈zs.take m):=by
  intro m;induction m with
  |zero=>intro _;simp[Aij]
  |succ m ih=>
   intro hm;obtain⟨h1,h2⟩:=ih (by omega)
   have al:m<zs.length:=by omega
   have eg:zs.toArray[m]! =zs[m]:=by simp[al]
   have et:zs.take (m+1)=zs.take m++ [zs[m]]:=by rw[List.take_add_one,Af2 al];rfl
   rw[Lib.compactUpTo_succ,et];have le:∀x∈zs.take m,x<=zs[m]:=by
    intro x hx;obtain⟨j,hj,rfl⟩:=Aiw hx;have U2:j<m:=by simp at hj;omega
    rw[List.getElem_take];exact Aix.1 hs j m (by omega) al U2
   by_cases hk:Lib.keeps zs.toArray m=θ
   ·rw[if_pos hk,eg]
    have ne:∀x∈zs.take m,x≠zs[m]:=by
     intro x hx hxe;have DN:m≠0:=by rintro rfl;simp at hx
     simp only[Lib.keeps,decide_eq_true_eq] at hk;rcases hk with hk|hk
     ·exact DN hk
     ·rw[eg] at hk
      have e1:zs.toArray[m - 1]! =zs[m - 1]:=by simp[show m - 1<zs.length by omega]
      rw[e1] at hk;obtain⟨j,hj,rfl⟩:=Aiw hx;have U2:j<m:=by simp at hj;omega
      rw[List.getElem_take] at hxe;have a1:zs[m - 1]<=zs[m]:=Aix.1 hs (m - 1) m (by omega) al (by omega)
      have a2:zs[j]<=zs[m - 1]:=by
        rcases Nat.lt_or_ge j (m - 1) with h'|h'
        ·exact Aix.1 hs j (m - 1) (by omega) (by omega) h'
        ·have:j=m - 1:=by omega
         subst this;exact Int.le_refl _
      omega
    refine⟨List.pairwise_append.2 ⟨h1,List.pairwise_singleton _ _,λx hx y hy=>?_⟩,λx=>by rw[Af1,Af1,h2]⟩
    rw[Afx] at hy;subst hy;have jz:=(h2 x).1 hx;have:=le x jz;have:=ne x jz;omega
   ·rw[if_neg hk,List.append_nil]
    refine⟨h1,λx=>?_⟩
    rw[h2,Af1,Afx];refine⟨.inl,?_⟩
    rintro(h|rfl)
    ·exact h
    ·simp only[Lib.keeps,decide_eq_true_eq,not_or,Classical.not_not] at hk
     obtain⟨DN,hk⟩:=hk;rw[eg] at hk;have e1:zs.toArray[m - 1]! =zs[m - 1]:=by simp[show m - 1<zs.length by omega]
     rw[e1] at hk;rw[hk];exact List.mem_take_iff_getElem.2 ⟨m - 1,by omega,rfl⟩
 have:=key zs.length (ϊ _);rwa[List.take_length] at this
def V3:∀ {l m:List Int},l.Pairwise (· < ·)->m.Pairwise (· < ·)->(∀x∈l,x∈m)->l.Sublist m
 | [],m,_,_,_=>List.nil_sublist _
 |a::l,[],_,_,h=>by have:=h a (by simp);simp at this
 |a::l,b::m,hl,hm,h=>by
  rw[Aiy] at hl hm;rcases ϣ.1 (h a (by simp)) with rfl|ha
  ·refine(V3 hl.2 hm.2 λx hx=>?_).cons₂ a
   rcases ϣ.1 (h x (by simp[hx])) with rfl|h'
   ·have:=hl.1 x hx;omega
   ·exact h'
  ·refine(V3 (Aiy.2 hl) hm.2 λx hx=>?_).cons b
   rcases ϣ.1 (h x hx) with rfl|h'
   ·have h1:=hm.1 a ha
    rcases ϣ.1 hx with rfl|hx
    ·omega
    ·have:=hl.1 x hx;omega
   ·exact h'
def apK{l m k:List Int}(hl:O7 l k)(hm:O7 m k):l=m:=
 (V3 hl.1 hm.1 λx hx=>(hm.2 x).2 ((hl.2 x).1 hx)).eq_of_length_le (V3 hm.1 hl.1 λx hx=>(hl.2 x).2 ((hm.2 x).1 hx)).length_le
def aeK{b:ao}{c:List Cut}(aw:aD b≠ [])(ho:cj b (ez b c)=0):zP b c=1↔∀L∈aD b,fp b L c=θ:=by
 have hl:((aD b).length:Int)≠0:=by
  intro e;exact aw (Ah5 (by omega))
 unfold zP;rw[if_neg (by simp[ho])]
 constructor
 ·intro h
  exact aa4 (amj h)
 ·intro h
  have:iI (λL=>fp b L c) (aD b)=(aD b).length:=by unfold iI;rw[List.filter_eq_self.2 h]
  rw[this];unfold za;rw[if_neg hl,if_pos rfl]
def afo{b:ao}{l:List Cut}:FJ b (aD b) l=θ↔∀L∈aD b,fp b L l=θ:=by
 unfold FJ;simp
def akS(b:ao)(k:Nat):O7 (Il b k) ((aD b).map (·.at k)):=by
 have hs:(ga ((aD b).map (·.at k))).Pairwise (· <= ·):=by
  have:=Aiv (le:=λx y:Int=>decide (x<=y)) (λa b c h1 h2=>by simp at *;omega) (λa b=>by simp;omega) ((aD b).map (·.at k))
  exact this.imp λh=>by simpa using h
 obtain⟨h1,h2⟩:=af3 hs;exact⟨h1,λx=>(h2 x).trans (by unfold ga;exact(Aiu _ _).mem_iff)⟩
def aoq{l:List Int}(h:l.Pairwise (· < ·)){m:Int}(hm:m∈l)(hle:∀x∈l,x<=m):l[l.length - 1]?=φ m:=by
 obtain⟨i,hi,rfl⟩:=Aiw hm;rcases Nat.lt_or_ge i (l.length - 1) with h'|h'
 ·have h1:=Aix.1 h i (l.length - 1) hi (by omega) h'
  have h2:=hle l[l.length - 1] (List.getElem_mem _);omega
 ·have:i=l.length - 1:=by omega
  subst this;exact Af2 _
def abB(G:an)(l:List Cut)(i:Int)(e:Int)(k:Nat):Int:=match l[k]? with
 |some c=>if c.bp=i then max e (c.from_+G.at k) else e
 |none=>e
def vW(G:an)(l:List Cut)(i:Int)(n:Nat):Int:=(Θ n).foldl (abB G l i) 0
def abS(G:an)(l:List Cut)(i:Int)(n:Nat):vW G l i (n+1)=abB G l i (vW G l i n) n:=by
 unfold vW;rw[Ah0,List.foldl_append];rfl
def afg{b:ao}(hv:Valid b){l:List Cut}(hc:∀c∈l,oO b c){i:Nat}{x:bR}(hx:b.aF[i]?=φ x):∀n,(mS b l n)[i]?=φ (x.aH - vW (cz (aD b)) l i n)
 |0=>by simp[mS,vW,hx]
 |n+1=>by
  have ih:=afg hv hc hx n;rw[Xt,abS];unfold FF abB;cases e:l[n]? with
  |none=>exact ih
  |some c=>
   simp only;obtain⟨k,hk,xR⟩:=(hc c (ϡ e)).bp;by_cases qu:k=i
   ·subst qu
    have hlen:=Xs b l n;have e1:c.bp.toNat=k:=by rw[hk];rfl
    have rL:(mJ b k:Int)=x.aH:=by
     unfold mJ;rw[hx];have:=(hv.bp x (ϡ hx)).aH;simp only;omega
    rw[e1,Aiz,if_pos rfl,if_pos (by omega),if_pos hk,ih,rL]
    simp only[Option.getD_some,Option.some.injEq];omega
   ·rw[Aiz,if_neg (by rw[hk];simpa using qu),if_neg (by rw[hk];omega)]
    exact ih
def tb(c:Int):Bool:=decide (48<=c) && decide (c<=57)
def digit(c:Int)(w:Ψ):ύ prog 207 #[.int .u8 c] w λe w'=>e=Ω (.bool (tb c))/\w=w':=by
 go_enter func207,Tryz.ntmps207;go_wp2;all_goals go_ret
 all_goals (refine⟨b9 ?_,rfl⟩;unfold tb;first| (simp;done) | (simp[*];done) | (simp;omega))
def IY{s:ByteArray}(hs:s.size<=ϖ)(w:Ψ):
 ύ prog 186 #[.string s] w λe w'=>e=Ω (.bool (mK s.data.toList))/\w=w':=by
 unfold ϖ at hs;by_cases h1:s.size<1
 ·go_enter func186,Tryz.ntmps186
  go_wp2;go_ret;refine⟨b9 ?_,rfl⟩
  have e:bX s.data.toList.length 1 10=χ:=by unfold bX;simp;omega
  unfold mK;rw[e,Bool.and_false]
 by_cases h2:10<s.size
 ·go_enter func186,Tryz.ntmps186
  go_wp2;go_ret;refine⟨b9 ?_,rfl⟩
  have e:bX s.data.toList.length 1 10=χ:=by unfold bX;simp;omega
  unfold mK;rw[e,Bool.and_false]
 have hlen:bX s.data.toList.length 1 10=θ:=by unfold bX;simp;omega
 have UF:bX (s.size:Int) 1 10=θ:=by simpa using hlen
 have HL:=ψ UF;clear UF;have h0:0<s.size:=by omega
 cases hd:tb s[0].toNat with
 |true=>
  go_enter func186,Tryz.ntmps186;go_wp2_with (first
   | (go_at_call 207;refine(digit _ _).mono ?_;rintro e w' ⟨rfl,rfl⟩;try rw[hd]))
  go_ret;refine⟨b9 (Eq.symm (O2 (CF h0) ?_)),rfl⟩
  simp only[tb,Aa3,decide_eq_true_eq] at hd;simp only[jr,Aid,Aie,decide_eq_false_iff_not];omega
 |false=>
  go_enter func186,Tryz.ntmps186;go_wp2_with (first
   | (go_at_call 207;refine(digit _ _).mono ?_;rintro e w' ⟨rfl,rfl⟩;try rw[hd]))
  go_loop [3] (λk=>∃n:Nat,n<=s.size/\k=ξ κ n/\∀j c,j<n->s.data.toList[j]?=φ c->jr j c.toNat=θ) (λk=>s.size - (ϗ k).toNat)
  case atStart=>exact⟨0,ϝ _,rfl,λj _ hj=>by omega⟩
  case round=>
   obtain⟨n,hn,rfl,bt⟩:=hrel;have HA:=ψ bt;clear bt;by_cases al:n<s.size
   ·have bad:jr n s[n].toNat=χ->Ending.returned (.bool χ)=Ω (.bool (mK s.data.toList)):=λh=>b9 (Eq.symm (O2 (CF al) h))
    have fG:=ψ bad;have hz:n=0->tb s[n].toNat=χ:=λe=>by subst e;exact hd
    have HZ:=ψ hz;clear bad hz;have C8:jr n s[n].toNat=θ->∀j c,j<n+1->s.data.toList[j]?=φ c->jr j c.toNat=θ:=λh j c hj o8=>by
     rcases Agh.1 hj with h'|rfl
     ·exact HA.e j c h' o8
     ·have e:c=s[j]:=by simpa using((CF al).symm.trans o8).symm
      subst e;exact h
    have QV:=ψ C8;clear C8;cases ve:tb s[n].toNat with
    |true=>
     have hc:jr n s[n].toNat=θ:=by
      have jX:n≠0:=λe=>by have:=HZ.e e;rw[ve] at this;cases this
      simp only[tb,Aa3,decide_eq_true_eq] at ve;simp only[jr,Bool.or_eq_true,Aa3,decide_eq_true_eq];omega
     have HC:=ψ hc;clear hc;go_wp2_with (first
      | (go_at_call 207;refine(digit _ _).mono ?_;rintro e w' ⟨rfl,rfl⟩;try rw[ve]))
     go_round
     case rel=>exact⟨n+1,by omega,by go_num,QV.e HC.e⟩
     case measure=>simp[ϗ];omega
    |false=>
     have nH:¬ (48<=s[n].toNat/\s[n].toNat<=57):=by
      intro h;have:tb s[n].toNat=θ:=by simp only[tb,Aa3,decide_eq_true_eq];omega
      rw[this] at ve;cases ve
     by_cases ha:s[n].toNat<97
     ·have hc:jr n s[n].toNat=χ:=by
       simp only[jr,Aid,Aie,decide_eq_false_iff_not];omega
      have R:=ψ (fG.e hc);clear hc;go_wp2_with (first
       | (go_at_call 207;refine(digit _ _).mono ?_;rintro e w' ⟨rfl,rfl⟩;try rw[ve]))
      go_ret;exact⟨R.e,rfl⟩
     by_cases hb:122<s[n].toNat
     ·have hc:jr n s[n].toNat=χ:=by
       simp only[jr,Aid,Aie,decide_eq_false_iff_not];omega
      have R:=ψ (fG.e hc);clear hc;go_wp2_with (first
       | (go_at_call 207;refine(digit _ _).mono ?_;rintro e w' ⟨rfl,rfl⟩;try rw[ve]))
      go_ret;exact⟨R.e,rfl⟩
     have hc:jr n s[n].toNat=θ:=by
      simp only[jr,Bool.or_eq_true,Aa3,decide_eq_true_eq];omega
     have HC:=ψ hc;clear hc;go_wp2_with (first
      | (go_at_call 207;refine(digit _ _).mono ?_;rintro e w' ⟨rfl,rfl⟩;try rw[ve]))
     go_round
     case rel=>exact⟨n+1,by omega,by go_num,QV.e HC.e⟩
     case measure=>simp[ϗ];omega
   ·obtain rfl:n=s.size:=by omega
    go_wp2;go_ret;refine⟨b9 ?_,rfl⟩
    simp[mK,HL.e,LR s.data.toList 0 (λk c hk=>by
     have:=HA.e k c (by have:=(ϸ.1 hk).1;simpa using this) hk;simpa using this)]
def rising{np:Nat}{l:List Int}{v:υ}{w:Ψ}{B:Nat}(hv:Row w B 1 cH v l)(hB:B<=w.heap.size)(kH:np<=ϖ):
 ύ prog 57 #[v,ξ κ np] w λe w'=>e=Ω (ξ κ (eE np ν l))/\Γ w.heap.size w w':=by
 obtain⟨A,n,c,rfl,hl,dX,hc,hr⟩:=hv.Φ;unfold ϖ at hc kH;have KR:=ψ hr;have KL:=ψ hl;clear hv hr hl;go_enter func57,Tryz.ntmps57;go_wp2;go_loopw [4,5] (λr k wr=>∃j:Nat,j<=n/\k=ξ κ j/\r=ξ κ 0/\eE np ν l=eE np (l8 l j) (l.drop j)/\Γ w.heap.size w wr) (λ_ k _=>n - (ϗ k).toNat)
 case atStart=>exact⟨0,ϝ _,rfl,rfl,rfl,ώ _ _⟩
 case round=>
  obtain⟨j,hj,rfl,rfl,vx,hb⟩:=hrel;have RE:=ψ vx;have HB:=ψ hb;clear vx;by_cases nE:j<n
  ·obtain⟨kd,y,cs,rfl,qt,hy,rfl,-,au⟩:=KR.e j nE
   have st:Δ B w wr:=Δ.aK hb hB;have ST:=ψ st;have q0:kd.block<wr.heap.size:=by have:=hb.size;omega
   have g1:=cC au st qt rfl;rw[Agj] at g1;have HY:=ψ hy;clear hy au st hb;cases dL:bX y 0 (np - 1) with
   |false=>
    go_wp2_with (first
     | (go_at_call 62;refine(lg _ _ _ _).mono ?_;rintro e w' ⟨rfl,rfl⟩))
    go_ret;refine⟨aX ?_,HB.e⟩
    rw[RE.e,drop_cons HY.e];cases l8 l j<;>simp[eE,dL]
   |true=>
    rcases Nat.eq_zero_or_pos j with uW|uW
    ·subst uW
     rw[show kd.add 0=kd from rfl] at g1
     go_wp2_with (first
      | (go_at_call 62;refine(lg _ _ _ _).mono ?_;rintro e w' ⟨rfl,rfl⟩))
     go_quiet (fail);go_wp2;have hrel:eE np ν l=eE np (l8 l 1) (l.drop 1):=by rw[RE.e,drop_cons HY.e];simp[l8,eE,dL,HY.e]
     go_roundw;case rel=>exact⟨1,nE,by go_num,rfl,hrel,by first|exact HB.e|exact jq HB.e _⟩
     case measure=>simp[ϗ];omega
    ·obtain⟨q,rfl⟩:∃q,j=q+1:=⟨j - 1,by omega⟩
     obtain⟨eT,z,SF,CQ,Uv,hz,rfl,-,vd⟩:=KR.e q (by omega)
     cases CQ;rw[show kd.add (q+1)=⟨kd.block,kd.off+(q+1),ν⟩ from rfl] at g1
     have g3:=cC vd ST.e qt rfl;rw[Agj] at g3;have HZ:=ψ hz;clear hz vd;have gx:decide ((0:Int)<((q+1:Nat):Int))=θ:=by simp<;>omega
     by_cases qI:y<=z
     ·have hd:decide (y<=z)=θ:=by simpa using qI
      go_wp2_with (first
          | (go_at_call 62;refine(lg _ _ _ _).mono ?_;rintro e w' ⟨rfl,rfl⟩))
      go_quiet (fail);go_wp2;go_ret;refine⟨aX ?_,by first|exact HB.e|exact jq HB.e _⟩
      rw[RE.e,drop_cons HY.e];simp[l8,HZ.e,eE,dL,qI]
     ·have hd:decide (y<=z)=χ:=by simpa using qI
      have hrel:eE np ν l=eE np (l8 l (q+2)) (l.drop (q+2)):=by rw[RE.e,drop_cons HY.e];simp[l8,HZ.e,HY.e,eE,dL];omega
      have HR:=ψ hrel;clear hrel;go_wp2_with (first
          | (go_at_call 62;refine(lg _ _ _ _).mono ?_;rintro e w' ⟨rfl,rfl⟩))
      go_quiet (fail);go_wp2;go_roundw;case rel=>exact⟨q+2,by omega,by go_num,rfl,HR.e,by first|exact HB.e|exact jq HB.e _⟩
      case measure=>simp[ϗ];omega
  ·obtain rfl:j=n:=by omega
   go_wp2;go_ret;refine⟨aX ?_,HB.e⟩
   rw[RE.e,Ais (by rw[KL.e];exact ϊ _)]
   cases l8 l j<;>rfl
def Fz{a b lo hi m:Int}:ma a b lo hi m=(mV a b lo hi && decide (b - a<m)):=by
 unfold ma mV;cases decide (lo<=a)<;>cases decide (a<=b)<;>cases decide (b<=hi)<;>rfl
def ajZ{pv:υ}{w:Ψ}{B:Nat}{l:List Piece}(hv:Row w B 4 Piece.R pv l)(hB:B<=w.heap.size):
 ύ prog 145 #[pv] w λe w'=>e=Ω (ξ κ (iw l))/\Γ w.heap.size w w':=by
 obtain⟨A,m,c,rfl,hl,dX,hc,hr⟩:=hv.Φ;have dC:=ψ hl;unfold ϖ at hc;have H2:=ψ hr;clear hl hr hv;cases hlen:bX m 1 3 with
 |false=>
  go_enter func145,Tryz.ntmps145;go_wp2_with (first
   | (go_at_call 62;refine(lg _ _ _ _).mono ?_;rintro e w' ⟨rfl,rfl⟩))
  go_ret;exact⟨aX (by unfold iw;rw[dC.e,hlen];rfl),ώ _ _⟩
 |true=>
  have hm3:m<=3:=by have:=nJ hlen;omega
  go_enter func145,Tryz.ntmps145;go_wp2_with (first
   | (go_at_call 62;refine(lg _ _ _ _).mono ?_;rintro e w' ⟨rfl,rfl⟩))
  go_loopw [2,3,4,5] (λr k u v wr=>∃i:Nat,i<=m/\k=ξ κ i/\(∀(j:Nat) (x:Piece),j<i->l[j]?=φ x->kJ (l.take j) x=0)/\Γ w.heap.size w wr) (λ_ k _ _ _=>m - (ϗ k).toNat)
  case atStart=>exact⟨0,ϝ _,rfl,λj _ hj=>by omega,ώ _ _⟩
  case round=>
   obtain⟨i,hi,rfl,bt,hb⟩:=hrel;have HH:=ψ (ϐ bt hb);have tL:w.heap.size<=wr.heap.size:=hb.size;by_cases al:i<m
   ·obtain⟨ad,x,cs,rfl,aC,hx,⟨rfl,dH⟩,-,au⟩:=H2.e i al
    have st:Δ B w wr:=Δ.aK hb hB;have ST:=ψ st;have h0:=cC au st aC rfl;have h1:=bK au st aC 0 rfl;have h2:=bK au st aC 1 rfl;have h3:=bK au st aC 2 rfl;have qb:(ad.add (i * 4)).block<wr.heap.size:=by rw[cq];omega
    have HX:=ψ hx;have uy:=ψ au;clear bt hb hx au st;have bad:∀s:Int,kJ (l.take i) x=s->s≠0->s=iw l:=λs hs h0=>by
     unfold iw;rw[dC.e,hlen,if_pos rfl,sf HX.e HH.e.1 (by rw[hs];exact h0),hs]
    have fG:=ψ bad;clear bad;cases ea:mK x.name.data.toList with
    |false=>
     go_wp2_with (first
      | (go_at_call 186;refine(IY dH _).mono ?_;rintro e w1 ⟨rfl,rfl⟩;try rw[ea]))
     go_ret;exact⟨aX (fG.e 4 (by unfold kJ;rw[ea];rfl) (by omega)),HH.e.2⟩
    |true=>
     go_wp2_with (first
      | (go_at_call 186;refine(IY dH _).mono ?_;rintro e w1 ⟨rfl,rfl⟩;try rw[ea]))
     clear h0;have HN:=ψ dH;go_loopw [4] (λk wq=>∃j:Nat,j<=i/\k=ξ κ j/\(∀(q:Nat) (y:Piece),q<j->l[q]?=φ y->jF y.name x.name=χ)/\Γ w.heap.size w wq) (λk _=>i - (ϗ k).toNat)
     case atStart=>exact⟨0,ϝ _,rfl,λq _ hq=>by omega,HH.e.2⟩
     case round=>
      obtain⟨j,hj,rfl,bj,Hc⟩:=hrel;have HO:=ψ (ϐ bj Hc);have D2:w.heap.size<=wr.heap.size:=Hc.size;have BC:Δ B w wr:=Δ.aK Hc hB;have Ze:=ψ BC;have h0:=cC uy.e BC aC rfl;have h1:=bK uy.e BC aC 0 rfl;have h2:=bK uy.e BC aC 1 rfl;have h3:=bK uy.e BC aC 2 rfl;have qb':(ad.add (i * 4)).block<wr.heap.size:=by rw[cq];omega
      clear bj Hc BC;by_cases pa:j<i
      ·obtain⟨Cs,y,bh,e',adT,hy,⟨rfl,NK⟩,-,Ak⟩:=H2.e j (by omega)
       cases e';have g0:=cC Ak Ze.e aC rfl;have qc:(ad.add (j * 4)).block<wr.heap.size:=by rw[cq];omega
       have HY:=ψ hy;clear hy Ak NK;cases hs:jF y.name x.name with
       |true=>
        have cD:(y.name.toList==x.name.toList)=θ:=hs;go_wp2;go_quiet (fail);go_wp2;go_ret;refine⟨aX (fG.e 5 ?_ (by omega)),by first|exact HO.e.2|exact jq HO.e.2 _⟩
        unfold kJ;rw[ea,if_pos rfl,if_pos];rw[Ai0];exact⟨y,ϡ (i:=j) (by rw[List.getElem?_take,if_pos pa];exact HY.e),hs⟩
       |false=>
        have cD:(y.name.toList==x.name.toList)=χ:=hs;go_wp2;go_quiet (fail);go_wp2;go_roundw;case rel=>exact⟨j+1,by omega,by go_num,λq z hq hz=>by
            rcases Agh.1 hq with h|rfl
            ·exact HO.e.1 q z h hz
            ·rw[HY.e] at hz;cases hz;exact hs,by first|exact HO.e.2|exact jq HO.e.2 _⟩
        case measure=>simp[ϗ];omega
      ·obtain rfl:j=i:=by omega
       have Dl:(l.take j).any (λq=>jF q.name x.name)=χ:=by
           rw[Ai1];intro z hz;obtain⟨q,hq⟩:=Aio hz
           rw[List.getElem?_take] at hq
           split at hq
           ·rename_i yd;simpa using HO.e.1 q z yd hq
           ·cases hq
       have uw:=ψ Dl;clear Dl;cases hw:mV x.len.lo x.len.hi 1 40 with
       |false=>
        go_wp2_with (first
            | (go_at_call 49;refine(within _).mono ?_;rintro e w2 ⟨rfl,ak⟩;try rw[hw]))
        go_ret;refine⟨aX (fG.e 1 (by unfold kJ;rw[ea,uw.e,Fz,hw];rfl) (by omega)),cU HO.e.2 ak D2⟩
       |true=>
        have AN:1<=x.len.lo/\x.len.lo<=x.len.hi/\x.len.hi<=40:=by
            simp only[mV,Aa3,decide_eq_true_eq] at hw;exact hw
        obtain⟨b1,b2,b3⟩:=AN;by_cases Ao:3<=x.len.hi - x.len.lo
        ·go_wp2_with (first
             | (go_at_call 49;refine(within _).mono ?_;rintro e w2 ⟨rfl,ak⟩;obtain⟨ef,nD⟩:=fy ak rfl;have ba:wr.heap.size<w2.heap.size:=oE ak;have cy:=ψ (cU HO.e.2 ak D2);clear ak;try rw[hw]))
         go_ret;refine⟨aX (fG.e 1 (by unfold kJ;rw[ea,uw.e,Fz,hw];simp;omega) (by omega)),cy.e⟩
        ·have rR:ma x.len.lo x.len.hi 1 40 3=θ:=by rw[Fz,hw];simp;omega
         have Re:=ψ rR;clear rR;cases yb:bX x.bears 0 2 with
         |false=>
          go_wp2_with (first
             | (go_at_call 49;refine(within _).mono ?_;rintro e w2 ⟨rfl,ak⟩;obtain⟨ef,nD⟩:=fy ak rfl;have ba:wr.heap.size<w2.heap.size:=oE ak;have cy:=ψ (cU HO.e.2 ak D2);clear ak;try rw[hw])
             | (go_at_call 62;refine(lg _ _ _ _).mono ?_;rintro e w' ⟨rfl,rfl⟩;try rw[yb]))
          go_ret;refine⟨aX (fG.e 1 (by unfold kJ;rw[ea,uw.e,Re.e,yb];rfl) (by omega)),cy.e⟩
         |true=>
          go_wp2_with (first
             | (go_at_call 49;refine(within _).mono ?_;rintro e w2 ⟨rfl,ak⟩;obtain⟨ef,nD⟩:=fy ak rfl;have ba:wr.heap.size<w2.heap.size:=oE ak;have cy:=ψ (cU HO.e.2 ak D2);clear ak;try rw[hw])
             | (go_at_call 62;refine(lg _ _ _ _).mono ?_;rintro e w' ⟨rfl,rfl⟩;try rw[yb]))
          go_roundw;case rel=>exact⟨j+1,by omega,by go_num,λq y hq hy=>by
             rcases Agh.1 hq with h|rfl
             ·exact HH.e.1 q y h hy
             ·rw[HX.e] at hy;cases hy;unfold kJ;rw[ea,uw.e,Re.e,yb];rfl,cy.e⟩
          case measure=>simp[ϗ];omega
   ·obtain rfl:i=m:=by omega
    go_wp2;go_ret;refine⟨aX ?_,HH.e.2⟩
    unfold iw;rw[dC.e,hlen,if_pos rfl,se (λj x hj=>HH.e.1 j x (by have:=(ϸ.1 hj).1;have:=dC.e;omega) hj)]
def tQ(l:List Span)(i:Nat):Int:=if i=0 then -1 else match l[i - 1]? with
 |some k=>k.hi
 |none=>0
def Ij{aH last:Int}{k:Span}{l:List Span}:lX aH last (k::l)=if ma k.lo k.hi 0 (aH - 1) aH then if k.lo<=last then 7 else lX aH k.hi l else 1:=rfl
def Ik{a b aH:Int}:ma a b 0 (aH - 1) aH=mV a b 0 (aH - 1):=by
 rw[Fz];by_cases h:mV a b 0 (aH - 1)=θ
 ·rw[h]
  simp only[mV,Aa3,decide_eq_true_eq] at h;simp;omega
 ·simp only[Bool.not_eq_true] at h;rw[h];rfl
def ajX{x:bR}{kv v:υ}{w:Ψ}{B:Nat}{l:List bR}(dH:x.name.size<=ϖ)(hk:Row w B 2 Span.R kv x.cM)(hv:Row w B 3 (bR.R w B) v l)(hB:B<=w.heap.size):
 ύ prog 146 #[v,η #[.string x.name,ξ κ x.aH,kv]] w λe w'=>e=Ω (ξ κ (gJ l x))/\Γ w.heap.size w w':=by
 obtain⟨A0,m0,c0,rfl,Uz,aoC,ic,U8⟩:=hv.Φ;obtain⟨A,m,c,rfl,hl,dX,hc,hr⟩:=hk.Φ;have dC:=ψ hl;have YK:=ψ Uz;have H0:=ψ U8;unfold ϖ at hc ic;have H2:=ψ hr;clear hl hr hk hv Uz U8;have kb:Bk (w.alloc (Ξ #[.string x.name,ξ κ x.aH,ζ A m c] 59)) w.heap.size 59 #[.string x.name,ξ κ x.aH,ζ A m c]:=Bk.new _ _ _;have KB:=ψ kb;have qh:Γ w.heap.size w (w.alloc (Ξ #[.string x.name,ξ κ x.aH,ζ A m c] 59)):=(ώ _ _).alloc (ϊ _) _;have fS:=ψ qh;clear kb qh;cases ea:mK x.name.data.toList with
 |false=>
  go_enter func146,Tryz.ntmps146;go_wp2_with (first
   | (go_at_call 186;refine(IY dH _).mono ?_;rintro e w1 ⟨rfl,rfl⟩;try rw[ea]))
  go_ret;exact⟨aX (by unfold gJ;rw[ea];rfl),fS.e⟩
 |true=>
  go_enter func146,Tryz.ntmps146;go_wp2_with (first
   | (go_at_call 186;refine(IY dH _).mono ?_;rintro e w1 ⟨rfl,rfl⟩;try rw[ea]))
  go_loopw [5] (λk wr=>∃i:Nat,i<=m0/\k=ξ κ i/\(∀(q:Nat) (y:bR),q<i->l[q]?=φ y->jF y.name x.name=χ)/\Γ (w.heap.size+1) (w.alloc (Ξ #[.string x.name,ξ κ x.aH,ζ A m c] 59)) wr) (λk _=>m0 - (ϗ k).toNat)
  case atStart=>exact⟨0,ϝ _,rfl,λq _ hq=>by omega,ώ _ _⟩
  case round=>
   obtain⟨i,hi,rfl,bj,hb⟩:=hrel;have HO:=ψ (ϐ bj hb);have fN:Γ w.heap.size w wr:=fS.e.trans (hb.mono (by omega))
   have BW:=ψ fN;have aI:w.heap.size<wr.heap.size:=by have:=hb.size;simp at this;omega
   have kr:=KB.e.below hb (by omega)
   have r0:=kr.cell 0;have r1:=kr.cell 1;have r2:=kr.cell 2;have st:Δ B w wr:=Δ.aK fN hB;have ST:=ψ st;have KR:=ψ kr;clear bj hb fN kr;by_cases al:i<m0
   ·obtain⟨ad,y,cs,rfl,aC,hy,⟨jC,rfl,NK,-⟩,-,au⟩:=H0.e i al
    have g0:=cC au st aC rfl;have qc:(ad.add (i * 3)).block<wr.heap.size:=by rw[cq];omega
    have HY:=ψ hy;clear hy au st NK;cases hs:jF y.name x.name with
    |true=>
     have cD:(y.name.toList==x.name.toList)=θ:=hs;go_wp2;go_quiet (fail);go_wp2;go_ret;refine⟨aX ?_,by first|exact BW.e|exact jq BW.e _⟩
     unfold gJ;rw[ea,if_pos rfl,if_pos];rw[Ai0];exact⟨y,ϡ HY.e,hs⟩
    |false=>
     have cD:(y.name.toList==x.name.toList)=χ:=hs;go_wp2;go_quiet (fail);go_wp2;go_roundw;case rel=>exact⟨i+1,by omega,by go_num,λq z hq hz=>by
      rcases Agh.1 hq with h|rfl
      ·exact HO.e.1 q z h hz
      ·rw[HY.e] at hz;cases hz;exact hs,by first|exact HO.e.2|exact jq HO.e.2 _⟩
     case measure=>simp[ϗ];omega
   ·obtain rfl:i=m0:=by omega
    have Dl:l.any (λq=>jF q.name x.name)=χ:=by
     rw[Ai1];intro z hz;obtain⟨q,hq⟩:=Aio hz
     simpa using HO.e.1 q z (by have:=(ϸ.1 hq).1;have:=YK.e;omega) hq
    have uw:=ψ Dl;clear Dl st;cases ij:bX x.aH 1 40 with
    |false=>
     go_wp2_with (first
      | (go_at_call 62;refine(lg _ _ _ _).mono ?_;rintro e w' ⟨rfl,rfl⟩;try rw[ij]))
     go_ret;exact⟨aX (by unfold gJ;rw[ea,uw.e,ij];rfl),BW.e⟩
    |true=>
     obtain⟨pb,Un⟩:=nJ ij;by_cases h3:3<m
     ·go_wp2_with (first
       | (go_at_call 62;refine(lg _ _ _ _).mono ?_;rintro e w' ⟨rfl,rfl⟩;try rw[ij]))
      go_ret;exact⟨aX (by unfold gJ;rw[ea,uw.e,ij,dC.e];simp[h3]),BW.e⟩
     ·go_wp2_with (first
       | (go_at_call 62;refine(lg _ _ _ _).mono ?_;rintro e w' ⟨rfl,rfl⟩;try rw[ij]))
      have fe:gJ l x=lX x.aH (-1) x.cM:=by unfold gJ;rw[ea,uw.e,ij,dC.e];simp[h3]
      have MA:=ψ fe;clear fe;clear r0 r1 r2;go_loopw [6] (λk wq=>∃j:Nat,j<=m/\k=ξ κ j/\lX x.aH (-1) x.cM=lX x.aH (tQ x.cM j) (x.cM.drop j)/\Γ (w.heap.size+1) (w.alloc (Ξ #[.string x.name,ξ κ x.aH,ζ A m c] 59)) wq) (λk _=>m - (ϗ k).toNat)
      case atStart=>exact⟨0,ϝ _,rfl,rfl,HO.e.2⟩
      case round=>
       obtain⟨j,hj,rfl,vx,hb⟩:=hrel;have RE:=ψ vx;have HQ:=ψ hb;have fN:Γ w.heap.size w wr:=fS.e.trans (hb.mono (by omega))
       have BQ:=ψ fN;have aI:w.heap.size<wr.heap.size:=by have:=hb.size;simp at this;omega
       have hle:w.heap.size+1<=wr.heap.size:=by omega
       have kr:=KB.e.below hb (by omega)
       have r0:=kr.cell 0;have r1:=kr.cell 1;have r2:=kr.cell 2;have KQ:=ψ kr;have st:Δ B w wr:=Δ.aK fN hB;have ST:=ψ st;clear vx hb fN kr;by_cases nE:j<m
       ·obtain⟨ad,y,cs,rfl,aC,hy,rfl,-,au⟩:=H2.e j nE
        have h0:=cC au st aC rfl;have h1:=bK au st aC 0 rfl;have qc:(ad.add (j * 2)).block<wr.heap.size:=by rw[cq];omega
        have HY:=ψ hy;have HC:=ψ au;clear hy au st;go_wp2;refine ua 8 (by kernel_rfl) (by kernel_rfl) ?_
        simp only[Agb,Agc,Agd,Age];repeat still_step
        refine Agy ?_
        cases hw:mV y.lo y.hi 0 (x.aH - 1) with
        |false=>
         go_wp2_with (first
             | (go_at_call 49;refine(within _).mono ?_;rintro e w2 ⟨rfl,ak⟩;try rw[hw]))
         go_ret;refine⟨aX ?_,chain BQ.e (iU ak) (by omega)⟩
         rw[MA.e,RE.e,drop_cons HY.e];rw[Ij,Ik,hw];rfl
        |true=>
         rcases Nat.eq_zero_or_pos j with uW|uW
         ·subst uW
          have hrel:lX x.aH (-1) x.cM=lX x.aH (tQ x.cM 1) (x.cM.drop 1):=by
             rw[RE.e,drop_cons HY.e];have pb:0<=y.lo:=by simp only[mV,Aa3,decide_eq_true_eq] at hw;exact hw.1
             have hn:¬ (y.lo<=tQ x.cM 0):=by simp[tQ];omega
             rw[Ij,Ik,hw,if_pos rfl,if_neg hn];simp[tQ,HY.e]
          have HR:=ψ hrel;clear hrel;go_wp2
          go_at_call 49
          refine(within _).mono ?_
          rintro e w2 ⟨rfl,ak⟩;have b2:Γ wr.heap.size wr w2:=iU ak;have k2:=KQ.e.below b2 aI;have s0:=k2.cell 0;have s1:=k2.cell 1;have s2:=k2.cell 2;have ba:w.heap.size<w2.heap.size:=by have:=b2.size;omega
          have mT:Δ B w w2:=ST.e.trans (Δ.aK b2 (by omega))
          have t0:=cC HC.e mT aC rfl;have t1:=bK HC.e mT aC 0 rfl;have q2:(ad.add (0 * 2)).block<w2.heap.size:=by rw[cq];omega
          have cy:=ψ (HQ.e.trans (b2.mono hle));have FX:=ψ (BQ.e.trans (b2.mono (by omega)))
          clear ak b2 k2 mT
          try rw[hw]
          go_wp2;go_quiet (fail);go_wp2;go_roundw;case rel=>exact⟨1,nE,by go_num,HR.e,by first|exact cy.e|exact jq cy.e _⟩
          case measure=>simp[ϗ];omega
         ·obtain⟨q,rfl⟩:∃q,j=q+1:=⟨j - 1,by omega⟩
          obtain⟨Cs,z,SF,CQ,Uv,hz,rfl,-,vd⟩:=H2.e q (by omega)
          cases CQ;have HZ:=ψ hz;have QX:=ψ vd;clear hz vd;have UD:tQ x.cM (q+1)=z.hi:=by simp[tQ,HZ.e]
          have Q2:=ψ UD;clear UD;have gx:decide ((0:Int)<((q+1:Nat):Int))=θ:=by simp<;>omega
          by_cases qI:y.lo<=z.hi
          ·have hd:decide (y.lo<=z.hi)=θ:=by simpa using qI
           go_wp2
           go_at_call 49
           refine(within _).mono ?_
           rintro e w2 ⟨rfl,ak⟩;have b2:Γ wr.heap.size wr w2:=iU ak;have k2:=KQ.e.below b2 aI;have s0:=k2.cell 0;have s1:=k2.cell 1;have s2:=k2.cell 2;have ba:w.heap.size<w2.heap.size:=by have:=b2.size;omega
           have mT:Δ B w w2:=ST.e.trans (Δ.aK b2 (by omega))
           have t0:=cC HC.e mT aC rfl;have t1:=bK HC.e mT aC 0 rfl;have q2:(ad.add ((q+1) * 2)).block<w2.heap.size:=by rw[cq];omega
           have cy:=ψ (HQ.e.trans (b2.mono hle));have FX:=ψ (BQ.e.trans (b2.mono (by omega)))
           have t3:=bK QX.e mT aC 0 rfl;have q3:(ad.add (q * 2)).block<w2.heap.size:=by rw[cq];omega
           clear ak b2 k2 mT
           try rw[hw]
           go_wp2;go_quiet (fail);go_wp2;go_ret;refine⟨aX ?_,by first|exact FX.e|exact jq FX.e _⟩
           rw[MA.e,RE.e,drop_cons HY.e,Q2.e];rw[Ij,Ik,hw,if_pos rfl,if_pos qI]
          ·have hd:decide (y.lo<=z.hi)=χ:=by simpa using qI
           have hrel:lX x.aH (-1) x.cM=lX x.aH (tQ x.cM (q+2)) (x.cM.drop (q+2)):=by
               rw[RE.e,drop_cons HY.e,Q2.e];rw[Ij,Ik,hw,if_pos rfl,if_neg qI];simp[tQ,HY.e]
           have HR:=ψ hrel;clear hrel;go_wp2
           go_at_call 49
           refine(within _).mono ?_
           rintro e w2 ⟨rfl,ak⟩;have b2:Γ wr.heap.size wr w2:=iU ak;have k2:=KQ.e.below b2 aI;have s0:=k2.cell 0;have s1:=k2.cell 1;have s2:=k2.cell 2;have ba:w.heap.size<w2.heap.size:=by have:=b2.size;omega
           have mT:Δ B w w2:=ST.e.trans (Δ.aK b2 (by omega))
           have t0:=cC HC.e mT aC rfl;have t1:=bK HC.e mT aC 0 rfl;have q2:(ad.add ((q+1) * 2)).block<w2.heap.size:=by rw[cq];omega
           have cy:=ψ (HQ.e.trans (b2.mono hle));have FX:=ψ (BQ.e.trans (b2.mono (by omega)))
           have t3:=bK QX.e mT aC 0 rfl;have q3:(ad.add (q * 2)).block<w2.heap.size:=by rw[cq];omega
           clear ak b2 k2 mT
           try rw[hw]
           go_wp2;go_quiet (fail);go_wp2;go_roundw;case rel=>exact⟨q+2,by omega,by go_num,HR.e,by first|exact cy.e|exact jq cy.e _⟩
           case measure=>simp[ϗ];omega
       ·obtain rfl:j=m:=by omega
        go_wp2;go_ret;refine⟨aX ?_,BQ.e⟩
        rw[MA.e,RE.e,Ais (by rw[dC.e];exact ϊ _)]
        rfl
def XG{a b:Int}:ma a b 0 120 121=mV a b 0 120:=by
 rw[Fz];by_cases h:mV a b 0 120=θ
 ·rw[h]
  simp only[mV,Aa3,decide_eq_true_eq] at h;simp;omega
 ·simp only[Bool.not_eq_true] at h;rw[h];rfl
def aj0{n:Int}{pv bv tv:υ}{w:Ψ}{B:Nat}{lp:List Piece}{l:List Tape}(hp:Row w B 4 Piece.R pv lp)(Dr:∃A n c,bv=ζ A n c)(hv:Row w B 3 (Tape.R w B) tv l)(hB:B<=w.heap.size):
 ύ prog 147 #[η #[ξ κ n,pv,bv,tv]] w λe w'=>e=Ω (ξ κ (kK lp.length l))/\Γ w.heap.size w w':=by
 obtain⟨PA,np,pc,rfl,kH,Hv,vw,-⟩:=hp.Φ;obtain⟨A,m,c,rfl,hl,dX,hc,hr⟩:=hv.Φ;obtain⟨BA,bn,bc,rfl⟩:=Dr;have dC:=ψ hl;have DQ:=ψ kH;have KU:=ψ (ϧ Hv vw);unfold ϖ at hc vw;have H2:=ψ hr;have kb:Bk (w.alloc (Ξ #[ξ κ n,ζ PA np pc,ζ BA bn bc,ζ A m c] 26)) w.heap.size 26 #[ξ κ n,ζ PA np pc,ζ BA bn bc,ζ A m c]:=Bk.new _ _ _;have KB:=ψ kb;have fS:Hid (Γ w.heap.size w (w.alloc (Ξ #[ξ κ n,ζ PA np pc,ζ BA bn bc,ζ A m c] 26))):=ψ ((ώ _ _).alloc (ϊ _) _);clear hl hr hv kH hp kb;by_cases hlen:4<m
 ·go_enter func147,Tryz.ntmps147
  go_wp2;go_ret;exact⟨aX (by unfold kK;rw[dC.e,if_pos hlen]),fS.e⟩
 ·go_enter func147,Tryz.ntmps147
  go_wp2;go_loopw [2,3,4,5] (λr k u v wr=>∃i:Nat,i<=m/\k=ξ κ i/\(∀(j:Nat) (x:Tape),j<i->l[j]?=φ x->kh np x=0)/\Γ (w.heap.size+1) (w.alloc (Ξ #[ξ κ n,ζ PA np pc,ζ BA bn bc,ζ A m c] 26)) wr) (λ_ k _ _ _=>m - (ϗ k).toNat)
  case atStart=>exact⟨0,ϝ _,rfl,λj _ hj=>by omega,ώ _ _⟩
  case round=>
   obtain⟨i,hi,rfl,bt,hb⟩:=hrel;have HH:=ψ (ϐ bt hb);have fN:Γ w.heap.size w wr:=fS.e.trans (hb.mono (by omega))
   have BW:=ψ fN;have aI:w.heap.size<wr.heap.size:=by have:=hb.size;simp at this;omega
   have hle:w.heap.size+1<=wr.heap.size:=by omega
   have kr:=KB.e.below hb (by omega)
   have r0:=kr.cell 0;have r1:=kr.cell 1;have r2:=kr.cell 2;have r3:=kr.cell 3;have KR:=ψ kr;have st:Δ B w wr:=Δ.aK fN hB;have ST:=ψ st;clear bt hb fN kr;by_cases al:i<m
   ·obtain⟨ad,x,cs,rfl,aC,hx,⟨kv,rfl,dj⟩,-,au⟩:=H2.e i al
    obtain⟨KA,kn,kc,rfl,da,Uu,DJ,xS⟩:=id dj.Φ;have YH:=ψ dj;unfold ϖ at DJ;have KL:=ψ da;have h0:=cC au st aC rfl;have h1:=bK au st aC 0 rfl;have h2:=bK au st aC 1 rfl;have qc:(ad.add (i * 3)).block<wr.heap.size:=by rw[cq];omega
    have HX:=ψ hx;clear hx au st dj da xS;have bad:∀s:Int,kh np x=s->s≠0->s=kK lp.length l:=λs hs h0=>by
     unfold kK;rw[dC.e,if_neg hlen,DQ.e,sf (f:=λ_ t=>kh np t) HX.e HH.e.1 (by rw[hs];exact h0),hs]
    have fG:=ψ bad;clear bad;have HO:Hid (Γ (w.heap.size+1) (w.alloc (Ξ #[ξ κ n,ζ PA np pc,ζ BA bn bc,ζ (φ ad) m c] 26)) (wr.alloc (Ξ #[ζ KA kn kc,ξ κ x.sum.lo,ξ κ x.sum.hi] 95))):=ψ (HH.e.2.alloc hle _);have Cb:Hid (Γ w.heap.size w (wr.alloc (Ξ #[ζ KA kn kc,ξ κ x.sum.lo,ξ κ x.sum.hi] 95))):=ψ (BW.e.alloc (by omega) _)
    by_cases iM:kn=0
    ·subst iM
     go_wp2;go_ret;exact⟨aX (fG.e 2 (by unfold kh;rw[KL.e];rfl) (by omega)),Cb.e⟩
    ·have ig:((kn:Int)==0)=χ:=by simp;omega
     have KG:Hid (Row (wr.alloc (Ξ #[ζ KA kn kc,ξ κ x.sum.lo,ξ κ x.sum.hi] 95)) B 1 cH (ζ KA kn kc) x.pieces):=ψ (YH.e.still (Δ.aK Cb.e hB) λ_ _ h=>h)
     by_cases dY:eE np ν x.pieces=0
     ·cases hw:mV x.sum.lo x.sum.hi 0 120 with
      |false=>
       go_wp2
       go_at_call 57
       refine(rising KG.e (by simp;omega) KU.e).mono ?_
       rintro e w2 ⟨rfl,ak⟩;rw[dY];have mG:(wr.alloc (Ξ #[ζ KA kn kc,ξ κ x.sum.lo,ξ κ x.sum.hi] 95)).heap.size=wr.heap.size+1:=by simp
       have k2:Bk w2 wr.heap.size 95 #[ζ KA kn kc,ξ κ x.sum.lo,ξ κ x.sum.hi]:=(Bk.new wr 95 _).below ak (by omega)
       have s0:=k2.cell 0;have s1:=k2.cell 1;have s2:=k2.cell 2;have ba:wr.heap.size<w2.heap.size:=k2.lt;have BX:Hid (Γ (w.heap.size+1) (w.alloc (Ξ #[ξ κ n,ζ PA np pc,ζ BA bn bc,ζ (φ ad) m c] 26)) w2):=ψ (HO.e.trans (ak.mono (by omega)))
       have J3:Hid (Γ w.heap.size w w2):=ψ (Cb.e.trans (ak.mono (by omega)))
       clear ak k2 mG;go_wp2
       go_at_call 49
       refine(within _).mono ?_
       rintro e w3 ⟨rfl,bD⟩;have BY:Hid (Γ (w.heap.size+1) (w.alloc (Ξ #[ξ κ n,ζ PA np pc,ζ BA bn bc,ζ (φ ad) m c] 26)) w3):=ψ (BX.e.trans (bD.mono (by omega)))
       have QE:Hid (Γ w.heap.size w w3):=ψ (J3.e.trans (bD.mono (by omega)))
       clear bD;rw[hw];go_wp2;go_ret;exact⟨aX (fG.e 1 (by unfold kh;rw[KL.e,if_neg iM,dY,XG,hw];rfl) (by omega)),QE.e⟩
      |true=>
       go_wp2
       go_at_call 57
       refine(rising KG.e (by simp;omega) KU.e).mono ?_
       rintro e w2 ⟨rfl,ak⟩;rw[dY];have mG:(wr.alloc (Ξ #[ζ KA kn kc,ξ κ x.sum.lo,ξ κ x.sum.hi] 95)).heap.size=wr.heap.size+1:=by simp
       have k2:Bk w2 wr.heap.size 95 #[ζ KA kn kc,ξ κ x.sum.lo,ξ κ x.sum.hi]:=(Bk.new wr 95 _).below ak (by omega)
       have s0:=k2.cell 0;have s1:=k2.cell 1;have s2:=k2.cell 2;have ba:wr.heap.size<w2.heap.size:=k2.lt;have BX:Hid (Γ (w.heap.size+1) (w.alloc (Ξ #[ξ κ n,ζ PA np pc,ζ BA bn bc,ζ (φ ad) m c] 26)) w2):=ψ (HO.e.trans (ak.mono (by omega)))
       have J3:Hid (Γ w.heap.size w w2):=ψ (Cb.e.trans (ak.mono (by omega)))
       clear ak k2 mG;go_wp2
       go_at_call 49
       refine(within _).mono ?_
       rintro e w3 ⟨rfl,bD⟩;have BY:Hid (Γ (w.heap.size+1) (w.alloc (Ξ #[ξ κ n,ζ PA np pc,ζ BA bn bc,ζ (φ ad) m c] 26)) w3):=ψ (BX.e.trans (bD.mono (by omega)))
       have QE:Hid (Γ w.heap.size w w3):=ψ (J3.e.trans (bD.mono (by omega)))
       clear bD;rw[hw];go_wp2;go_roundw;case rel=>exact⟨i+1,by omega,by go_num,λj y hj hy=>by
           rcases Agh.1 hj with h|rfl
           ·exact HH.e.1 j y h hy
           ·rw[HX.e] at hy;cases hy;unfold kh;rw[KL.e,if_neg iM,dY,XG,hw];rfl,BY.e⟩
       case measure=>simp[ϗ];omega
     ·have N9:(eE np ν x.pieces !=0)=θ:=by simpa using dY
      obtain⟨s,hs⟩:∃s,s=eE np ν x.pieces:=⟨_,rfl⟩
      rw[<-hs] at dY N9;have HS:=ψ hs;go_wp2
      go_at_call 57
      refine(rising KG.e (by simp;omega) KU.e).mono ?_
      rintro e w2 ⟨rfl,ak⟩;rw[<-HS.e];have BX:=ψ (Cb.e.trans (ak.mono (by simp;omega)))
      clear ak hs;go_wp2;go_ret;exact⟨aX (fG.e s (by unfold kh;rw[KL.e,if_neg iM,<-HS.e,if_pos dY]) dY),BX.e⟩
   ·obtain rfl:i=m:=by omega
    go_wp2;go_ret;refine⟨aX ?_,BW.e⟩
    unfold kK;rw[dC.e,if_neg hlen,DQ.e,se (f:=λ_ t=>kh np t) (λj x hj=>HH.e.1 j x (by have:=(ϸ.1 hj).1;have:=dC.e;omega) hj)]
def aac{b:ao}(h:bX b.ag 0 3=χ):dF b=1:=by
 unfold dF jP;rw[h];rfl
def aab{b:ao}(h:bX b.ag 0 3=θ)(h1:iw b.pieces≠0):dF b=iw b.pieces:=by
 unfold dF jP;rw[h];simp[scan,h1]
def Sp{b:ao}(h:bX b.ag 0 3=θ)(h1:iw b.pieces=0)(h2:kC b.aF≠0):dF b=kC b.aF:=by
 unfold dF jP;rw[h];simp[scan,h1,h2]
def aad{b:ao}(h:bX b.ag 0 3=θ)(h1:iw b.pieces=0)(h2:kC b.aF=0):dF b=kK b.pieces.length b.aJ:=by
 unfold dF jP;rw[h]
 by_cases h3:kK b.pieces.length b.aJ=0
 ·simp[scan,h1,h2,h3]
 ·simp[scan,h1,h2,h3]
def ajY{b:ao}{pv bv tv:υ}{w:Ψ}{B:Nat}(ai:bg w B b pv bv tv)(hB:B<=w.heap.size):
 ύ prog 69 #[η #[ξ κ b.ag,pv,bv,tv]] w λe w'=>e=Ω (ξ κ (dF b))/\Γ w.heap.size w w':=by
 have bT:=ψ ai;obtain⟨PA,np,pc,rfl,kH,Hv,vw,-⟩:=ai.pieces.Φ;obtain⟨TA,nt,tc,rfl,xZ,htc,Ob,-⟩:=ai.aJ.Φ;obtain⟨A,m,c,rfl,hl,dX,hc,hr⟩:=ai.aF.Φ;have dC:=ψ hl;unfold ϖ at hc vw Ob;have H2:=ψ hr;have kb:Bk (w.alloc (Ξ #[ξ κ b.ag,ζ PA np pc,ζ A m c,ζ TA nt tc] 26)) w.heap.size 26 #[ξ κ b.ag,ζ PA np pc,ζ A m c,ζ TA nt tc]:=Bk.new _ _ _;have KB:=ψ kb;have fS:Hid (Γ w.heap.size w (w.alloc (Ξ #[ξ κ b.ag,ζ PA np pc,ζ A m c,ζ TA nt tc] 26))):=ψ ((ώ _ _).alloc (ϊ _) _);have mG:(w.alloc (Ξ #[ξ κ b.ag,ζ PA np pc,ζ A m c,ζ TA nt tc] 26)).heap.size=w.heap.size+1:=by simp
 have K2:=ψ mG;have Kc:Hid (ύ prog 145 #[ζ PA np pc] (w.alloc (Ξ #[ξ κ b.ag,ζ PA np pc,ζ A m c,ζ TA nt tc] 26)) λe w'=>e=Ω (ξ κ (iw b.pieces))/\Γ (w.heap.size+1) (w.alloc (Ξ #[ξ κ b.ag,ζ PA np pc,ζ A m c,ζ TA nt tc] 26)) w'):=ψ (by
  have:=ajZ (bT.e.pieces.still (Δ.aK fS.e hB) λ_ _ h=>h) (by rw[mG];omega)
  rw[mG] at this;exact this)
 clear hl hr ai kH xZ kb mG;cases h1:bX b.ag 0 3 with
 |false=>
  go_enter func69,Tryz.ntmps69;go_wp2_with (first
   | (go_at_call 62;refine(lg _ _ _ _).mono ?_;rintro e w' ⟨rfl,rfl⟩;try rw[h1]))
  go_ret;exact⟨aX (aac h1).symm,fS.e⟩
 |true=>
  by_cases h2:iw b.pieces=0
  ·go_enter func69,Tryz.ntmps69
   go_wp2_with (first
    | (go_at_call 62;refine(lg _ _ _ _).mono ?_;rintro e w' ⟨rfl,rfl⟩;try rw[h1]))
   go_at_call 145
   refine Kc.e.mono ?_
   rintro e w1 ⟨rfl,ae⟩;rw[h2];have k1:=KB.e.below ae (by omega)
   have r0:=k1.cell 0;have r1:=k1.cell 1;have r2:=k1.cell 2;have r3:=k1.cell 3;have aN:w.heap.size<w1.heap.size:=k1.lt;have dO:Hid (Γ w.heap.size w w1):=ψ (fS.e.trans (ae.mono (by omega)))
   have Yl:=ψ ae;clear k1 ae;by_cases h3:3<m
   ·go_wp2
    go_ret;exact⟨aX (by rw[Sp h1 h2 (by unfold kC;rw[dC.e,if_pos h3];omega)];unfold kC;rw[dC.e,if_pos h3]),dO.e⟩
   ·go_wp2
    clear r0 r1 r2 r3;go_loopw [2,4,5] (λr k u wr=>∃i:Nat,i<=m/\k=ξ κ i/\(∀(j:Nat) (x:bR),j<i->b.aF[j]?=φ x->gJ (b.aF.take j) x=0)/\Γ (w.heap.size+1) (w.alloc (Ξ #[ξ κ b.ag,ζ PA np pc,ζ A m c,ζ TA nt tc] 26)) wr) (λ_ k _ _=>m - (ϗ k).toNat)
    case atStart=>exact⟨0,ϝ _,rfl,λj _ hj=>by omega,Yl.e⟩
    case round=>
     obtain⟨i,hi,rfl,bt,hb⟩:=hrel;have HH:=ψ (ϐ bt hb);have fN:Γ w.heap.size w wr:=fS.e.trans (hb.mono (by omega))
     have BW:=ψ fN;have aI:w.heap.size<wr.heap.size:=by have:=hb.size;have:=K2.e;omega
     have hle:w.heap.size+1<=wr.heap.size:=by omega
     have kr:=KB.e.below hb (by omega)
     have r0:=kr.cell 0;have r1:=kr.cell 1;have r2:=kr.cell 2;have r3:=kr.cell 3;have st:Δ B w wr:=Δ.aK fN hB;have ST:=ψ st;clear bt hb fN kr;by_cases al:i<m
     ·obtain⟨ad,x,cs,rfl,aC,hx,⟨kv,rfl,dH,dj⟩,-,au⟩:=H2.e i al
      obtain⟨A2,c2,rfl,-⟩:=id dj;obtain⟨n2,dM⟩:∃n2,n2=x.cM.length:=⟨_,rfl⟩
      rw[<-dM] at dj au;clear dM;have yV:=ψ dj;have g0:=cC au st aC rfl;have g1:=bK au st aC 0 rfl;have g2:=bK au st aC 1 rfl;have HX:=ψ hx;clear hx au st dj;have DD:i<=c:=by omega
      go_wp2;refine ua 9 (by kernel_rfl) (by kernel_rfl) ?_
      simp only[Agb,Agc,Agd,Age];repeat still_step
      refine Agy ?_
      have HR:=ψ ((bT.e.aF.take hi).still ST.e λ_ _ h=>h.still ST.e)
      have F7:=ψ (yV.e.still ST.e λ_ _ h=>h)
      have Kd:Hid (ύ prog 146 #[ζ (φ ad) i c,η #[.string x.name,ξ κ x.aH,ζ A2 n2 c2]] wr.drew λe w'=>e=Ω (ξ κ (gJ (b.aF.take i) x))/\Γ wr.heap.size wr w'):=ψ (by
       have:=ajX (w:=wr.drew) dH F7.e HR.e (by show B<=wr.heap.size;omega)
       exact this.mono λe w' ⟨h1,h2⟩=>⟨h1,iU h2⟩)
      by_cases hz:gJ (b.aF.take i) x=0
      ·go_wp2
       go_at_call 146
       refine Kd.e.mono ?_
       rintro e w2 ⟨rfl,ak⟩;rw[hz];have BX:=ψ (HH.e.2.trans (ak.mono hle));clear ak;go_wp2;go_roundw;case rel=>exact⟨i+1,by omega,by go_num,λj y hj hy=>by
        rcases Agh.1 hj with h|rfl
        ·exact HH.e.1 j y h hy
        ·rw[HX.e] at hy;cases hy;exact hz,BX.e⟩
       case measure=>simp[ϗ];omega
      ·obtain⟨s,hs⟩:∃s,s=gJ (b.aF.take i) x:=⟨_,rfl⟩
       rw[<-hs] at hz Kd;have N9:(s !=0)=θ:=by simpa using hz
       have HS:=ψ hs;clear hs;go_wp2
       go_at_call 146
       refine Kd.e.mono ?_
       rintro e w2 ⟨rfl,ak⟩;have BX:=ψ (BW.e.trans (ak.mono (by omega)))
       clear ak;go_wp2;go_ret;have fe:kC b.aF=s:=by
        unfold kC;rw[dC.e,if_neg h3,sf HX.e HH.e.1 (by rw[<-HS.e];exact hz),<-HS.e]
       exact⟨aX (by rw[Sp h1 h2 (by rw[fe];exact hz),fe]),BX.e⟩
     ·obtain rfl:i=m:=by omega
      have fe:kC b.aF=0:=by
       unfold kC;rw[dC.e,if_neg h3,se (λj x hj=>HH.e.1 j x (by have:=(ϸ.1 hj).1;have:=dC.e;omega) hj)]
      have MA:=ψ fe;have Yn:Hid (ύ prog 147 #[η #[ξ κ b.ag,ζ PA np pc,ζ A i c,ζ TA nt tc]] wr λe w'=>e=Ω (ξ κ (kK b.pieces.length b.aJ))/\Γ wr.heap.size wr w'):=ψ
       (aj0 (bT.e.pieces.still ST.e λ_ _ h=>h) ⟨_,_,_,rfl⟩ (bT.e.aJ.still ST.e λ_ _ h=>h.still ST.e) (by omega))
      clear fe st;go_wp2
      go_at_call 147
      refine Yn.e.mono ?_
      rintro e w2 ⟨rfl,ak⟩;have BX:=ψ (BW.e.trans (ak.mono (by omega)))
      clear ak;go_wp2;go_ret;exact⟨aX (aad h1 h2 MA.e).symm,BX.e⟩
  ·obtain⟨s,hs⟩:∃s,s=iw b.pieces:=⟨_,rfl⟩
   have o4:=aab h1 h2;rw[<-hs] at h2 Kc o4;have N9:(s !=0)=θ:=by simpa using h2
   have YB:=ψ o4;clear hs o4;go_enter func69,Tryz.ntmps69;go_wp2_with (first
    | (go_at_call 62;refine(lg _ _ _ _).mono ?_;rintro e w' ⟨rfl,rfl⟩;try rw[h1]))
   go_at_call 145
   refine Kc.e.mono ?_
   rintro e w1 ⟨rfl,ae⟩;have dO:Hid (Γ w.heap.size w w1):=ψ (fS.e.trans (ae.mono (by omega)))
   clear ae;go_wp2;go_ret;exact⟨aX YB.e.symm,dO.e⟩
def rq(x:bR):Bool:=decide (100<x.name.size) ||decide (20<x.cM.length)
def zH(x:Piece):Bool:=decide (100<x.name.size)
def zI(x:Tape):Bool:=decide (20<x.pieces.length)
def uU(b:ao):Bool:=(decide (20<b.pieces.length) || (decide (20<b.aF.length) ||decide (20<b.aJ.length))) || (b.pieces.any zH|| (b.aF.any rq||b.aJ.any zI))
def Zz{x:bR}{kv:υ}{w:Ψ}{B:Nat}(dH:x.name.size<=ϖ)(hk:Row w B 2 Span.R kv x.cM):
 ύ prog 51 #[η #[.string x.name,ξ κ x.aH,kv]] w λe w'=>e=Ω (.bool (rq x))/\Γ w.heap.size w w':=by
 obtain⟨A,m,c,rfl,hl,dX,hc,-⟩:=hk.Φ;unfold ϖ at hc dH;have HL:=ψ hl;clear hl hk;by_cases h1:100<x.name.size
 ·go_enter func51,Tryz.ntmps51
  go_wp2;go_ret;exact⟨b9 (by unfold rq;simp[h1]),(ώ _ _).alloc (ϊ _) _⟩
 ·by_cases h2:20<m
  ·go_enter func51,Tryz.ntmps51
   go_wp2;go_ret;exact⟨b9 (by unfold rq;rw[HL.e];simp[h2];omega),(ώ _ _).alloc (ϊ _) _⟩
  ·go_enter func51,Tryz.ntmps51
   go_wp2;go_ret;exact⟨b9 (by unfold rq;rw[HL.e];simp[h1,h2];omega),(ώ _ _).alloc (ϊ _) _⟩
def Lp{α:Type}{p:α->Bool}{l:List α}{i:Nat}{x:α}(h:l[i]?=φ x)(hp:p x=θ):l.any p=θ:=Ai0.2 ⟨x,ϡ h,hp⟩
def Lo{α:Type}{p:α->Bool}{l:List α}{n:Nat}(hn:l.length=n)(h:∀(j:Nat) (x:α),j<n->l[j]?=φ x->p x=χ):l.any p=χ:=by
 rw[Ai1];intro z hz;obtain⟨q,hq⟩:=Aio hz
 simpa using h q z (by have:=(ϸ.1 hq).1;omega) hq
def adh{b:ao}{pv bv tv:υ}{w:Ψ}{B:Nat}(ai:bg w B b pv bv tv)(hB:B<=w.heap.size):
 ύ prog 20 #[η #[ξ κ b.ag,pv,bv,tv]] w λe w'=>e=Ω (.bool (uU b))/\Γ w.heap.size w w':=by
 obtain⟨PA,np,pc,rfl,kH,Hv,vw,U6⟩:=ai.pieces.Φ;obtain⟨TA,nt,tc,rfl,xZ,htc,Ob,pg⟩:=ai.aJ.Φ;obtain⟨A,m,c,rfl,hl,dX,hc,hr⟩:=ai.aF.Φ;have KJ:=ψ kH;have KI:=ψ hl;have KP:=ψ xZ;have HP:=ψ U6;have HT:=ψ pg;have H2:=ψ hr;unfold ϖ at hc vw Ob;have kb:Bk (w.alloc (Ξ #[ξ κ b.ag,ζ PA np pc,ζ A m c,ζ TA nt tc] 26)) w.heap.size 26 #[ξ κ b.ag,ζ PA np pc,ζ A m c,ζ TA nt tc]:=Bk.new _ _ _;have KB:=ψ kb;have fS:Hid (Γ w.heap.size w (w.alloc (Ξ #[ξ κ b.ag,ζ PA np pc,ζ A m c,ζ TA nt tc] 26))):=ψ ((ώ _ _).alloc (ϊ _) _);have K2:Hid ((w.alloc (Ξ #[ξ κ b.ag,ζ PA np pc,ζ A m c,ζ TA nt tc] 26)).heap.size=w.heap.size+1):=ψ (by simp)
 have Vr:∀q:Bool,q=θ->(decide (20<b.pieces.length) || (decide (20<b.aF.length) ||decide (20<b.aJ.length)))=q->θ=uU b:=λq h1 h2=>by unfold uU;rw[h2,h1];rfl
 have K1:=ψ Vr;clear hl hr ai kH xZ kb U6 pg Vr;by_cases h1:20<np
 ·go_enter func20,Tryz.ntmps20
  go_wp2;go_ret;exact⟨b9 (K1.e θ rfl (by rw[KJ.e];simp[h1])),fS.e⟩
 by_cases h2:20<m
 ·go_enter func20,Tryz.ntmps20
  go_wp2;go_ret;exact⟨b9 (K1.e θ rfl (by rw[KI.e];simp[h2])),fS.e⟩
 by_cases h3:20<nt
 ·go_enter func20,Tryz.ntmps20
  go_wp2;go_ret;exact⟨b9 (K1.e θ rfl (by rw[KP.e];simp[h3])),fS.e⟩
 have bj:uU b=(b.pieces.any zH|| (b.aF.any rq||b.aJ.any zI)):=by
  unfold uU;rw[KJ.e,KI.e,KP.e];simp[h1,h2,h3]
 have sT:=ψ bj;clear bj;go_enter func20,Tryz.ntmps20;go_wp2;go_loopw [2,3] (λr k wr=>∃i:Nat,i<=np/\k=ξ κ i/\(∀(j:Nat) (x:Piece),j<i->b.pieces[j]?=φ x->zH x=χ)/\Γ (w.heap.size+1) (w.alloc (Ξ #[ξ κ b.ag,ζ PA np pc,ζ A m c,ζ TA nt tc] 26)) wr) (λ_ k _=>np - (ϗ k).toNat)
 case atStart=>exact⟨0,ϝ _,rfl,λj _ hj=>by omega,by rw[<-K2.e];exact ώ _ _⟩
 case round=>
  obtain⟨i,hi,rfl,bt,hb⟩:=hrel;have HH:=ψ (ϐ bt hb);have fN:Γ w.heap.size w wr:=fS.e.trans (hb.mono (by omega))
  have BW:=ψ fN;have kr:=KB.e.below hb (by omega)
  have aI:w.heap.size<wr.heap.size:=kr.lt;have r0:=kr.cell 0;have r1:=kr.cell 1;have r2:=kr.cell 2;have r3:=kr.cell 3;have st:Δ B w wr:=Δ.aK fN hB;clear bt hb fN kr;by_cases al:i<np
  ·obtain⟨ad,x,cs,rfl,aC,hx,⟨rfl,dH⟩,-,au⟩:=HP.e i al
   have g0:=cC au st aC rfl;have qc:(ad.add (i * 4)).block<wr.heap.size:=by rw[cq];omega
   have HX:=ψ hx;unfold ϖ at dH;clear hx au st;by_cases hg:100<x.name.size
   ·go_wp2
    go_ret;exact⟨b9 (by rw[sT.e,Lp HX.e (by unfold zH;simpa using hg)];rfl),BW.e⟩
   ·go_wp2
    go_roundw;case rel=>exact⟨i+1,by omega,by go_num,λj y hj hy=>by
     rcases Agh.1 hj with h|rfl
     ·exact HH.e.1 j y h hy
     ·rw[HX.e] at hy;cases hy;unfold zH;simpa using hg,HH.e.2⟩
    case measure=>simp[ϗ];omega
  ·obtain rfl:i=np:=by omega
   have qx:b.pieces.any zH=χ:=Lo KJ.e HH.e.1;have kQ:=ψ qx;have F3:=ψ HH.e.2;clear qx st;go_wp2;clear r0 r1 r2 r3;go_loopw [2,4] (λr k wr=>∃j:Nat,j<=m/\k=ξ κ j/\(∀(q:Nat) (x:bR),q<j->b.aF[q]?=φ x->rq x=χ)/\Γ (w.heap.size+1) (w.alloc (Ξ #[ξ κ b.ag,ζ PA i pc,ζ A m c,ζ TA nt tc] 26)) wr) (λ_ k _=>m - (ϗ k).toNat)
   case atStart=>exact⟨0,ϝ _,rfl,λj _ hj=>by omega,F3.e⟩
   case round=>
    obtain⟨j,hj,rfl,bt,hb⟩:=hrel;have HG:=ψ (ϐ bt hb);have fN:Γ w.heap.size w wr:=fS.e.trans (hb.mono (by omega))
    have BV:=ψ fN;have kr:=KB.e.below hb (by omega)
    have oD:w.heap.size<wr.heap.size:=kr.lt;have hle:w.heap.size+1<=wr.heap.size:=oD;have r0:=kr.cell 0;have r1:=kr.cell 1;have r2:=kr.cell 2;have r3:=kr.cell 3;have st:Δ B w wr:=Δ.aK fN hB;have ST:=ψ st;clear bt hb fN kr;by_cases al:j<m
    ·obtain⟨ad,x,cs,rfl,aC,hx,⟨kv,rfl,dH,dj⟩,-,au⟩:=H2.e j al
     obtain⟨A2,c2,rfl,-⟩:=id dj;obtain⟨n2,dM⟩:∃n2,n2=x.cM.length:=⟨_,rfl⟩
     rw[<-dM] at dj au;clear dM;have QO:Hid (ύ prog 51 #[η #[.string x.name,ξ κ x.aH,ζ A2 n2 c2]] wr λe w'=>e=Ω (.bool (rq x))/\Γ wr.heap.size wr w'):=ψ (Zz dH (dj.still st λ_ _ h=>h))
     have g0:=cC au st aC rfl;have g1:=bK au st aC 0 rfl;have g2:=bK au st aC 1 rfl;have qc:(ad.add (j * 3)).block<wr.heap.size:=by rw[cq];omega
     have HX:=ψ hx;clear hx au st dj;cases hg:rq x with
     |true=>
      go_wp2
      go_at_call 51
      refine QO.e.mono ?_
      rintro e w2 ⟨rfl,ak⟩;rw[hg];have BX:=ψ (BV.e.trans (ak.mono (by omega)))
      clear ak;go_wp2;go_ret;exact⟨b9 (by rw[sT.e,Lp HX.e hg];simp),BX.e⟩
     |false=>
      go_wp2
      go_at_call 51
      refine QO.e.mono ?_
      rintro e w2 ⟨rfl,ak⟩;rw[hg];have BX:=ψ (HG.e.2.trans (ak.mono hle));clear ak;go_wp2;go_roundw;case rel=>exact⟨j+1,by omega,by go_num,λq y hq hy=>by
       rcases Agh.1 hq with h|rfl
       ·exact HG.e.1 q y h hy
       ·rw[HX.e] at hy;cases hy;exact hg,BX.e⟩
      case measure=>simp[ϗ];omega
    ·obtain rfl:j=m:=by omega
     have dM:b.aF.any rq=χ:=Lo KI.e HG.e.1;have YO:=ψ dM;have Yz:=ψ HG.e.2;clear dM st;go_wp2;clear r0 r1 r2 r3;go_loopw [2,5] (λr k wr=>∃q:Nat,q<=nt/\k=ξ κ q/\(∀(z:Nat) (x:Tape),z<q->b.aJ[z]?=φ x->zI x=χ)/\Γ (w.heap.size+1) (w.alloc (Ξ #[ξ κ b.ag,ζ PA i pc,ζ A j c,ζ TA nt tc] 26)) wr) (λ_ k _=>nt - (ϗ k).toNat)
     case atStart=>exact⟨0,ϝ _,rfl,λj _ hj=>by omega,Yz.e⟩
     case round=>
      obtain⟨q,hq,rfl,bt,hb⟩:=hrel;have HK:=ψ (ϐ bt hb);have fN:Γ w.heap.size w wr:=fS.e.trans (hb.mono (by omega))
      have BZ:=ψ fN;have kr:=KB.e.below hb (by omega)
      have D2:w.heap.size<wr.heap.size:=kr.lt;have r0:=kr.cell 0;have r1:=kr.cell 1;have r2:=kr.cell 2;have r3:=kr.cell 3;have st:Δ B w wr:=Δ.aK fN hB;clear bt hb fN kr;by_cases al:q<nt
      ·obtain⟨ad,x,cs,rfl,aC,hx,⟨kv,rfl,dj⟩,-,au⟩:=HT.e q al
       obtain⟨KA,kn,kc,rfl,da,Uu,DJ,-⟩:=dj.Φ;unfold ϖ at DJ;have KL:=ψ da;have g0:=cC au st aC rfl;have qc:(ad.add (q * 3)).block<wr.heap.size:=by rw[cq];omega
       have HX:=ψ hx;clear hx au st dj da;by_cases hg:20<kn
       ·go_wp2
        go_ret;exact⟨b9 (by rw[sT.e,Lp HX.e (by unfold zI;rw[KL.e];simpa using hg)];simp),BZ.e⟩
       ·go_wp2
        go_roundw;case rel=>exact⟨q+1,by omega,by go_num,λz y hz hy=>by
             rcases Agh.1 hz with h|rfl
             ·exact HK.e.1 z y h hy
             ·rw[HX.e] at hy;cases hy;unfold zI;rw[KL.e];simpa using hg,HK.e.2⟩
        case measure=>simp[ϗ];omega
      ·obtain rfl:q=nt:=by omega
       have lQ:b.aJ.any zI=χ:=Lo KP.e HK.e.1;have YP:=ψ lQ;clear lQ st;go_wp2;go_ret;exact⟨b9 (by rw[sT.e,kQ.e,YO.e,YP.e];rfl),BZ.e⟩
end Go.Tw
namespace Go.Tw
variable [Go.Tw.aR]
open Go Go.Proofs Go.RowKit
end Go.Tw
namespace Go.Tw
variable [Go.Tw.aR]
open Go Go.Proofs Go.RowKit
end Go.Tw
namespace Go.Tw
variable [Go.Tw.aR]
open Go Go.Proofs Go.RowKit
def xa:List Int->Int->List Int
 | [],x=> [x]
 |a::l,x=>if a<x then a::xa l x else if a=x then a::l else x::a::l
def afI{x:Int}:∀ {l:List Int},l.Pairwise (· < ·)->(xa l x).Pairwise (· < ·)/\∀y,y∈xa l x↔y∈l\/y=x
 | [],_=>by simp[xa]
 |a::l,h=>by
  rw[Aiy] at h;obtain⟨h1,h2⟩:=afI (x:=x) h.2;unfold xa;split
  ·refine⟨Aiy.2 ⟨λy hy=>?_,h1⟩,λy=>?_⟩
   ·rcases(h2 y).1 hy with hy|rfl
    ·exact h.1 y hy
    ·assumption
   ·rw[ϣ,h2,ϣ,or_assoc]
  ·split
   ·rename_i e
    subst e;exact⟨Aiy.2 h,λy=>by rw[ϣ];constructor<;>(rintro(h|h)<;>simp_all)⟩
   ·refine⟨Aiy.2 ⟨λy hy=>?_,Aiy.2 h⟩,λy=>by rw[ϣ,or_comm]⟩
    rcases ϣ.1 hy with rfl|hy
    ·omega
    ·have:=h.1 y hy;omega
def VU{x:Int}:∀ {l:List Int} {k:Nat},(∀(q:Nat) (y:Int),q<k->l[q]?=φ y->y<x)->k<=l.length->(∀y,l[k]?=φ y->¬y<x)->xa l x=if l[k]?=φ x then l else l.take k++x::l.drop k
 | [],k,_,hk,_=>by simp at hk;subst hk;simp[xa]
 |a::l,0,_,_,h=>by
  have:=h a rfl;unfold xa;rw[if_neg this];by_cases e:a=x
  ·simp[e]
  ·simp[e]
 |a::l,k+1,h0,hk,h=>by
  have ha:=h0 0 a (by omega) rfl
  unfold xa;rw[if_pos ha,VU (k:=k) (λq y hq hy=>h0 (q+1) y (by omega) (by simpa using hy)) (by simpa using hk) (λy hy=>h y (by simpa using hy))]
  simp only[List.getElem?_cons_succ,Agb,Agd]
  split<;>simp
def yO(l:List Int):List Int:=l.foldl xa []
def afS(l:List Int):O7 (yO l) l:=by
 have key:∀(l m:List Int),m.Pairwise (· < ·)->(l.foldl xa m).Pairwise (· < ·)/\∀y,y∈l.foldl xa m↔y∈m\/y∈l:=by
  intro l;induction l with
  |nil=>intro m h;simp[h]
  |cons a l ih=>
   intro m h;obtain⟨h1,h2⟩:=afI (x:=a) h;obtain⟨h3,h4⟩:=ih _ h1;exact⟨h3,λy=>by rw[List.foldl_cons,h4,h2,ϣ,or_assoc]⟩
 obtain⟨h1,h2⟩:=key l [] List.Pairwise.nil;exact⟨h1,λy=>by unfold yO;rw[h2];simp⟩
def anK(l:List Int)(x:Int):(xa l x).length<=l.length+1:=by
 induction l with
 |nil=>simp[xa]
 |cons a l ih=>unfold xa;split<;>(try split)<;>simp<;>omega
def afO(l:List Int):(yO l).length<=l.length:=by
 have key:∀(l m:List Int),(l.foldl xa m).length<=m.length+l.length:=by
  intro l;induction l with
  |nil=>simp
  |cons a l ih=>intro m;have:=ih (xa m a);have:=anK m a;simp only[List.foldl_cons,Ahi];omega
 simpa [yO] using key l []
def apH(l:List Int)(x:Int):yO (l++ [x])=xa (yO l) x:=by simp[yO]
def apI{w w1:Ψ}{base:Nat}{e:ϋ}{sz n g cap:Nat}{xs:List υ}(h:w.ownsRow base e sz (ζ (φ ⟨g,0,ν⟩) n cap) n xs)(hk:w1.heap[g]?=w.heap[g]?):w1.ownsRow base e sz (ζ (φ ⟨g,0,ν⟩) n cap) n xs:=by
 refine⟨h.1,?_⟩
 rcases h.2 with⟨h,_⟩ | ⟨g',zd,cur,e,jU,rH,h4⟩
 ·cases h
 ·injection e with e1 e2 e3
  cases e1;exact .inr ⟨g,zd,cur,by rw[e3],jU,hk.trans rH,h4⟩
def afG{w wo V:Ψ}{os:List Int}{m j g cap:Nat}(hw:wo.ownsRow w.heap.size 3 1 (ζ (φ ⟨g,0,ν⟩) m cap) os.length (os.map (ξ κ)))(hV:V.heap=wo.heap)(hm:os.length=m)
 (hr:∀i,i<m->∃ad x cs,φ (⟨g,0,ν⟩:ϕ)=φ ad/\ad.block<wo.heap.size/\os[i]?=φ x/\cH x cs/\cs.length=1/\∀(j:Nat) (u:υ),cs[j]?=φ u-> wo.cell? (ad.add (i * 1+j))=φ u){d:Nat}(hj:m=j+d)(hB:Γ w.heap.size w V)(hg:w.heap.size<=g):
 (∀x:Int,(V.drew.alloc (Ξ #[ξ κ x] 3)).ownsRow V.heap.size 3 1 (ζ (φ ⟨V.heap.size,0,ν⟩) 1 1) 1 [ξ κ x])/\
 ((os.drop j).map (ξ κ)).length=d * 1/\
 (∀(x:Int) (q:Nat) (u:υ),((os.drop j).map (ξ κ))[q]?=φ u->(V.drew.alloc (Ξ #[ξ κ x] 3)).cell? ((⟨g,j,ν⟩:ϕ).add q)=φ u)/\
 (∀u∈(os.drop j).map (ξ κ),u.oneCell'=θ)/\
 ∀(x:Int) {v1:υ} {w1:Ψ},w1.ownsRow V.heap.size 3 1 v1 (1+d) ([ξ κ x]++(os.drop j).map (ξ κ))->(V.drew.alloc (Ξ #[ξ κ x] 3)).grownBy w1 (Value.slice (φ ⟨V.heap.size,0,ν⟩) 1 1).ownBlock->
  w1.ownsRow w.heap.size 3 1 (ζ (φ ⟨g,0,ν⟩) j cap) j ((os.take j).map (ξ κ))/\Γ w.heap.size w w1/\w1.ownsRow V.heap.size 3 1 v1 (1+d) ([ξ κ x]++(os.drop j).map (ξ κ)):=by
 have Uh:g<V.heap.size:=by
  rw[hV];rcases hw.2 with⟨h,_⟩ | ⟨g',zd,cur,e,-,hk,-⟩
  ·cases h
  ·injection e with e1 e2 e3
   cases e1;exact(Ϟ.1 hk).1
 have aI:=hB.size;refine⟨λx=>⟨rfl,.inr ⟨V.heap.size,1,_,rfl,ϊ _,Aif _ _,ϊ _,by unfold ϖ;omega,rfl,rfl⟩⟩,by simp[hm];omega,λx q u hu=>?_,λu hu=>by obtain⟨y,_,rfl⟩:=Ahw.1 hu;rfl,λx v1 w1 ho dB=>⟨?_,?_,ho⟩⟩
 ·rw[Ahs] at hu
  obtain⟨y,hy,rfl⟩:=Option.map_eq_some_iff.1 hu;rw[List.getElem?_drop] at hy
  have al:j+q<m:=by rw[<-hm];exact(ϸ.1 hy).1
  obtain⟨ad,y',cs,e,aC,dZ,rfl,-,hc⟩:=hr (j+q) al;cases e;rw[hy] at dZ;cases dZ;have:=hc 0 _ rfl;rw[show(j+q) * 1+0=j+q by omega] at this
  rw[show(⟨g,j,ν⟩:ϕ).add q=(⟨g,0,ν⟩:ϕ).add (j+q) by unfold Addr.add;split<;>split<;>simp_all]
  refine(Afu _ _ _ (by rw[cq];exact Uh)).trans ?_
  exact(Aik (by show V.heap[_]?=wo.heap[_]?;rw[hV])).trans this
 ·have hk:w1.heap[g]?=wo.heap[g]?:=by
   refine(dB.block g (by simp;omega) (by simp[Value.ownBlock];omega)).trans ?_
   rw[<-hV];exact((ώ V.heap.size V.drew).alloc (ϊ _) _).block g Uh
  have h1:=apI (hm▸hw) hk;have:=ajw h1 (show j<=m by omega)
  rw[Agj,<-List.map_take] at this;exact this
 ·exact((iY hB).alloc aI _).grown dB (by simp;omega) (λk hk=>by simp[Value.ownBlock] at hk;omega)
def adn{x:Int}{l:List υ}{d:Nat}(h:l.length=d * 1):([ξ κ x]++l).length=(1+d) * 1:=by simp[h];omega
def ado{x:Int}{l:List υ}(h:∀u∈l,u.oneCell'=θ):∀u∈ [ξ κ x]++l,u.oneCell'=θ:=by
 intro u hu;rcases Af1.1 hu with hu|hu
 ·rw[Afx] at hu;subst hu;rfl
 ·exact h u hu
def adk{w:Ψ}{base g c d:Nat}{x:Int}{l:List υ}(h:w.ownsRow base 3 1 (ζ (φ ⟨g,0,ν⟩) (1+d) c) (1+d) ([ξ κ x]++l))(hl:l.length=d * 1):∀(q:Nat) (u:υ),([ξ κ x]++l)[q]?=φ u-> w.cell? ((⟨g,0,ν⟩:ϕ).add q)=φ u:=by
 intro q u hu;have al:=(ϸ.1 hu).1
 rw[Ahr,hl] at al;rw[nu,h.cellAt q (by simpa using al)]
 exact hu
def ads{w:Ψ}{base j m d:Nat}{v:υ}{x:Int}{os:List Int}(h:w.ownsRow base 3 1 v (j+(1+d)) ((os.take j).map (ξ κ)++([ξ κ x]++(os.drop j).map (ξ κ))))(hj:m=j+d)(hm:os.length=m):
 w.ownsRow base 3 1 v (os.take j++x::os.drop j).length ((os.take j++x::os.drop j).map (ξ κ)):=by
 have e1:(os.take j++x::os.drop j).length=j+(1+d):=by simp;omega
 have e2:(os.take j++x::os.drop j).map (ξ κ)=(os.take j).map (ξ κ)++([ξ κ x]++(os.drop j).map (ξ κ)):=by rw[Ahy,Aiq];rfl
 rw[e1,e2];exact h
def afW{l:List Int}{v:υ}{w:Ψ}{B:Nat}(hl:Row w B 1 cH v l)(hB:B<=w.heap.size)(xv:l.length<=1000):
 ύ prog 106 #[v] w λe w'=>∃u,e=Ω u/\w'.ownsRow w.heap.size 3 1 u (yO l).length ((yO l).map (ξ κ))/\Γ w.heap.size w w':=by
 obtain⟨i0,cR,cT,aN,ba⟩:=Agv Oo;obtain⟨A,n,c,rfl,e1,dX,cX,hr⟩:=hl.Φ;unfold ϖ at cX;have hn:n<=1000:=by omega
 have HE:=ψ e1;have H1:=ψ hr;have HI:=ψ (ϐ cR (ϐ cT (ϐ aN ba)));clear hl hr e1 xv cR cT aN ba;go_enter func106,Tryz.ntmps106;go_wp2;go_loopw [3,4,5] (λo u k wr=>∃i:Nat,i<=n/\u=ξ κ i/\Hid (wr.ownsRow w.heap.size 3 1 o (yO (l.take i)).length ((yO (l.take i)).map (ξ κ)))/\Γ w.heap.size w wr) (λ_ u _ _=>n - (ϗ u).toNat)
 case atStart=>exact⟨0,ϝ _,rfl,ψ ⟨by simp[yO],.inl ⟨rfl,by simp[yO]⟩⟩,ώ _ _⟩
 case round=>
  obtain⟨wo,rfl⟩:∃wo:Ψ,wo=wr:=⟨_,rfl⟩
  obtain⟨i,hi,rfl,aG,hb⟩:=hrel;have HB:=ψ hb;have aI:=hb.size;by_cases al:i<n
  ·obtain⟨ad,x,cs,rfl,aC,hx,rfl,-,au⟩:=H1.e i al
   have st:Δ B w wo:=Δ.aK hb hB;have x0: wo.cell? (ad.add i)=φ (ξ κ x):=by have:=cC au st aC (u:=ξ κ x) rfl;rwa[Agj] at this
   obtain⟨os,wF⟩:∃os,os=yO (l.take i):=⟨_,rfl⟩
   have ae8:yO (l.take (i+1))=xa os x:=by rw[oJ hx,apH,wF]
   have q9:os.length<=i:=by rw[wF];have:=afO (l.take i);simp at this;omega
   rw[<-wF] at aG;have acK:=aG.e;have row:=Ih acK;obtain⟨A3,m,c3,rfl,eo,rM,qv,DY⟩:=row.Φ;unfold ϖ at qv;have hm:m<=1000:=by omega
   have HR:=ψ (ϐ hx (ϐ ae8 (ϐ eo DY)));have HW:=ψ acK;clear hb au st hx wF ae8 row eo DY q9 aG acK;go_wp2;go_loopw [5] (λk wr=>∃j:Nat,j<=m/\k=ξ κ j/\Hid (∀(q:Nat) (y:Int),q<j->os[q]?=φ y->y<x)/\∃nq,wr=wo.drewN nq) (λk _=>m - (ϗ k).toNat)
   case atStart=>exact⟨0,ϝ _,rfl,ψ λq y hq=>by omega,0,rfl⟩
   case round=>
    obtain⟨j,hj,rfl,bt,nq0,rfl⟩:=hrel;by_cases U2:j<m
    ·obtain⟨ad3,y,SF,air,aqS,hy,rfl,-,vd⟩:=HR.e.2.2.2 j U2
     subst air;have y0: wo.cell? (ad3.add j)=φ (ξ κ y):=by have:=vd 0 _ rfl;simpa using this
     have abT:(j:Int)<m:=by omega
     have pa:((j:Int)==m)=χ:=by simp;omega
     have HY:=ψ hy;clear vd hy;by_cases hyx:y<x
     ·go_wp2
      go_quiet (fail);go_wp2;go_roundw;case rel=>exact⟨j+1,by omega,by go_num,ψ λq z hq hz=>by
          rcases Agh.1 hq with h|rfl
          ·exact bt.e q z h hz
          ·rw[HY.e] at hz;cases hz;exact hyx,_,rfl⟩
      case measure=>simp[ϗ];omega
     ·by_cases acR:y=x
      ·subst acR
       have aw:(y !=y)=χ:=by simp
       go_wp2;go_quiet (fail);go_wp2;go_quiet (fail);go_wp2;go_roundw;case rel=>exact⟨i+1,by omega,by go_num,ψ (by
           rw[HR.e.2.1,VU bt.e (by have:=HR.e.2.2.1;omega) (λz hz=>by rw[HY.e] at hz;cases hz;omega),if_pos HY.e]
           exact HW.e),jq HB.e _⟩
       case measure=>simp[ϗ];omega
      ·have aw:(y !=x)=θ:=by simp[acR]
       go_wp2;go_quiet (fail);go_wp2;go_quiet (fail);go_wp2;generalize hV:Aim (Aim (Aim _ _) _) _=V;have F1:Hid (Γ w.heap.size w V):=ψ (by rw[<-hV];exact jq (jq (jq HB.e _) _) _)
       have V9:Hid (V.heap=wo.heap):=ψ (by rw[<-hV];rfl)
       have x0V: V.cell? (ad.add i)=φ (ξ κ x):=by rw[<-hV];exact x0
       clear hV x0 y0;have afr:w.heap.size<=V.heap.size:=F1.e.size;have HS:Hid (xa os x=os.take j++x::os.drop j):=ψ (by rw[VU bt.e (by have:=HR.e.2.2.1;omega) (λz hz=>by rw[HY.e] at hz;cases hz;omega),if_neg (by rw[HY.e];simp[acR])])
       have o8:j<=c3:=by omega
       have hcj:¬c3=j:=by omega
       rcases HW.e.2 with⟨h,_⟩ | ⟨g,cap,cur,e,jU,hk,h4,h5,h6,h7⟩
       ·cases h
       injection e with e1 e2 e3
       cases e1;subst e3;have HV:=ψ (afG (j:=j) (d:=m - j) HW.e V9.e (HR.e.2.2.1) HR.e.2.2.2 (by omega) (F1.e) (show w.heap.size<=g from jU))
       have aeG:w.heap.size<=g:=jU;clear jU hk h4 h5 h6 h7 e2;go_region_law (first
           | (refine ug rfl (.tmp 51) (.tmp 54) 33 rfl V.heap.size 3 i0 (ξ κ 0) 1 8 (U Tryz.underlying33) HI.e.1 HI.e.2.1 HI.e.2.2.1 HI.e.2.2.2 rfl (by decide) _ 1 _ rfl (HV.e.1 x) ⟨g,j,ν⟩ (m - j) (c3 - j) ((os.drop j).map (ξ κ)) rfl HV.e.2.1 (HV.e.2.2.1 x) HV.e.2.2.2.1 (by simp only[ϖ];omega) (by omega) (by simp) ?_
              intro v1 w1 cK dT;have gW:=ψ (HV.e.2.2.2.2 x cK dT);rcases cK.2 with⟨_,h0⟩ | ⟨g5,c5,aek,rfl,-⟩
              ·omega
              clear cK dT)
           | (refine ug rfl (.tmp 46) (.tmp 55) 33 rfl w.heap.size 3 i0 (ξ κ 0) 1 8 (U Tryz.underlying33) HI.e.1 HI.e.2.1 HI.e.2.2.1 HI.e.2.2.2 rfl (by decide) _ j _ rfl gW.e.1 ⟨g5,0,ν⟩ (1+(m - j)) c5 ([ξ κ x]++(os.drop j).map (ξ κ)) rfl (adn HV.e.2.1) (adk gW.e.2.2 HV.e.2.1) (ado HV.e.2.2.2.1) (by simp only[ϖ];omega) (by omega) gW.e.2.1.size ?_
              intro v2 w2 vX yP;have rf:=ψ (gW.e.2.1.grown yP gW.e.2.1.size (λk hk=>ei gW.e.1 k hk))
              have uC:=ψ vX;clear vX yP))
       all_goals
           go_wp2;go_roundw;case rel=>exact⟨i+1,by omega,by go_num,ψ (by
            rw[HR.e.2.1,HS.e];exact ads uC.e (by omega) HR.e.2.2.1),rf.e⟩
           case measure=>simp[ϗ];omega
    ·obtain rfl:j=m:=by omega
     have hjj:((j:Int)==j)=θ:=by simp
     have UI:¬ (j:Int)<j:=by omega
     go_wp2;go_quiet (fail);go_wp2;go_quiet (fail);go_wp2;generalize hV:Aim (Aim (Aim _ _) _) _=V;have F1:Hid (Γ w.heap.size w V):=ψ (by rw[<-hV];exact jq (jq (jq HB.e _) _) _)
     have V9:Hid (V.heap=wo.heap):=ψ (by rw[<-hV];rfl)
     have x0V: V.cell? (ad.add i)=φ (ξ κ x):=by rw[<-hV];exact x0
     clear hV x0;have afr:w.heap.size<=V.heap.size:=F1.e.size;have HS:Hid (xa os x=os.take j++x::os.drop j):=ψ (by
      have hl:=HR.e.2.2.1;have bj:os[j]?=ν:=Ah1 (by omega)
      rw[VU bt.e (by omega) (λz hz=>by rw[bj] at hz;cases hz),if_neg (by rw[bj];simp)])
     rcases HW.e.2 with⟨h,h'⟩ | ⟨g,cap,cur,e,jU,hk,h4,h5,h6,h7⟩
     ·injection h with e1 e2 e3
      subst e1 e2 e3;clear h';have wF:os=[]:=Ah5 HR.e.2.2.1;have wz:=ψ wF;clear wF;go_region_law (first
          | (refine ug rfl (.tmp 46) (.tmp 55) 33 rfl w.heap.size 3 i0 (ξ κ 0) 1 8 (U Tryz.underlying33) HI.e.1 HI.e.2.1 HI.e.2.2.1 HI.e.2.2.2 rfl (by decide) _ 0 [] rfl ⟨rfl,.inl ⟨rfl,rfl⟩⟩ ⟨V.heap.size,0,ν⟩ 1 1 [ξ κ x] rfl rfl (λq u hu=>by
              match q,hu with
              |0,hu=>simp at hu;subst hu;simp[go_sem,Addr.add]) (by simp[Value.oneCell']) (by simp only[ϖ];omega) (by omega) (by simp;omega) ?_
             intro v2 w2 vX yP;have uC:=ψ vX;have iD:=ψ yP;clear vX yP))
      all_goals
          go_wp2;go_roundw;case rel=>exact⟨i+1,by omega,by go_num,ψ (by
           rw[HR.e.2.1,HS.e,wz.e];exact uC.e),(show Γ w.heap.size w _ from(iY F1.e).alloc afr _).grown iD.e (by simp;omega) (λk hk=>by cases(show(ν:Option Nat)=φ k from hk))⟩
          case measure=>simp[ϗ];omega
     ·injection e with e1 e2 e3
      cases e1;subst e3;have aeG:w.heap.size<=g:=jU;clear hk h4 h6 h7 e2;have HV:=ψ (afG (j:=j) (d:=0) HW.e V9.e (HR.e.2.2.1) HR.e.2.2.2 rfl (F1.e) aeG);have Ni:os.drop j=[]:=List.drop_of_length_le (by have:=HR.e.2.2.1;omega)
      have HDR:=ψ Ni;by_cases hcj:c3=j
      ·subst hcj
       clear jU Ni h5;go_region_law (first
           | (refine ug rfl (.tmp 51) (.tmp 54) 33 rfl V.heap.size 3 i0 (ξ κ 0) 1 8 (U Tryz.underlying33) HI.e.1 HI.e.2.1 HI.e.2.2.1 HI.e.2.2.2 rfl (by decide) _ 1 _ rfl (HV.e.1 x) ⟨g,0,ν⟩ 0 0 ((os.drop c3).map (ξ κ)) rfl HV.e.2.1 (λq u hu=>by rw[HDR.e] at hu;simp at hu) HV.e.2.2.2.1 (by simp only[ϖ];omega) (by omega) (by simp) ?_
              intro v1 w1 cK dT;have gW:=ψ (HV.e.2.2.2.2 x cK dT);rcases cK.2 with⟨_,h0⟩ | ⟨g5,c5,aek,rfl,-⟩
              ·omega
              clear cK dT)
           | (refine ug rfl (.tmp 46) (.tmp 55) 33 rfl w.heap.size 3 i0 (ξ κ 0) 1 8 (U Tryz.underlying33) HI.e.1 HI.e.2.1 HI.e.2.2.1 HI.e.2.2.2 rfl (by decide) _ c3 _ rfl gW.e.1 ⟨g5,0,ν⟩ 1 c5 ([ξ κ x]++(os.drop c3).map (ξ κ)) rfl (adn HV.e.2.1) (adk gW.e.2.2 HV.e.2.1) (ado HV.e.2.2.2.1) (by simp only[ϖ];omega) (by omega) gW.e.2.1.size ?_
              intro v2 w2 vX yP;have rf:=ψ (gW.e.2.1.grown yP gW.e.2.1.size (λk hk=>ei gW.e.1 k hk))
              have uC:=ψ vX;clear vX yP))
       all_goals
           go_wp2;go_roundw;case rel=>exact⟨i+1,by omega,by go_num,ψ (by
            rw[HR.e.2.1,HS.e];exact ads (d:=0) uC.e rfl HR.e.2.2.1),rf.e⟩
           case measure=>simp[ϗ];omega
      ·have o8:j<=c3:=rM
       clear jU Ni h5;go_region_law (first
           | (refine ug rfl (.tmp 51) (.tmp 54) 33 rfl V.heap.size 3 i0 (ξ κ 0) 1 8 (U Tryz.underlying33) HI.e.1 HI.e.2.1 HI.e.2.2.1 HI.e.2.2.2 rfl (by decide) _ 1 _ rfl (HV.e.1 x) ⟨g,j,ν⟩ 0 (c3 - j) ((os.drop j).map (ξ κ)) rfl HV.e.2.1 (λq u hu=>by rw[HDR.e] at hu;simp at hu) HV.e.2.2.2.1 (by simp only[ϖ];omega) (by omega) (by simp) ?_
              intro v1 w1 cK dT;have gW:=ψ (HV.e.2.2.2.2 x cK dT);rcases cK.2 with⟨_,h0⟩ | ⟨g5,c5,aek,rfl,-⟩
              ·omega
              clear cK dT)
           | (refine ug rfl (.tmp 46) (.tmp 55) 33 rfl w.heap.size 3 i0 (ξ κ 0) 1 8 (U Tryz.underlying33) HI.e.1 HI.e.2.1 HI.e.2.2.1 HI.e.2.2.2 rfl (by decide) _ j _ rfl gW.e.1 ⟨g5,0,ν⟩ 1 c5 ([ξ κ x]++(os.drop j).map (ξ κ)) rfl (adn HV.e.2.1) (adk gW.e.2.2 HV.e.2.1) (ado HV.e.2.2.2.1) (by simp only[ϖ];omega) (by omega) gW.e.2.1.size ?_
              intro v2 w2 vX yP;have rf:=ψ (gW.e.2.1.grown yP gW.e.2.1.size (λk hk=>ei gW.e.1 k hk))
              have uC:=ψ vX;clear vX yP))
       all_goals
           go_wp2;go_roundw;case rel=>exact⟨i+1,by omega,by go_num,ψ (by
            rw[HR.e.2.1,HS.e];exact ads (d:=0) uC.e rfl HR.e.2.2.1),rf.e⟩
           case measure=>simp[ϗ];omega
  ·obtain rfl:i=n:=by omega
   go_wp2;go_ret;refine⟨_,rfl,?_,HB.e⟩
   have:=aG.e;rwa[Af8 (Agi HE.e)] at this
end Go.Tw
namespace Go.Tw
variable [Go.Tw.aR]
open Go Go.Proofs Go.RowKit
end Go.Tw
namespace Go.Tw
variable [Go.Tw.aR]
open Go Go.Proofs Go.RowKit
def sx(n:Nat)(L:an):List Int:=(Θ n).map L.at
def E0{n k:Nat}(L:an)(h:k<n):(sx n L)[k]?=φ (L.at k):=by
 unfold sx;rw[Ahs,Ai2 h];rfl
def Bp(n:Nat)(L:an):(sx n L).length=n:=by simp[sx]
def af5{L:an}{n:Nat}{ps:List Int}{lv pv:υ}{w:Ψ}{B:Nat}(hl:Row w B 1 cH lv (sx n L))(hp:Row w B 1 cH pv ps)(hk:∀k∈ps,0<=k/\k<n)(h3:ps.length<=1000)(hL:L.Ok):
 ύ prog 77 #[lv,pv] w λe w'=>e=Ω (ξ κ (sg L ps))/\w=w':=by
 obtain⟨A,m,c,rfl,e1,h1,eA,r1⟩:=hl.Φ;obtain⟨D,q,d,rfl,e2,h2,dW,r2⟩:=hp.Φ;rw[Bp] at e1;obtain rfl:=e1;unfold ϖ at eA dW;have hq:q<=1000:=by omega
 have R1:=ψ r1;have R2:=ψ r2;have E2:=ψ e2;have HK:=ψ hk;have HL:=ψ hL;clear hl hp e2 r1 r2 hk hL;go_enter func77,Tryz.ntmps77;go_wp2
 go_loop [5,6] (λs k=>∃i:Nat,i<=q/\k=ξ κ i/\s=ξ κ (sg L (ps.take i))) (λ_ k=>q - (ϗ k).toNat)
 case atStart=>exact⟨0,ϝ _,rfl,rfl⟩
 case round=>
  obtain⟨i,hi,rfl,rfl⟩:=hrel;have vA:=(P5 L HL.e (ps.take i)).1;have vz:sg L (ps.take i)<=1000000:=by
   have:=(P5 L HL.e (ps.take i)).2;have:(ps.take i).length<=i:=Af7 _ _;omega
  by_cases al:i<q
  ·obtain⟨ad,x,cs,rfl,aC,hx,rfl,-,au⟩:=R2.e i al
   have Vp:=HK.e x (ϡ hx);obtain⟨j,rfl⟩:=Int.eq_ofNat_of_zero_le Vp.1;have DE:j<n:=by omega
   have Us:(j:Int)<n:=by omega
   have h0:=cC au (Δ.refl (B:=B) w) aC rfl;rw[Agj] at h0;obtain⟨Cs,y,bh,rfl,adT,hy,rfl,-,Ak⟩:=R1.e j DE;have h0':=cC Ak (Δ.refl (B:=B) w) adT rfl;rw[Agj] at h0';rw[E0 L DE] at hy;cases hy;have HX:=ψ hx;have UI:=HL.e j;obtain⟨UI,aot⟩:=UI;clear hx au Ak Vp;go_wp2
   go_round
   case rel=>exact⟨i+1,by omega,by go_num,by rw[oJ HX.e,al1];rfl⟩
   case measure=>simp[ϗ];omega
  ·obtain rfl:i=q:=by omega
   go_wp2;go_ret;exact⟨aX (by rw[Af8 (Agi E2.e)]),rfl⟩
def wU(n:Nat):List Int:=(Θ n).map λ(k:Nat)=>(k:Int)
def aiw{n:Nat}(hn:n<=1000)(w:Ψ):
 ύ prog 78 #[ξ κ n] w λe w'=>∃u,e=Ω u/\w'.ownsRow w.heap.size 3 1 u n ((wU n).map (ξ κ))/\Γ w.heap.size w w':=by
 obtain⟨i0,cR,cT,aN,ba⟩:=Agv Oo;have HI:=ψ (ϐ cR (ϐ cT (ϐ aN ba)));clear cR cT aN ba;go_enter func78,Tryz.ntmps78;go_wp2;go_loopw [3,4] (λo k wr=>∃i:Nat,i<=n/\k=ξ κ i/\wr.ownsRow w.heap.size 3 1 o i ((wU i).map (ξ κ))/\Γ w.heap.size w wr) (λ_ k _=>n - (ϗ k).toNat)
 case atStart=>exact⟨0,ϝ _,rfl,⟨by simp[wU],.inl ⟨rfl,rfl⟩⟩,ώ _ _⟩
 case round=>
  obtain⟨i,hi,rfl,aG,hb⟩:=hrel;have HO:=ψ aG;have HB:=ψ hb;have aI:=hb.size;by_cases al:i<n
  ·have NA:(i:Int)<n:=by omega
   clear hb aG;go_wp2_with (first
    | (at_builtin
       refine Agz _ rfl (.tmp 10) (.tmp 12) 33 rfl w.heap.size 3 i0 (ξ κ 0) 1 8 (U Tryz.underlying33) HI.e.1 HI.e.2.1 HI.e.2.2.1 HI.e.2.2.2 rfl (by decide) _ i _ rfl (HO.e.alloc _) ⟨wr.heap.size,0,ν⟩ 1 1 [ξ κ i] rfl rfl ?c1 ?c2 ?c3 ?c4 ?c5 ?_
       case c1=>(intro j u hu;match j,hu with|0,hu=>(simp at hu;subst hu;simp[go_sem,Addr.add]))
       case c2=>simp[Value.oneCell']
       case c3=>(simp only[ϖ];omega)
       case c4=>omega
       case c5=>(simp;omega)
       intro v' w1 cK dT _;have gW:=ψ cK;have gV:=ψ dT;clear cK dT))
   go_roundw;case rel=>exact⟨i+1,by omega,by go_num,by
    rw[show wU (i+1)=wU i++ [(i:Int)] by simp[wU,Ah0],Ahy];exact gW.e,
    (HB.e.trans ((ώ _ _).alloc aI _)).grown gV.e (by simp;omega) (λk hk=>ei HO.e k hk)⟩
   case measure=>simp[ϗ];omega
  ·obtain rfl:i=n:=by omega
   clear hb aG;go_wp2;go_ret;exact⟨_,rfl,HO.e,HB.e⟩
def EL(b:ao)(L:an)(i:Nat):Bool:=match b.pieces[i]? with
 |some p=>bX (L.at i) p.len.lo p.len.hi
 |none=>θ
def yW(b:ao)(n:Nat)(L:an):Bool:=(Θ n).all (EL b L) && Pw L b.aJ
def ahU{b:ao}{L:an}{pv bv tv lv:υ}{w:Ψ}{B:Nat}(hb:bg w B b pv bv tv)(hB:B<=w.heap.size)(hl:Row w B 1 cH lv (sx b.pieces.length L))(hv:Valid b)(hL:L.Ok):
 ύ prog 152 #[η #[ξ κ b.ag,pv,bv,tv],lv] w λe w'=>e=Ω (.bool (yW b b.pieces.length L))/\Γ w.heap.size w w':=by
 obtain⟨A1,n1,c1,rfl,e1,h1,eA,r1⟩:=hb.pieces.Φ;obtain⟨A2,n2,c2,rfl,-⟩:=hb.aF.Φ;obtain⟨A3,n3,c3,rfl,e3,h3,rD,r3⟩:=hb.aJ.Φ;have Uz:=hl;obtain⟨A,m,c,rfl,e2,h2,dW,r2⟩:=hl.Φ;rw[Bp,e1] at e2;obtain rfl:=e2;unfold ϖ at eA dW rD;have lQ:n1<=3:=by have:=hv.np;omega
 have htp:Hid (∀t∈b.aJ,(∀k∈t.pieces,0<=k/\k<n1)/\t.pieces.length<=3):=ψ λt ht=>⟨λk hk=>by have:=(hv.tape t ht).1 k hk;omega,by have:=(hv.tape t ht).2;omega⟩
 have E1:=ψ e1;have E3:=ψ e3;have R1:=ψ r1;have R2:=ψ r2;have R3:=ψ r3;have HL:=ψ hL;have HR:=ψ Uz;clear hb hl Uz e1 e3 r1 r2 r3 hL hv;go_enter func152,Tryz.ntmps152;go_wp2;have KB:Hid (Bk (w.alloc (Ξ #[ξ κ b.ag,ζ A1 n1 c1,ζ A2 n2 c2,ζ A3 n3 c3] 26)) w.heap.size 26 #[ξ κ b.ag,ζ A1 n1 c1,ζ A2 n2 c2,ζ A3 n3 c3]):=ψ (Bk.new _ _ _);go_loopw [5] (λk wr=>∃i:Nat,i<=n1/\k=ξ κ i/\(∀j,j<i->EL b L j=θ)/\Γ (w.heap.size+1) (w.alloc (Ξ #[ξ κ b.ag,ζ A1 n1 c1,ζ A2 n2 c2,ζ A3 n3 c3] 26)) wr) (λk _=>n1 - (ϗ k).toNat)
 case atStart=>exact⟨0,ϝ _,rfl,λj hj=>by omega,by have:=ώ (w.heap.size+1) (w.alloc (Ξ #[ξ κ b.ag,ζ A1 n1 c1,ζ A2 n2 c2,ζ A3 n3 c3] 26));exact this⟩
 case round=>
  obtain⟨i,hi,rfl,bt,cF⟩:=hrel;have HA:=ψ bt;have HB:=ψ cF;have kb:=KB.e.below cF (by simp)
  have f1: wr.cell? ⟨w.heap.size,1,ν⟩=φ (ζ A1 n1 c1):=kb.cell 1;have f3: wr.cell? ⟨w.heap.size,3,ν⟩=φ (ζ A3 n3 c3):=kb.cell 3;have aI:w.heap.size+1<=wr.heap.size:=by have:=cF.size;simpa using this
  have st:Δ B w wr:=((Δ.refl w).alloc hB _).trans (Δ.aK cF (by omega))
  by_cases al:i<n1
  ·obtain⟨ad,p,cs,rfl,aC,hp,⟨rfl,-⟩,-,au⟩:=R1.e i al
   obtain⟨Cs,x,bh,rfl,adT,hx,rfl,-,Ak⟩:=R2.e i al;rw[E0 L (by rw[E1.e];exact al)] at hx
   cases hx;have g1:=bK au st aC 0 rfl;have g2:=bK au st aC 1 rfl;have g0:=cC Ak st adT rfl;rw[Agj] at g0;have NA:(i:Int)<n1:=by omega
   have rR:EL b L i=bX (L.at i) p.len.lo p.len.hi:=by unfold EL;rw[hp]
   have Re:=ψ rR;have ST:=ψ st;clear au Ak hp bt cF kb rR st;cases dL:bX (L.at i) p.len.lo p.len.hi with
   |false=>
    have HF:Hid (yW b b.pieces.length L=χ):=ψ (by
     unfold yW;rw[Aie];refine Or.inl (List.all_eq_false.2 ⟨i,by rw[E1.e];exact Ahx.2 al,by rw[Re.e,dL];simp⟩))
    go_wp2;go_quiet (first| (go_at_call 62;exact Aig ((lg _ _ _ _).mono λe w' h=>⟨h.1,h.2.symm⟩)))
    go_wp2;go_ret;exact⟨b9 HF.e.symm,jq (iH HB.e) _⟩
   |true=>
    go_wp2;go_quiet (first| (go_at_call 62;exact Aig ((lg _ _ _ _).mono λe w' h=>⟨h.1,h.2.symm⟩)))
    go_wp2;go_roundw;case rel=>exact⟨i+1,by omega,by go_num,λj hj=>by
     rcases Agh.1 hj with h|rfl
     ·exact HA.e j h
     ·rw[Re.e,dL],jq HB.e _⟩
    case measure=>simp[ϗ];omega
  ·obtain rfl:i=n1:=by omega
   rename Ψ=>w1
   have HS:Hid ((Θ b.pieces.length).all (EL b L)=θ):=ψ (List.all_eq_true.2 λj hj=>HA.e j (by rw[E1.e] at hj;exact Ahx.1 hj))
   clear bt cF kb st;go_wp2;go_loopw [6] (λk wr=>∃i:Nat,i<=n3/\k=ξ κ i/\(∀(j:Nat) (t:Tape),j<i->b.aJ[j]?=φ t->FO L t=χ)/\Γ (w.heap.size+1) w1 wr) (λk _=>n3 - (ϗ k).toNat)
   case atStart=>exact⟨0,ϝ _,rfl,λj t hj=>by omega,ώ _ _⟩
   case round=>
    obtain⟨k,hk,rfl,bt,Hc⟩:=hrel;have L2:=ψ bt;have F4:=ψ (HB.e.trans Hc);have HQ:=ψ Hc;have kb:=KB.e.below F4.e (by simp)
    have f3: wr.cell? ⟨w.heap.size,3,ν⟩=φ (ζ A3 n3 c3):=kb.cell 3;have D2:w.heap.size+1<=wr.heap.size:=by have:=Hc.size;omega
    have BC:Δ B w wr:=((Δ.refl w).alloc hB _).trans (Δ.aK F4.e (by omega))
    by_cases al:k<n3
    ·obtain⟨ad,t,cs,rfl,aC,ht,⟨pv,rfl,pd⟩,-,au⟩:=R3.e k al
     have htk:=htp.e t (ϡ ht);have U6:=pd.still BC (R':=cH) λ_ _ h=>h
     obtain⟨A5,n5,c5,rfl,e5,-⟩:=pd.Φ;have g0:=cC au BC aC rfl;have g1:=bK au BC aC 0 rfl;have g2:=bK au BC aC 1 rfl;have NA:(k:Int)<n3:=by omega
     have HT:=ψ ht;have HTK:=ψ htk;have HPR:=ψ U6;have Ze:=ψ BC;have CS:Hid (∀n:Nat,ύ prog 77 #[ζ A i c,ζ A5 n5 c5] ((wr.alloc (Ξ #[ζ A5 n5 c5,ξ κ t.sum.lo,ξ κ t.sum.hi] 95)).drewN n) λe w'=>e=Ω (ξ κ (sg L t.pieces))/\w'=(wr.alloc (Ξ #[ζ A5 n5 c5,ξ κ t.sum.lo,ξ κ t.sum.hi] 95)).drewN n):=ψ λn=>by
      have q:Δ B w ((wr.alloc (Ξ #[ζ A5 n5 c5,ξ κ t.sum.lo,ξ κ t.sum.hi] 95)).drewN n):=(Ze.e.alloc (by omega) _).trans (Δ.aK (jq (ώ B _) n) (ϊ _))
      exact(af5 (n:=b.pieces.length) (HR.e.still q λ_ _ h=>h) ((HPR.e.still (Δ.refl _) λ_ _ h=>h).still (((Δ.refl wr).alloc (by omega) _).trans (Δ.aK (jq (ώ B _) n) (ϊ _))) λ_ _ h=>h) (by rw[E1.e];exact HTK.e.1) (by have:=HTK.e.2;omega) HL.e).mono λe w' h=>⟨h.1,h.2.symm⟩
     clear au ht htk pd U6 BC bt Hc kb e5;cases hw:bX (sg L t.pieces) t.sum.lo t.sum.hi with
     |false=>
      have HF:Hid (yW b b.pieces.length L=χ):=ψ (by
       unfold yW Pw;rw[Lp HT.e (show FO L t=θ by unfold FO;rw[hw];rfl)];simp)
      go_wp2;go_quiet (first| (go_at_call 62;exact Aig ((lg _ _ _ _).mono λe w' h=>⟨h.1,h.2.symm⟩)) | (go_at_call 77;exact Aig (CS.e _)))
      go_wp2;go_ret;exact⟨b9 HF.e.symm,jq ((iH F4.e).alloc (by omega) _) _⟩
     |true=>
      go_wp2;go_quiet (first| (go_at_call 62;exact Aig ((lg _ _ _ _).mono λe w' h=>⟨h.1,h.2.symm⟩)) | (go_at_call 77;exact Aig (CS.e _)))
      go_wp2;go_roundw;case rel=>exact⟨k+1,by omega,by go_num,λj u hj hu=>by
       rcases Agh.1 hj with h|rfl
       ·exact L2.e j u h hu
       ·rw[HT.e] at hu;cases hu;unfold FO;rw[hw];rfl,jq (HQ.e.alloc (by omega) _) _⟩
      case measure=>simp[ϗ];omega
    ·obtain rfl:k=n3:=by omega
     have HW:Hid (yW b b.pieces.length L=θ):=ψ (by
      unfold yW Pw;rw[HS.e,Lo E3.e (λj t hj ht=>L2.e j t hj ht)];rfl)
     clear bt Hc kb BC;go_wp2;go_ret;exact⟨b9 HW.e.symm,iH F4.e⟩
def EP(b:ao)(i:Nat)(ls:List an):List an:=match b.pieces[i]? with
 |some p=>ls.flatMap λL=>(mR p.len).map λk=>L.set i k
 |none=> []
def sd(b:ao):Nat->List an
 |0=> [⟨0,0,0⟩]
 |i+1=>EP b i (sd b i)
def aiy{α β γ:Type}(l:List α)(f:α->List β)(g:β->List γ):(l.flatMap f).flatMap g=l.flatMap λx=>(f x).flatMap g:=by
 induction l with
 |nil=>rfl
 |cons a l ih=>simp[Ahp,ih]
def ait{α:Type}(p:α->Bool)(l:List α):l.filter p=l.flatMap λx=>if p x then [x] else []:=by
 induction l with
 |nil=>rfl
 |cons a l ih=>by_cases h:p a<;>simp[List.filter_cons,h,ih]
def adO{b:ao}:∀(f i:Nat),i+f=b.pieces.length->(sd b (i+f)).filter (λL=>Pw L b.aJ)=(sd b i).flatMap (eu b f i)
 |0,i,_=>by rw[ait];rfl
 |f+1,i,h=>by
  have e:i+(f+1)=(i+1)+f:=by omega
  have hi:i<b.pieces.length:=by omega
  obtain⟨p,hp⟩:∃p,b.pieces[i]?=φ p:=⟨_,Af2 hi⟩
  rw[e,adO f (i+1) (by omega)]
  show(EP b i (sd b i)).flatMap _=_;unfold EP;rw[hp];simp only;rw[aiy];congr 1;funext L;rw[R7 hp,List.flatMap_map]
def adN(b:ao):(sd b b.pieces.length).filter (λL=>Pw L b.aJ)=aD b:=by
 have:=adO (b:=b) b.pieces.length 0 (by omega)
 rw[Ai5] at this;rw[this];simp[sd,aD]
def Lw{L:an}{i j:Nat}{k:Int}(hi:i<3):(L.set i k).at j=if j=i\/(i=2/\2<=j) then k else L.at j:=by
 unfold an.set an.at;rcases(by omega:i=0\/i=1\/i=2) with rfl|rfl|rfl
 ·rcases(by omega:j=0\/j=1\/2<=j) with rfl|rfl|h
  ·simp
  ·simp
  ·simp[show j≠0 by omega,show j≠1 by omega]
 ·rcases(by omega:j=0\/j=1\/2<=j) with rfl|rfl|h
  ·simp
  ·simp
  ·simp[show j≠0 by omega,show j≠1 by omega]
 ·rcases(by omega:j=0\/j=1\/2<=j) with rfl|rfl|h
  ·simp
  ·simp
  ·simp[show j≠0 by omega,show j≠1 by omega,h]
def aog{L:an}{i:Nat}(k:Int)(hi:i<3):sx i L++ [k]=sx (i+1) (L.set i k):=by
 unfold sx;rw[Ah0,Ahy];congr 1
 ·refine Ai3 λj hj=>?_
  have:=Ahx.1 hj;rw[Lw hi,if_neg (by omega)]
 ·simp[Lw hi]
def ap1{s:Span}{k:Int}(h:k∈mR s):s.lo<=k/\k<=s.hi:=by
 unfold mR at h;obtain⟨j,hj,rfl⟩:=Ahw.1 h;have:=Ahx.1 hj;omega
def Yo{b:ao}(hv:Valid b):∀i,i<=b.pieces.length->∀L∈sd b i,L.Ok/\∀j,j<i->EL b L j=θ
 |0,_,L,hL=>by
  simp[sd] at hL;subst hL;exact⟨λq=>by unfold an.at;simp,λj hj=>by omega⟩
 |i+1,hi,L,hL=>by
  obtain⟨p,hp⟩:∃p,b.pieces[i]?=φ p:=⟨_,Af2 (by omega)⟩
  have fZ:i<3:=by have:=hv.np;omega
  simp only[sd,EP,hp] at hL;obtain⟨M,hM,hL⟩:=List.mem_flatMap.1 hL;obtain⟨k,hk,rfl⟩:=Ahw.1 hL;obtain⟨h1,h2⟩:=Yo hv i (by omega) M hM
  have rH:=ap1 hk;have AD:=hv.piece p (ϡ hp);have l0:=AD.lo;have l1:=AD.hi;refine⟨λq=>?_,λj hj=>?_⟩
  ·rw[Lw fZ]
   split
   ·omega
   ·exact h1 q
  ·rcases Agh.1 hj with h|rfl
   ·have:=h2 j h
    unfold EL at this |-
    rw[Lw fZ,if_neg (by omega)]
    exact this
   ·unfold EL
    rw[hp,Lw fZ,if_pos (Or.inl rfl)];simp[bX,rH.1,rH.2]
def ahR{b:ao}(hv:Valid b):(sd b b.pieces.length).filter (yW b b.pieces.length)=aD b:=by
 rw[<-adN];refine List.filter_congr λL hL=>?_
 unfold yW;rw[List.all_eq_true.2 λj hj=>(Yo hv _ (ϊ _) L hL).2 j (Ahx.1 hj)]
 simp
def adP{b:ao}(hv:Valid b):∀i,(sd b i).length<=3 ^ i
 |0=>by simp[sd]
 |i+1=>by
  simp only[sd,EP];cases hp:b.pieces[i]? with
  |none=>simp
  |some p=>
   have hw:=(hv.piece p (ϡ hp)).wide;have h2:(mR p.len).length<=3:=by rw[PZ];omega
   have key:∀l:List an,(l.flatMap λL=>(mR p.len).map λk=>L.set i k).length<=l.length * 3:=by
    intro l;induction l with
    |nil=>simp
    |cons a l ih=>
     rw[Ahq,Ahr,Ahi,Ah6];omega
   have h3:=adP hv i;have h4:=key (sd b i);rw[Nat.pow_succ];exact ϧ h4 (Nat.mul_le_mul_right _ h3)
def tZ(w:Ψ)(base:Nat)(v:υ)(ts:List (List Int×υ)):Prop:=
 w.ownsRow base 33 1 v ts.length (ts.map Prod.snd)/\∀p∈ts,w.ownsRow 0 3 1 p.2 p.1.length (p.1.map (ξ κ))
def afY{w:Ψ}{b1 b2 n1 n2 s1 s2:Nat}{e1 e2:ϋ}{v u:υ}{xs ys:List υ}(h:w.ownsRow b1 e1 s1 v n1 xs)(k:w.ownsRow b2 e2 s2 u n2 ys)(he:e1≠e2)(q:Nat)(hq:u.ownBlock=φ q):v.ownBlock≠φ q:=by
 rcases h.2 with⟨rfl,_⟩ | ⟨g,cap,cur,rfl,_,h3,_⟩
 ·simp[Value.ownBlock]
 ·rcases k.2 with⟨rfl,_⟩ | ⟨g',zd,anN,rfl,_,k3,_⟩
  ·simp[Value.ownBlock] at hq
  ·intro e
   have e1:g'=g:=Option.some.inj (hq.trans e.symm);subst e1;rw[h3] at k3;injection k3 with k3
   injection k3 with _ k4
   exact he k4
def tZ.below{w w':Ψ}{base B:Nat}{v:υ}{ts:List (List Int×υ)}(h:tZ w base v ts)(hb:Γ B w w')(hB:w.heap.size<=B):tZ w' base v ts:=
 ⟨qO h.1 hb hB,λp hp=>qO (h.2 p hp) hb hB⟩
def tZ.base{w:Ψ}{base sV:Nat}{v:υ}{ts:List (List Int×υ)}(h:tZ w base v ts)(hb:sV<=base):tZ w sV v ts:=⟨World.ownsRow.base h.1 hb,h.2⟩
def tZ.nil{w:Ψ}{base:Nat}:tZ w base (ζ ν 0 0) []:=⟨⟨by simp,.inl ⟨rfl,rfl⟩⟩,λp hp=>by cases hp⟩
def tZ.snoc{w w':Ψ}{base:Nat}{v v' u:υ}{l:List Int}{ts:List (List Int×υ)}(h:tZ w base v ts)(hg:w.grownBy w' v.ownBlock)(hu:w.ownsRow 0 3 1 u l.length (l.map (ξ κ)))
 (ho:w'.ownsRow base 33 1 v' (ts.length+1) (ts.map Prod.snd++ [u])):tZ w' base v' (ts++ [(l,u)]):=by
 refine⟨by rw[Ahr,Ahy];exact ho,λp hp=>?_⟩
 rcases Af1.1 hp with hp|hp
 ·exact EJ (h.2 p hp) hg λk hk=>afY h.1 (h.2 p hp) (by decide) k hk
 ·rw[Afx.1 hp]
  exact EJ hu hg λk hk=>afY h.1 hu (by decide) k hk
def anF:(prog.info? 33).map (λi=>(i.zero,i.size,i.bytes))=φ (φ (ζ ν 0 0),1,24):=by
 rw[pB];kernel_rfl
def Fh(w:Ψ){base:Nat}{e:ϋ}(n:Nat)(cur:List υ)(hc:cur.length=n)(hn:n<=1000)(hb:base<=w.heap.size):(w.alloc (.cells cur.toArray e)).ownsRow base e 1 (ζ (φ ⟨w.heap.size,0,ν⟩) n n) n cur:=
 ⟨by omega,.inr ⟨w.heap.size,n,_,rfl,hb,Aif _ _,ϊ _,by unfold ϖ;omega,by simp[hc],by simp[<-hc]⟩⟩
def F2{P:Program}{w:Ψ}{ops:Array Oper}{rest:List Oper}{o:Oper}{a:Act}{Q:Exit->Act->Ψ->Prop}(gx:o.guard=ν)(s x:Operand)(t:ϋ)
 (ho:o.op=.call {callee:=.builtin .append,args:=#[s,x],argTypes:=#[t,t]})
 (base:Nat)(e:ϋ)(i:TypeInfo)(z:υ)(size bytes:Nat)(ht:P.underlying t=φ (.slice e))(hi: P.info? e=φ i)(hz:i.zero=φ z)
 (yk:i.size=size)(ES:i.bytes=bytes)(hzs:z.cells.size=size)(aI:0<size)
 (v:υ)(n:Nat)(xs:List υ)(hs:a.eval s=v)(aG:w.ownsRow base e size v n xs)
 (u:υ)(m b2:Nat)(ys:List υ)(hx:a.eval x=u)(hu:w.ownsRow b2 e size u m ys)(h1:∀u∈ys,u.oneCell'=θ)
 (TI:n+m<=ϖ)(abl:(n+m) * bytes<=140737488355328)(MO:base<=w.heap.size)
 (h:∀v' w',w'.ownsRow base e size v' (n+m) (xs++ys)->w.grownBy w' v.ownBlock->wpList P ops Q rest (a.put o.dst v') w'):wpList P ops Q (o::rest) a w:=by
 rcases hu.2 with⟨rfl,rfl⟩ | ⟨g,cap,cur,rfl,hr⟩
 ·have hy:ys=[]:=List.length_eq_zero_iff.1 (by rw[hu.1,Nat.zero_mul])
  subst hy;refine wpList_append_own_none gx s x t ho base e i size ht hi v n xs hs aG hx (h v w ?_ ⟨rfl,rfl,rfl,ϊ _,λ_ _ _=>rfl⟩)
  rw[List.append_nil];exact aG
 ·exact Agz w gx s x t ho base e i z size bytes ht hi hz yk ES hzs aI v n xs hs aG _ m cap ys hx hu.1 (vT hu) h1 TI abl MO λv' w' h2 h3 _=>h v' w' h2 h3
def tZ.akm{w:Ψ}{base:Nat}{v:υ}{ts:List (List Int×υ)}(h:tZ w base v ts):Row w w.heap.size 1 (λp cs=>cs=[p.2]) v ts:=by
 have h1:w.ownsRow base 33 1 v ts.length (ts.flatMap λp=> [p.2]):=by
  rw[show(ts.flatMap λp=> [p.2])=ts.map Prod.snd by
   have h2:=h.1;clear h2 h;induction ts with
   |nil=>rfl
   |cons a l ih=>rw[Ahq,ih];rfl]
  exact h.1
 exact lu (R:=λp cs=>cs=[p.2]) h1 (λ_=>rfl) λ_ _=>rfl
def aiz{α β:Type}{f:α->List β}{k:Nat}(hf:∀x,(f x).length<=k)(l:List α):(l.flatMap f).length<=l.length * k:=by
 induction l with
 |nil=>simp
 |cons a l ih=>
  have:=hf a;rw[Ahq,Ahr,Ahi,Nat.add_mul];omega
def Lv(i:Nat)(p:Piece)(L:an):List (List Int):=(mR p.len).map λk=>sx (i+1) (L.set i k)
def anG{b:ao}{i:Nat}{p:Piece}(hp:b.pieces[i]?=φ p):(sd b (i+1)).map (sx (i+1))=(sd b i).flatMap (Lv i p):=by
 show(EP b i (sd b i)).map _=_;unfold EP Lv;rw[hp];simp only[List.map_flatMap,Ait];rfl
def anJ(i:Nat){p:Piece}(hw:p.len.hi - p.len.lo<3)(L:an):(Lv i p L).length<=3:=by
 unfold Lv;rw[Ah6,PZ];omega
def adz{ts:List (List Int×υ)}{ls:List (List Int)}(h:ts.map Ai7=ls){j:Nat}{p:List Int×υ}(hp:ts[j]?=φ p):ls[j]?=φ p.1:=by
 rw[<-h,Ahs,hp];rfl
def V2(l:List Int):∀u∈l.map (ξ κ),u.oneCell'=θ:=by
 intro u hu;obtain⟨y,_,rfl⟩:=Ahw.1 hu;rfl
def T5{b:ao}{pv bv tv:υ}{w:Ψ}{B:Nat}(hb:bg w B b pv bv tv)(hB:B<=w.heap.size)(hv:Valid b):
 ύ prog 97 #[η #[ξ κ b.ag,pv,bv,tv]] w λe w'=>∃v ts,e=Ω v/\tZ w' w.heap.size v ts/\ts.map Ai7=(aD b).map (sx b.pieces.length)/\Γ w.heap.size w w':=by
 have bT:=ψ hb;obtain⟨A1,n1,c1,rfl,e1,h1,eA,r1⟩:=hb.pieces.Φ;obtain⟨A2,n2,c2,rfl,-⟩:=hb.aF.Φ;obtain⟨A3,n3,c3,rfl,-⟩:=hb.aJ.Φ;unfold ϖ at eA;have lQ:n1<=3:=by have:=hv.np;omega
 have E1:=ψ e1;have R1:=ψ r1;have HV:=ψ hv;obtain⟨i0,cR,cT,aN,ba⟩:=Agv Oo;have HI:=ψ (ϐ cR (ϐ cT (ϐ aN ba)));obtain⟨j0,hj0,Vo,jA,qH⟩:=Agv anF;have HJ:=ψ (ϐ hj0 (ϐ Vo (ϐ jA qH)));clear hb e1 r1 hv cR cT aN ba hj0 Vo jA qH;go_enter func97,Tryz.ntmps97;go_wp2;obtain⟨W0,z8⟩:∃W0,W0=w.alloc (Ξ #[ξ κ b.ag,ζ A1 n1 c1,ζ A2 n2 c2,ζ A3 n3 c3] 26):=⟨_,rfl⟩
 have KB:Hid (Bk W0 w.heap.size 26 #[ξ κ b.ag,ζ A1 n1 c1,ζ A2 n2 c2,ζ A3 n3 c3]):=ψ (by rw[z8];exact Bk.new _ _ _)
 have S0:Hid (Δ B w W0):=ψ (by rw[z8];exact(Δ.refl w).alloc hB _)
 have Z0:W0.heap.size=w.heap.size+1:=by rw[z8];simp
 have B0:Hid (Γ w.heap.size w W0):=ψ (by rw[z8];exact(ώ _ _).alloc (ϊ _) _)
 rw[<-z8];clear z8;have N0:=ψ (Fh W0 (base:=w.heap.size+1) (e:=33) 1 [ζ ν 0 0] rfl (by omega) (by omega))
 go_loopw [3,4] (λo k wr=>∃(i:Nat) (ts:List (List Int×υ)),i<=n1/\k=ξ κ i/\tZ wr (w.heap.size+1) o ts/\Hid (ts.map Ai7=(sd b i).map (sx i))/\Γ (w.heap.size+1) W0 wr) (λ_ k _=>n1 - (ϗ k).toNat)
 case atStart=>exact⟨0,[([],ζ ν 0 0)],ϝ _,rfl,⟨by have h:=N0.e;rw[Z0] at h;exact h,λp hp=>by rw[Afx.1 hp];exact⟨rfl,.inl ⟨rfl,rfl⟩⟩⟩,ψ rfl,(ώ _ _).alloc (by omega) _⟩
 case round=>
  rename Ψ=>W1
  obtain⟨i,ts,hi,rfl,aG,il,hb⟩:=hrel;obtain⟨T,m,c,rfl,em,rM,qv,DY⟩:=aG.akm.Φ;have HB:=ψ hb;have HO:=ψ aG;have Z1:w.heap.size+1<=W1.heap.size:=by have:=hb.size;omega
  have kb:=ψ (KB.e.below hb (by omega))
  have s1:Hid (Δ B w W1):=ψ (S0.e.trans (Δ.aK hb (by omega)))
  have EM:=ψ em;have RO:=ψ DY;have hm9:m<=27:=by
   have e:ts.length=(sd b i).length:=by have:=congrArg Ai4 il.e;simpa using this
   have:=adP HV.e i;have:3 ^ i<=3 ^ 3:=Aib (by omega) (by omega)
   omega
  clear hb aG DY em;have f1: W1.cell? ⟨w.heap.size,1,ν⟩=φ (ζ A1 n1 c1):=kb.e.cell 1;by_cases al:i<n1
  ·obtain⟨ad,p,cs,rfl,aC,hp,⟨rfl,-⟩,-,au⟩:=R1.e i al
   have Sn:=HV.e.piece p (ϡ hp);have pb:=Sn.lo;have Un:=Sn.hi;have hwd:=Sn.wide;have NA:(i:Int)<n1:=by omega
   have HP:=ψ hp;have HC:=ψ au;clear hp au Sn;go_wp2;go_loopw [5,6] (λo k wr=>∃(j:Nat) (ns:List (List Int×υ)),j<=m/\k=ξ κ j/\tZ wr W1.heap.size o ns/\Hid (ns.map Ai7=((sd b i).take j).flatMap (Lv i p))/\Γ W1.heap.size W1 wr) (λ_ k _=>m - (ϗ k).toNat)
   case atStart=>exact⟨0,[],ϝ _,rfl,tZ.nil,ψ rfl,ώ _ _⟩
   case round=>
    rename Ψ=>W2
    obtain⟨j,ns,hj,rfl,aG,Ke,hb⟩:=hrel;have dV:=ψ hb;have rf:=ψ aG;have Z2:=hb.size;have s2:Hid (Δ B w W2):=ψ (s1.e.trans (Δ.aK hb (by omega)))
    have mH:=ψ (kb.e.below hb (by omega))
    have f1: W2.cell? ⟨w.heap.size,1,ν⟩=φ (ζ (φ ad) n1 c1):=mH.e.cell 1;have g1:=bK HC.e s2.e aC 0 rfl;have g2:=bK HC.e s2.e aC 1 rfl;clear hb aG;by_cases U2:j<m
    ·have abT:(j:Int)<m:=by omega
     obtain⟨cI,t,jQ,rfl,fV,ht,rfl,-,ie⟩:=RO.e j U2;have HT:=ψ ht;have wP:=ψ ie;obtain⟨L,hL⟩:∃L,(sd b i)[j]?=φ L/\t.1=sx i L:=by
      have:=adz il.e ht;rw[Ahs] at this
      cases e:(sd b i)[j]? with
      |none=>rw[e] at this;cases this
      |some L=>rw[e] at this;injection this with this;exact⟨L,rfl,this.symm⟩
     have HL:=ψ hL;clear ht ie hL;go_wp2;go_loopw [5,7] (λo k wr=>∃(q:Nat) (ms:List (List Int×υ)),q<=(mR p.len).length/\k=ξ κ (p.len.lo+q)/\tZ wr W1.heap.size o ms/\Hid (ms.map Ai7=((sd b i).take j).flatMap (Lv i p)++((mR p.len).take q).map λk=>sx (i+1) (L.set i k))/\Γ W1.heap.size W1 wr) (λ_ k _=>(p.len.hi+1 - ϗ k).toNat)
     case atStart=>exact⟨0,ns,ϝ _,by go_num,rf.e,ψ (by rw[Ke.e];simp),dV.e⟩
     case round=>
      rename Ψ=>W3
      obtain⟨q,ms,hq,rfl,aG,RM,hb⟩:=hrel;have fw:=ψ hb;have uC:=ψ aG;have Z3:=hb.size;have s3:Hid (Δ B w W3):=ψ (s1.e.trans (Δ.aK hb (by omega)))
      have kb3:=ψ (kb.e.below hb (by omega))
      have f1: W3.cell? ⟨w.heap.size,1,ν⟩=φ (ζ (φ ad) n1 c1):=kb3.e.cell 1;have g1:=bK HC.e s3.e aC 0 rfl;have g2:=bK HC.e s3.e aC 1 rfl;rw[PZ] at hq;clear hb aG;by_cases mD:p.len.lo+q<=p.len.hi
      ·obtain⟨l,u⟩:=t
       obtain⟨Dc,rfl⟩:(sd b i)[j]?=φ L/\l=sx i L:=HL.e;have hu:=HO.e.2 _ (ϡ HT.e);rw[Bp] at hu;simp only at hu;obtain⟨A5,m5,c5,rfl⟩:=j8 hu;have e5:i=m5:=(Be hu).symm;subst e5;have y0: W3.cell? (cI.add j)=φ (ζ A5 i c5):=by have:=cC wP.e (Δ.aK fw.e (ϊ _)) fV rfl;rwa[Agj] at this
       have y1:(cI.add j).block<W3.heap.size:=by rw[cq];omega
       have N1:=ψ (Fh W3 (base:=W3.heap.size) (e:=3) 0 [] rfl (by omega) (ϊ _))
       have N2:=ψ ((qO hu fw.e (ϊ _)).alloc (Ξ #[] 3));have hml:ms.length<=100:=by
           have e:=congrArg Ai4 RM.e;rw[Ah6,Ahr,Ah6] at e;have e1:=aiz (λL=>anJ i hwd L) ((sd b i).take j)
           have e2:=Af7 j (sd b i);have e3:=Af7 q (mR p.len);omega
       have ZX:=ψ Dc;clear hu Dc;go_wp2_with (first
           | (at_builtin
              refine F2 rfl (.tmp 43) (.tmp 47) 33 rfl W3.heap.size 3 i0 (ξ κ 0) 1 8 (U Tryz.underlying33) HI.e.1 HI.e.2.1 HI.e.2.2.1 HI.e.2.2.2 rfl (by decide) _ 0 _ rfl N1.e _ i 0 _ rfl N2.e (V2 _) (by simp only[ϖ];omega) (by omega) (by simp) ?_
              intro v1 w1 cK dT;obtain⟨A4,m4,c4,rfl⟩:=j8 cK;have wQ:=ψ cK;have HG4:=ψ dT;clear cK dT)
           | (at_builtin
              refine F2 rfl (.tmp 48) (.tmp 50) 33 rfl W3.heap.size 3 i0 (ξ κ 0) 1 8 (U Tryz.underlying33) HI.e.1 HI.e.2.1 HI.e.2.2.1 HI.e.2.2.2 rfl (by decide) _ (0+i) _ rfl (wQ.e.alloc _) _ 1 0 _ rfl (Fh _ 1 [ξ κ (p.len.lo+q)] rfl (by omega) (ϝ _)) (V2 [p.len.lo+q]) (by simp only[ϖ];omega) (by omega) (by have:=HG4.e.size;simp at this |-;omega) ?_
              intro v2 w2 vX yP;obtain⟨A6,m6,c6,rfl⟩:=j8 vX;have HO5:=ψ vX;have HG5:=ψ yP;have B5:Hid (Γ W3.heap.size W3 w2):=ψ (by
               have e1:=((ώ W3.heap.size W3).alloc (ϊ _) (Ξ #[] 3)).grown HG4.e (by simp) (λk hk=>ei N1.e k hk)
               exact(e1.alloc e1.size _).grown HG5.e (by have:=e1.size;simp;omega) (λk hk=>ei wQ.e k hk))
              have O5:=ψ (uC.e.below B5.e (ϊ _));clear vX yP)
           | (at_builtin
              refine F2 rfl (.tmp 42) (.tmp 52) 119 rfl W1.heap.size 33 j0 (ζ ν 0 0) 1 24 (U Tryz.underlying119) HJ.e.1 HJ.e.2.1 HJ.e.2.2.1 HJ.e.2.2.2 rfl (by decide) _ ms.length _ rfl (O5.e.1.alloc _) _ 1 0 _ rfl (Fh _ 1 [ζ A6 m6 c6] rfl (by omega) (ϝ _)) (λu hu=>by rw[Afx] at hu;subst hu;rfl) (by simp only[ϖ];omega) (by omega) (by have:=B5.e.size;simp;omega) ?_
              intro v3 w3 tG Am;obtain⟨A7,m7,c7,rfl⟩:=j8 tG;have jM:=ψ tG;have Bs:=ψ Am;clear tG Am))
       go_roundw;case rel=>exact⟨q+1,ms++ [(sx (i+1) (L.set i (p.len.lo+q)),ζ A6 m6 c6)],by rw[PZ];omega,by go_num,
           (O5.e.below ((ώ _ _).alloc (ϊ _) _) (ϊ _)).snoc Bs.e (by
           rw[<-aog (p.len.lo+q) (by omega),Ahy,Ahr,Bp]
           have:=(HO5.e.alloc (Ξ #[ζ A6 m6 c6] 33)).base (ϝ _);rwa[Ahm,Ai5] at this) jM.e,
           ψ (by rw[Ahy,RM.e,oJ (Xq mD),Ahy,List.append_assoc];rfl),
           (fw.e.trans ((B5.e.alloc B5.e.size _).mono (by omega))).grown Bs.e (by have:=B5.e.size;simp;omega) (λk hk=>ei O5.e.1 k hk)⟩
       case measure=>simp[ϗ];omega
      ·have eq:q=(mR p.len).length:=by rw[PZ];omega
       go_wp2;go_roundw;case rel=>exact⟨j+1,ms,by omega,by go_num,uC.e,ψ (by
           rw[RM.e,oJ HL.e.1,Ahp,List.flatMap_singleton,Af8 (Agi eq.symm)];rfl),fw.e⟩
       case measure=>simp[ϗ];omega
    ·obtain rfl:j=m:=by omega
     go_wp2;go_roundw;case rel=>exact⟨i+1,ns,by omega,by go_num,rf.e.base Z1,ψ (by
      have e:ts.length=(sd b i).length:=by have:=congrArg Ai4 il.e;simpa using this
      rw[Ke.e,anG HP.e,Af8 (by rw[<-e,EM.e];exact ϊ _)]),HB.e.trans (dV.e.mono Z1)⟩
     case measure=>simp[ϗ];omega
  ·obtain rfl:i=n1:=by omega
   have aey:=(bT.e.still s1.e).more (B':=W1.heap.size) (by omega)
   have eM:=ψ aey;clear aey;go_wp2;go_loopw [8,9] (λo k wr=>∃(j:Nat) (ns:List (List Int×υ)),j<=m/\k=ξ κ j/\tZ wr W1.heap.size o ns/\Hid (ns.map Ai7=(((sd b i).take j).filter (yW b b.pieces.length)).map (sx i))/\Hid (ns.length<=j)/\Γ W1.heap.size W1 wr) (λ_ k _=>m - (ϗ k).toNat)
   case atStart=>exact⟨0,[],ϝ _,rfl,tZ.nil,ψ rfl,ψ (ϊ _),ώ _ _⟩
   case round=>
    rename Ψ=>W2
    obtain⟨j,ns,hj,rfl,aG,Ke,Az,hb⟩:=hrel;have dV:=ψ hb;have rf:=ψ aG;have Z2:=hb.size;have mH:=ψ (kb.e.below hb (by omega))
    have f0: W2.cell? ⟨w.heap.size,0,ν⟩=φ (ξ κ b.ag):=mH.e.cell 0;have f1: W2.cell? ⟨w.heap.size,1,ν⟩=φ (ζ A1 i c1):=mH.e.cell 1;have f2: W2.cell? ⟨w.heap.size,2,ν⟩=φ (ζ A2 n2 c2):=mH.e.cell 2;have f3: W2.cell? ⟨w.heap.size,3,ν⟩=φ (ζ A3 n3 c3):=mH.e.cell 3;have hnj:=Az.e;clear hb aG;by_cases U2:j<m
    ·have abT:(j:Int)<m:=by omega
     obtain⟨cI,⟨l,u⟩,jQ,rfl,fV,ht,rfl,-,ie⟩:=RO.e j U2;obtain⟨L,Dc,rfl⟩:∃L,(sd b i)[j]?=φ L/\l=sx i L:=by
      have:=adz il.e ht;rw[Ahs] at this
      cases e:(sd b i)[j]? with
      |none=>rw[e] at this;cases this
      |some L=>rw[e] at this;injection this with this;exact⟨L,rfl,this.symm⟩
     have hu:=HO.e.2 _ (ϡ ht);simp only at hu;obtain⟨A5,m5,c5,rfl⟩:=j8 hu;have y0: W2.cell? (cI.add j)=φ (ζ A5 m5 c5):=by have:=cC ie (Δ.aK dV.e (ϊ _)) fV rfl;rwa[Agj] at this
     have y1:(cI.add j).block<W2.heap.size:=by rw[cq];omega
     have aB:=ψ (ahU (w:=W2.drew) (B:=W1.heap.size) (eM.e.still (Δ.aK (iY dV.e) (ϊ _))) Z2 (L:=L) (lv:=ζ A5 m5 c5) (by
      rw[E1.e];exact(Ih hu).still (Δ.aK (iY dV.e) (ϊ _)) λ_ _ h=>h) HV.e ((Yo HV.e i (by rw[E1.e];exact ϊ _) L (ϡ Dc)).1))
     have HU:=ψ hu;have wP:=ψ ie;have ZX:=ψ Dc;clear hu Dc ht ie;obtain⟨q,hq⟩:∃q,q=yW b b.pieces.length L:=⟨_,rfl⟩
     rw[<-hq] at aB;have HQ:=ψ hq;clear hq;go_wp2;refine ua 5 (by kernel_rfl) (by kernel_rfl) ?_
     simp only[Agb,Agc,Agd,Age];repeat still_step
     refine Agy ?_
     cases q with
     |false=>
      go_wp2_with (first
       | (go_at_call 152;refine aB.e.mono ?_;rintro e W3 ⟨rfl,ae⟩
          have fw:Hid (Γ W1.heap.size W1 W3):=ψ ((iY dV.e).trans (ae.mono Z2));have O3:=ψ ((show tZ W2.drew _ _ _ from rf.e).below ae (ϊ _))
          clear ae))
      go_roundw;case rel=>exact⟨j+1,ns,by omega,by go_num,O3.e,ψ (by
       rw[Ke.e,oJ ZX.e,List.filter_append,Ahy];simp[<-HQ.e]),ψ (by omega),fw.e⟩
      case measure=>simp[ϗ];omega
     |true=>
      go_wp2_with (first
       | (go_at_call 152;refine aB.e.mono ?_;rintro e W3 ⟨rfl,ae⟩
          have fw:Hid (Γ W1.heap.size W1 W3):=ψ ((iY dV.e).trans (ae.mono Z2));have O3:=ψ ((show tZ W2.drew _ _ _ from rf.e).below ae (ϊ _))
          have x0: W3.cell? (cI.add j)=φ (ζ A5 m5 c5):=by have:=cC wP.e (Δ.aK fw.e (ϊ _)) fV rfl;rwa[Agj] at this
          have x1:(cI.add j).block<W3.heap.size:=by have:=fw.e.size;rw[cq];omega
          clear ae)
       | (at_builtin
          refine F2 rfl (.tmp 67) (.tmp 72) 119 rfl W1.heap.size 33 j0 (ζ ν 0 0) 1 24 (U Tryz.underlying119) HJ.e.1 HJ.e.2.1 HJ.e.2.2.1 HJ.e.2.2.2 rfl (by decide) _ ns.length _ rfl (O3.e.1.alloc _) _ 1 0 _ rfl (Fh _ 1 [ζ A5 m5 c5] rfl (by omega) (ϝ _)) (λu hu=>by rw[Afx] at hu;subst hu;rfl) (by simp only[ϖ];omega) (by omega) (by have:=fw.e.size;simp;omega) ?_
          intro v3 W4 tG Am;have jM:=ψ tG;have Bs:=ψ Am;clear tG Am))
      go_roundw;case rel=>exact⟨j+1,ns++ [(sx i L,ζ A5 m5 c5)],by omega,by go_num,
       (O3.e.below ((ώ _ _).alloc (ϊ _) _) (ϊ _)).snoc Bs.e (qO HU.e (fw.e.alloc fw.e.size _) (ϊ _)) jM.e,ψ (by
       rw[Ahy,Ke.e,oJ ZX.e,List.filter_append,Ahy];simp[<-HQ.e]),ψ (by simp;omega),
       (fw.e.alloc fw.e.size _).grown Bs.e (by have:=fw.e.size;simp;omega) (λk hk=>ei O3.e.1 k hk)⟩
      case measure=>simp[ϗ];omega
    ·obtain rfl:j=m:=by omega
     go_wp2;go_ret;exact⟨_,ns,rfl,rf.e.base (by omega),by
      have e:ts.length=(sd b i).length:=by have:=congrArg Ai4 il.e;simpa using this
      rw[Ke.e,Af8 (by rw[<-e,EM.e];exact ϊ _),E1.e]
      have:=ahR HV.e;rw[E1.e] at this;rw[this],B0.e.trans ((HB.e.mono (by omega)).trans (dV.e.mono (by omega)))⟩
def B2(b:ao)(s:Int):List (List Int):=if cj b s=0 then(aD b).map (sx b.pieces.length) else []
def ER{ts:List (List Int×υ)}{α:Type}{l:List α}{f:α->List Int}(h:ts.map Ai7=l.map f):ts.length=l.length:=by have:=congrArg Ai4 h;simpa using this
def adB{w:Ψ}{b:ao}{s:Int}{pv bv tv:υ}{B:Nat}(ai:bg w B b pv bv tv)(hB:B<=w.heap.size):
 ύ prog 103 #[η #[ξ κ b.ag,pv,bv,tv],ξ κ s] w λe w'=>∃v ts,e=Ω (μ #[v,ξ κ (cj b s)])/\tZ w' w.heap.size v ts/\ts.map Ai7=B2 b s/\Γ w.heap.size w w':=by
 have bT:=ψ ai;obtain⟨A1,n1,c1,rfl,-⟩:=ai.pieces.Φ;obtain⟨A2,n2,c2,rfl,-⟩:=ai.aF.Φ;obtain⟨A3,n3,c3,rfl,-⟩:=ai.aJ.Φ;clear ai;have aB:=ψ (ajY (bT.e.still ((Δ.refl w).alloc hB (Ξ #[ξ κ b.ag,ζ A1 n1 c1,ζ A2 n2 c2,ζ A3 n3 c3] 26))) (by simp;omega))
 by_cases hc:dF b=0
 ·rw[hc] at aB
  by_cases hs:s=0
  ·subst hs
   have hv:=ψ (iy hc);have HC:=ψ hc;clear hc;by_cases hn:(aD b).length=0
   ·have HN:=ψ hn
    clear hn;go_enter func103,Tryz.ntmps103;go_wp2_with (first
      | (go_at_call 69;refine aB.e.mono ?_;rintro e w1 ⟨rfl,ae⟩
         have kb:Bk w1 w.heap.size 26 #[ξ κ b.ag,ζ A1 n1 c1,ζ A2 n2 c2,ζ A3 n3 c3]:=(Bk.new w _ _).below ae (by simp)
         have b0:=kb.cell 0;have b1:=kb.cell 1;have b2:=kb.cell 2;have b3:=kb.cell 3;have aY:=ψ (cU (ώ _ _) ae (ϊ _));have S1:=ψ (bT.e.still (((Δ.refl w).alloc hB _).trans (Δ.aK ae (by simp;omega))))
         clear kb ae)
      | (go_at_call 97;refine(T5 S1.e (by have:=aY.e.size;omega) hv.e).mono ?_;rintro e w2 ⟨v,ts,rfl,aG,il,ak⟩
         obtain⟨A9,n9,c9,rfl⟩:=j8 aG.1;have cY:n9=0:=by rw[Be aG.1,ER il,HN.e]
         have dV:=ψ (aY.e.trans (ak.mono aY.e.size));subst cY;clear aG il ak))
    go_ret2
    have e9:cj b 0=9:=by unfold cj;rw[if_neg (by simpa using HC.e),if_neg (by simp),if_pos HN.e]
    exact⟨_,[],CH rfl e9.symm,tZ.nil,by unfold B2;rw[e9];rfl,dV.e⟩
   ·have HN:=ψ hn
    have afb:(aD b).length<=27:=Ct hv.e;clear hn;go_enter func103,Tryz.ntmps103;go_wp2_with (first
      | (go_at_call 69;refine aB.e.mono ?_;rintro e w1 ⟨rfl,ae⟩
         have kb:Bk w1 w.heap.size 26 #[ξ κ b.ag,ζ A1 n1 c1,ζ A2 n2 c2,ζ A3 n3 c3]:=(Bk.new w _ _).below ae (by simp)
         have b0:=kb.cell 0;have b1:=kb.cell 1;have b2:=kb.cell 2;have b3:=kb.cell 3;have aY:=ψ (cU (ώ _ _) ae (ϊ _));have S1:=ψ (bT.e.still (((Δ.refl w).alloc hB _).trans (Δ.aK ae (by simp;omega))))
         clear kb ae)
      | (go_at_call 97;refine(T5 S1.e (by have:=aY.e.size;omega) hv.e).mono ?_;rintro e w2 ⟨v,ts,rfl,aG,il,ak⟩
         obtain⟨A9,n9,c9,rfl⟩:=j8 aG.1;have cY:n9=(aD b).length:=by rw[Be aG.1,ER il]
         have dV:=ψ (aY.e.trans (ak.mono aY.e.size));have HO:=ψ aG;have HT:=ψ il;have Vu:((n9:Int)==0)=χ:=by have:=HN.e;simp;omega
         have N7:n9<=27:=by omega
         clear aG il ak cY))
    go_ret2
    have e9:cj b 0=0:=by unfold cj;rw[if_neg (by simpa using HC.e),if_neg (by simp),if_neg HN.e]
    exact⟨_,ts,CH rfl e9.symm,HO.e.base aY.e.size,by unfold B2;rw[if_pos e9];exact HT.e,dV.e⟩
  ·have hz:(s !=0)=θ:=by simpa using hs
   have es:cj b s=s:=by unfold cj;rw[if_neg (by simpa using hc),if_pos hs]
   have HS:=ψ (ϐ es hs);clear hs hc es;go_enter func103,Tryz.ntmps103;go_wp2_with (first
     | (go_at_call 69;refine aB.e.mono ?_;rintro e w1 ⟨rfl,ae⟩
        have aY:=ψ (cU (ώ _ _) ae (ϊ _));clear ae))
   go_ret2
   exact⟨_,[],CH rfl HS.e.1.symm,tZ.nil,by unfold B2;rw[HS.e.1,if_neg HS.e.2];rfl,aY.e⟩
 ·obtain⟨c,cX⟩:∃c,c=dF b:=⟨_,rfl⟩
  rw[<-cX] at aB hc;have hz:(c !=0)=θ:=by simpa using hc
  have es:cj b s=c:=by unfold cj;rw[if_pos (by rw[<-cX];exact hc)];exact cX.symm
  have HS:=ψ (ϐ es hc);clear cX hc es;go_enter func103,Tryz.ntmps103;go_wp2_with (first
   | (go_at_call 69;refine aB.e.mono ?_;rintro e w1 ⟨rfl,ae⟩
      have aY:=ψ (cU (ώ _ _) ae (ϊ _));clear ae))
  go_ret2
  exact⟨_,[],CH rfl HS.e.1.symm,tZ.nil,by unfold B2;rw[HS.e.1,if_neg HS.e.2];rfl,aY.e⟩
def ah7{w:Ψ}{b:ao}{pv bv tv:υ}{B:Nat}(ai:bg w B b pv bv tv)(hB:B<=w.heap.size):
 ύ prog 23 #[η #[ξ κ b.ag,pv,bv,tv]] w λe w'=>e=Ω (μ #[ξ κ (Gt b),ξ κ (dF b)])/\Γ w.heap.size w w':=by
 have bT:=ψ ai;obtain⟨A1,n1,c1,rfl,-⟩:=ai.pieces.Φ;obtain⟨A2,n2,c2,rfl,-⟩:=ai.aF.Φ;obtain⟨A3,n3,c3,rfl,-⟩:=ai.aJ.Φ;clear ai;have aB:=ψ (ajY (bT.e.still ((Δ.refl w).alloc hB (Ξ #[ξ κ b.ag,ζ A1 n1 c1,ζ A2 n2 c2,ζ A3 n3 c3] 26))) (by simp;omega))
 by_cases hc:dF b=0
 ·rw[hc] at aB
  have hv:=ψ (iy hc);have HC:=ψ hc;have afb:(aD b).length<=27:=Ct hv.e;clear hc;go_enter func23,Tryz.ntmps23;go_wp2_with (first
   | (go_at_call 69;refine aB.e.mono ?_;rintro e w1 ⟨rfl,ae⟩
      have kb:Bk w1 w.heap.size 26 #[ξ κ b.ag,ζ A1 n1 c1,ζ A2 n2 c2,ζ A3 n3 c3]:=(Bk.new w _ _).below ae (by simp)
      have b0:=kb.cell 0;have b1:=kb.cell 1;have b2:=kb.cell 2;have b3:=kb.cell 3;have aY:=ψ (cU (ώ _ _) ae (ϊ _));have S1:=ψ (bT.e.still (((Δ.refl w).alloc hB _).trans (Δ.aK ae (by simp;omega))))
      clear kb ae)
   | (go_at_call 97;refine(T5 S1.e (by have:=aY.e.size;omega) hv.e).mono ?_;rintro e w2 ⟨v,ts,rfl,aG,il,ak⟩
      obtain⟨A9,n9,c9,rfl⟩:=j8 aG.1;have cY:n9=(aD b).length:=by rw[Be aG.1,ER il]
      have HL:=ψ cY;have dV:=ψ (aY.e.trans (ak.mono aY.e.size));have N7:n9<=27:=by omega
      clear aG il ak cY))
  go_ret2
  exact⟨I0 (by unfold Gt;rw[if_neg (by simpa using HC.e),HL.e]) HC.e.symm,dV.e⟩
 ·obtain⟨c,cX⟩:∃c,c=dF b:=⟨_,rfl⟩
  rw[<-cX] at aB hc |-
  have hz:(c !=0)=θ:=by simpa using hc
  have es:Gt b=0:=by unfold Gt;rw[if_pos (by rw[<-cX];exact hc)]
  rw[es];clear cX hc es;go_enter func23,Tryz.ntmps23;go_wp2_with (first
   | (go_at_call 69;refine aB.e.mono ?_;rintro e w1 ⟨rfl,ae⟩
      have aY:=ψ (cU (ώ _ _) ae (ϊ _));clear ae))
  go_ret2
  exact⟨I0 rfl rfl,aY.e⟩
def ahT(s:Int)(c d:Cut)(n m:Int):nv s d c m n=nv s c d n m:=by
 unfold nv;by_cases h:c.bp=d.bp
 ·rw[Bool.eq_iff_iff]
  simp[h,or_comm]
 ·have h':d.bp≠c.bp:=λe=>h e.symm
  rw[Bool.eq_iff_iff];simp[h,h']
def aix{b:ao}{L:an}{l:List Cut}{pv bv tv sv lv:υ}{w:Ψ}{B:Nat}(hb:bg w B b pv bv tv)(hs:Row w B 1 cH sv (sx b.pieces.length L))(hl:Row w B 2 Cut.R lv l)(hB:B<=w.heap.size)
 (hlen:l.length=b.pieces.length)(ij:b.pieces.length<=3)(dh:∀(i:Nat) (c:Cut),l[i]?=φ c->oO b c)(hL:L.Ok)(vy:0<=b.ag/\b.ag<=1000):
 ύ prog 111 #[η #[ξ κ b.ag,pv,bv,tv],sv,lv] w λe w'=>e=Ω (.bool (fp b L l))/\Γ w.heap.size w w':=by
 have bT:=ψ hb;obtain⟨A1,n1,c1,rfl,e1,h1,eA,-⟩:=hb.pieces.Φ;obtain⟨A2,nb,c2,rfl,eb,h2,dW,-⟩:=hb.aF.Φ;obtain⟨A3,n3,c3,rfl,-⟩:=hb.aJ.Φ;obtain⟨A,m,c,rfl,e2,h3,rD,hr⟩:=hl.Φ;obtain⟨A5,n5,c5,rfl,e5,h5,GW,U9⟩:=hs.Φ;rw[Bp,<-hlen,e2] at e5;obtain rfl:=e5;unfold ϖ at eA dW rD;have hm3:m<=3:=by omega
 have E2:=ψ e2;have EN:=ψ hlen;have H2:=ψ hr;have H5:=ψ U9;have OK:=ψ dh;have HL:=ψ hL;have YX:=ψ vy;obtain⟨W0,z8⟩:∃W0,W0=w.alloc (Ξ #[ξ κ b.ag,ζ A1 n1 c1,ζ A2 nb c2,ζ A3 n3 c3] 26):=⟨_,rfl⟩
 have Z0:W0.heap.size=w.heap.size+1:=by rw[z8];simp
 have BW:Hid (Γ w.heap.size w W0):=ψ (by rw[z8];exact(ώ _ _).alloc (ϊ _) _)
 have KB:Hid (Bk W0 w.heap.size 26 #[ξ κ b.ag,ζ A1 n1 c1,ζ A2 nb c2,ζ A3 n3 c3]):=ψ (by rw[z8];exact Bk.new _ _ _)
 have S0:Hid (Δ B w W0):=ψ (by rw[z8];exact(Δ.refl w).alloc hB _)
 clear hb hl e1 eb e2 hr dh hL vy hlen ij hs U9;go_enter func111,Tryz.ntmps111;go_wp2;rw[<-z8];clear z8;go_loopw [7] (λk wr=>∃i:Nat,i<=m/\k=ξ κ i/\(∀j:Nat,j<i->td b L l j=θ)/\Γ (w.heap.size+1) W0 wr) (λk _=>m - (ϗ k).toNat)
 case atStart=>exact⟨0,ϝ _,rfl,λj hj=>by omega,ώ _ _⟩
 case round=>
  rename Ψ=>wo
  obtain⟨i,hi,rfl,bt,hb⟩:=hrel;have HAL:=ψ bt;have HB:=ψ hb;have aI:=hb.size;have kb:=KB.e.below hb (by omega)
  have f0:=kb.cell 0;have f1:=kb.cell 1;have f2:=kb.cell 2;have f3:=kb.cell 3;have st:Δ B w wo:=S0.e.trans (Δ.aK hb (by omega))
  have ST:=ψ st;by_cases al:i<m
  ·obtain⟨ad,x,cs,rfl,aC,hx,rfl,-,au⟩:=H2.e i al
   obtain⟨ad5,y,cs5,rfl,abe,hy,rfl,-,QK⟩:=H5.e i al;rw[E0 L (by rw[<-EN.e,E2.e];exact al)] at hy
   cases hy;have g0:=cC QK st abe rfl;rw[Agj] at g0;have ok:=OK.e i x hx;obtain⟨bd,fr⟩:=x;obtain⟨k,hk,da⟩:=ok.bp;obtain rfl:bd=(k:Int):=hk;have b7:0<=fr/\fr<=40:=ok.from_;have h0:=cC au st aC rfl;have h1:=bK au st aC 0 rfl;have HX:=ψ hx;obtain⟨p,hp⟩:∃p,b.pieces[i]?=φ p:=⟨_,Af2 (by have:=E2.e;have:=EN.e;omega)⟩
   obtain⟨bx,rE⟩:∃bx,b.aF[k]?=φ bx:=⟨_,Af2 da⟩
   have Nz:AW b i (L.at i) ⟨k,fr⟩=tR bx p.bears (L.at i) ⟨k,fr⟩:=by unfold AW;simp[hp,rE]
   have KN:=ψ Nz;have call:ύ prog 167 #[η #[ξ κ b.ag,ζ A1 n1 c1,ζ A2 nb c2,ζ A3 n3 c3],ξ κ i,ξ κ (L.at i),η #[ξ κ k,ξ κ fr]] wo.drew
    λe w'=>e=Ω (.bool (tR bx p.bears (L.at i) ⟨k,fr⟩))/\Γ wo.drew.heap.size wo.drew w':=
    aoi (B:=B) (bT.e.still λq hq=>st q hq) (by simp;omega) hp rE ⟨b7.1,by omega⟩ (HL.e i)
   have aB:=ψ call;have NA:(i:Int)<m:=by omega
   clear call hp rE Nz st bt hb hx au QK ok kb;obtain⟨q1,tH⟩:∃q,q=tR bx p.bears (L.at i) ⟨k,fr⟩:=⟨_,rfl⟩
   rw[<-tH] at aB KN;clear tH;go_wp2;refine ua 10 (by kernel_rfl) (by kernel_rfl) ?_
   simp only[Agb,Agc,Agd,Age];repeat still_step
   refine Agy ?_
   cases q1 with
   |false=>
    go_wp2_with (first
     | (go_at_call 167;refine aB.e.mono ?_;rintro e w1 ⟨rfl,ae⟩;have dO:=ψ (HB.e.trans ((iU ae).mono (show w.heap.size+1<=wo.heap.size by omega)));clear ae))
    go_ret;refine⟨b9 ?_,BW.e.trans (dO.e.mono (by omega))⟩
    unfold fp;rw[E2.e]
    exact(Gn al (by unfold td;rw[HX.e];simp[KN.e])).symm
   |true=>
    go_wp2_with (first
     | (go_at_call 167;refine aB.e.mono ?_;rintro e w1 ⟨rfl,ae⟩;have dO:=ψ (HB.e.trans ((iU ae).mono (show w.heap.size+1<=wo.heap.size by omega)));clear ae))
    go_loopw [8] (λz W=>∃j:Nat,j<=i/\z=ξ κ j/\(∀q:Nat,q<j->rm b L l i ⟨k,fr⟩ q=θ)/\Γ (w.heap.size+1) W0 W) (λz _=>i - (ϗ z).toNat)
    case atStart=>exact⟨0,ϝ _,rfl,λj hj=>by omega,dO.e⟩
    case round=>
     rename Ψ=>wq
     obtain⟨j,hj,rfl,TU,xG⟩:=hrel;have L2:=ψ TU;have dV:=ψ xG;have afE:=xG.size;have kb:=KB.e.below xG (by omega)
     have f0:=kb.cell 0;have f1:=kb.cell 1;have f2:=kb.cell 2;have f3:=kb.cell 3;have st:Δ B w wq:=S0.e.trans (Δ.aK xG (by omega))
     by_cases nE:j<i
     ·obtain⟨Cs,x,bh,kX,adT,hx,rfl,-,au⟩:=H2.e i al
      cases kX;rw[HX.e] at hx;cases hx;obtain⟨Cs,y,bh,kX,adT,hy,rfl,-,Ak⟩:=H2.e j (by omega)
      cases kX;obtain⟨PG,z,cs5,kX,abk,hz,rfl,-,QK⟩:=H5.e i al;cases kX;rw[E0 L (by rw[<-EN.e,E2.e];exact al)] at hz
      cases hz;obtain⟨PG,z,cs5,kX,abk,hz,rfl,-,Dd⟩:=H5.e j (by omega)
      cases kX;rw[E0 L (by rw[<-EN.e,E2.e];omega)] at hz
      cases hz;have Wp:=OK.e j y hy;obtain⟨mn,iJ⟩:=y;have my:0<=iJ/\iJ<=40:=Wp.from_;have h0:=cC au st aC rfl;have h1:=bK au st aC 0 rfl;have h0':=cC Ak st aC rfl;have eA:=bK Ak st aC 0 rfl;have g5:=cC QK st abe rfl;have g6:=cC Dd st abe rfl;rw[Agj] at g5 g6;have HY:=ψ hy;have aq2:(j:Int)<i:=by omega
      have U2:j<m:=by omega
      have abT:(j:Int)<m:=by omega
      clear xG hy au Ak QK Dd Wp st TU kb;have Ae:rm b L l i ⟨k,fr⟩ j=nv b.ag ⟨mn,iJ⟩ ⟨k,fr⟩ (L.at j) (L.at i):=by unfold rm;rw[HY.e,ahT]
      have B3:=ψ Ae;clear Ae;have call:∀W:Ψ,ύ prog 168 #[η #[ξ κ b.ag,ζ A1 n1 c1,ζ A2 nb c2,ζ A3 n3 c3],η #[ξ κ mn,ξ κ iJ],η #[ξ κ k,ξ κ fr],ξ κ (L.at j),ξ κ (L.at i)] W
           λe w'=>e=Ω (.bool (nv b.ag ⟨mn,iJ⟩ ⟨k,fr⟩ (L.at j) (L.at i)))/\Γ W.heap.size W w':=λW=>
          ahS (c:=⟨mn,iJ⟩) (d:=⟨k,fr⟩) YX.e.1 YX.e.2 (HL.e j).1 (HL.e j).2 (HL.e i).1 (HL.e i).2 my.1 (by have:=my.2;show iJ<=1000;omega) b7.1 (by have:=b7.2;show fr<=1000;omega)
      have uv:=ψ call;clear call;obtain⟨q2,tI⟩:∃q,q=nv b.ag ⟨mn,iJ⟩ ⟨k,fr⟩ (L.at j) (L.at i):=⟨_,rfl⟩
      rw[<-tI] at uv B3;clear tI;go_wp2;refine ua 17 (by kernel_rfl) (by kernel_rfl) ?_
      simp only[Agb,Agc,Agd,Age];repeat still_step
      refine Agy ?_
      cases q2 with
      |false=>
       go_wp2_with (first
           | (go_at_call 168;refine(uv.e _).mono ?_;rintro e w2 ⟨rfl,ak⟩;have cy:=ψ (dV.e.trans ((iU ak).mono (show w.heap.size+1<=wq.heap.size by omega)));clear ak))
       go_ret;refine⟨b9 ?_,BW.e.trans (cy.e.mono (by omega))⟩
       unfold fp;rw[E2.e]
       refine(Gn al ?_).symm
       unfold td;rw[HX.e]
       simp only[KN.e,Bool.true_and];exact Gn nE B3.e
      |true=>
       go_wp2_with (first
           | (go_at_call 168;refine(uv.e _).mono ?_;rintro e w2 ⟨rfl,ak⟩;have cy:=ψ (dV.e.trans ((iU ak).mono (show w.heap.size+1<=wq.heap.size by omega)));clear ak))
       go_roundw;case rel=>exact⟨j+1,by omega,by go_num,λq hq=>by
           rcases Agh.1 hq with h|rfl
           ·exact L2.e q h
           ·exact B3.e,cy.e⟩
       case measure=>simp[ϗ];omega
     ·obtain rfl:j=i:=by omega
      clear xG;go_wp2;go_roundw;case rel=>exact⟨j+1,by omega,by go_num,λq hq=>by
          rcases Agh.1 hq with h|rfl
          ·exact HAL.e q h
          ·unfold td;rw[HX.e];simp only[KN.e,Bool.true_and];exact oi.2 L2.e,dV.e⟩
      case measure=>simp[ϗ];omega
  ·obtain rfl:i=m:=by omega
   clear hb;go_wp2;go_ret;refine⟨b9 ?_,BW.e.trans (HB.e.mono (by omega))⟩
   unfold fp;rw[E2.e];exact(oi.2 HAL.e).symm
def SI{b:ao}{s:Int}(h:cj b s=0):B2 b s=(aD b).map (sx b.pieces.length):=by unfold B2;rw[if_pos h]
def V5{w:Ψ}{base m j n:Nat}{ts:List (List Int×υ)}{ls:List an}{T:Option ϕ}{c:Nat}(h:tZ w base (ζ T m c) ts)(il:ts.map Ai7=ls.map (sx n))(hj:j<m):
 ∃ad L A5 c5,T=φ ad/\ad.block<w.heap.size/\ls[j]?=φ L/\w.ownsRow 0 3 1 (ζ A5 n c5) n ((sx n L).map (ξ κ))/\∀w':Ψ,Γ w.heap.size w w'-> w'.cell? (ad.add j)=φ (ζ A5 n c5):=by
 obtain⟨T',m',c',e,em,rM,qv,DY⟩:=h.akm.Φ;injection e with e1 e2 e3
 subst e1 e2 e3;obtain⟨ad,⟨l,u⟩,cs,rfl,aC,ht,rfl,-,au⟩:=DY j hj;obtain⟨L,Dc,rfl⟩:∃L,ls[j]?=φ L/\l=sx n L:=by
  have:=adz il ht;rw[Ahs] at this
  cases e:ls[j]? with
  |none=>rw[e] at this;cases this
  |some L=>rw[e] at this;injection this with this;exact⟨L,rfl,this.symm⟩
 have hu:=h.2 _ (ϡ ht);simp only[Bp] at hu;obtain⟨A5,m5,c5,rfl⟩:=j8 hu;obtain rfl:=Be hu;exact⟨ad,L,A5,c5,rfl,aC,Dc,hu,λw' hb=>by have:=cC au (Δ.aK hb (ϊ _)) aC rfl;rwa[Agj] at this⟩
def aem{w:Ψ}{b:ao}{l:List Cut}{pv bv tv lv:υ}{B:Nat}(hB:B<=w.heap.size)(ai:bg w B b pv bv tv)(hl:Row w B 2 Cut.R lv l):
 ύ prog 29 #[η #[ξ κ b.ag,pv,bv,tv],lv] w λe w'=>e=Ω (μ #[ξ κ (zP b l),ξ κ (cj b (ez b l))])/\Γ w.heap.size w w':=by
 have bT:=ψ ai;have uB:=ψ hl;obtain⟨A1,n1,c1,rfl,-⟩:=ai.pieces.Φ;obtain⟨A2,n2,c2,rfl,-⟩:=ai.aF.Φ;obtain⟨A3,n3,c3,rfl,-⟩:=ai.aJ.Φ;obtain⟨A,n,c,rfl,-⟩:=hl.Φ;obtain⟨W0,z8⟩:∃W0,W0=w.alloc (Ξ #[ξ κ b.ag,ζ A1 n1 c1,ζ A2 n2 c2,ζ A3 n3 c3] 26):=⟨_,rfl⟩
 have Z0:W0.heap.size=w.heap.size+1:=by rw[z8];simp
 have BW:Hid (Γ w.heap.size w W0):=ψ (by rw[z8];exact(ώ _ _).alloc (ϊ _) _)
 have kb:Bk W0 w.heap.size 26 #[ξ κ b.ag,ζ A1 n1 c1,ζ A2 n2 c2,ζ A3 n3 c3]:=by rw[z8];exact Bk.new _ _ _
 have k0: W0.cell? ⟨w.heap.size,0,ν⟩=φ (ξ κ b.ag):=kb.cell 0;have k1: W0.cell? ⟨w.heap.size,1,ν⟩=φ (ζ A1 n1 c1):=kb.cell 1;have k2: W0.cell? ⟨w.heap.size,2,ν⟩=φ (ζ A2 n2 c2):=kb.cell 2;have k3: W0.cell? ⟨w.heap.size,3,ν⟩=φ (ζ A3 n3 c3):=kb.cell 3;have KB:=ψ kb;have S0:Hid (Δ B w W0):=ψ (by rw[z8];exact(Δ.refl w).alloc hB _)
 have C1:Hid (∀w',Γ (w.heap.size+1) W0 w'->ύ prog 44 #[η #[ξ κ b.ag,ζ A1 n1 c1,ζ A2 n2 c2,ζ A3 n3 c3],ζ A n c] w' λe bq=>e=Ω (ξ κ (ez b l))/\Γ (w.heap.size+1) W0 bq):=ψ λw' hw=>by
  have hs:=hw.size;have st:=S0.e.trans (Δ.aK hw (by omega))
  exact(aii (bT.e.still st) (uB.e.still st λ_ _ h=>h) (by omega)).mono λe bq ⟨h,hb⟩=>⟨h,hw.trans (hb.mono (by omega))⟩
 have C3:Hid (∀w',Γ (w.heap.size+1) W0 w'->ύ prog 103 #[η #[ξ κ b.ag,ζ A1 n1 c1,ζ A2 n2 c2,ζ A3 n3 c3],ξ κ (ez b l)] w' λe bq=>∃v ts,e=Ω (μ #[v,ξ κ (cj b (ez b l))])/\tZ bq (w.heap.size+1) v ts/\ts.map Ai7=B2 b (ez b l)/\Γ (w.heap.size+1) W0 bq):=ψ λw' hw=>by
  have hs:=hw.size;exact(adB (bT.e.still (S0.e.trans (Δ.aK hw (by omega)))) (by omega)).mono λe bq ⟨v,ts,h,ho,ht,hb⟩=>⟨v,ts,h,ho.base (by omega),ht,hw.trans (hb.mono (by omega))⟩
 obtain⟨sn,yT⟩:∃sn,sn=ez b l:=⟨_,rfl⟩
 rw[<-yT] at C1 C3;have Bt:=ψ yT;have wO:Hid (Γ (w.heap.size+1) W0 W0.drew):=ψ (iY (ώ _ _));have CE:∀ {w':Ψ} {j:Nat} {v:υ},Γ (w.heap.size+1) W0 w'-> W0.cell? ⟨w.heap.size,j,ν⟩=φ v-> w'.cell? ⟨w.heap.size,j,ν⟩=φ v:=λhb hv=>(hb.cell (Ai6 _)).trans hv
 rw[<-yT];clear yT kb ai hl;obtain⟨os,wF⟩:∃os,os=cj b sn:=⟨_,rfl⟩
 rw[<-wF] at C3 |-
 have wz:=ψ wF;clear wF;by_cases ho:os=0
 ·subst ho
  have OK:=ψ (ϐ (GI (iy (pq wz.e.symm).1) (by rw[<-Bt.e];exact(pq wz.e.symm).2.1)) (uG (iy (pq wz.e.symm).1)))
  have afb:(aD b).length<=27:=Ct (iy (pq wz.e.symm).1);have hd:Hid (za (iI (λL=>fp b L l) (aD b)) (aD b).length=zP b l):=ψ (by
   unfold zP;rw[<-Bt.e,<-wz.e,if_neg (by simp)])
  go_enter func29,Tryz.ntmps29;go_wp2;rw[<-z8];clear z8;go_region_held3 (λw'=> w'.cell? ⟨w.heap.size,0,ν⟩=φ (ξ κ b.ag)/\ w'.cell? ⟨w.heap.size,1,ν⟩=φ (ζ A1 n1 c1)/\ w'.cell? ⟨w.heap.size,2,ν⟩=φ (ζ A2 n2 c2)/\ w'.cell? ⟨w.heap.size,3,ν⟩=φ (ζ A3 n3 c3)/\Hid (Γ (w.heap.size+1) W0 w'))
   (first|exact⟨CE eM.e k0,CE eM.e k1,CE eM.e k2,CE eM.e k3,eM⟩ |exact⟨CE oQ.e k0,CE oQ.e k1,CE oQ.e k2,CE oQ.e k3,oQ⟩ |exact⟨k0,k1,k2,k3,wO⟩)
   (first
     | (go_at_call 44
        refine(C1.e _ wO.e).mono ?_
        rintro e w4 ⟨rfl,cO⟩;have oQ:=ψ cO;clear cO)
     | (go_at_call 103
        refine(C3.e _ oQ.e).mono ?_
        rintro e w6 ⟨v,ts,rfl,aG,il,fI⟩;obtain⟨A9,n9,c9,rfl⟩:=j8 aG.1;have nG:n9=(aD b).length:=by rw[Be aG.1];exact ER (il.trans (SI wz.e.symm))
        have Bo:=ψ nG;have aeX:n9<=27:=by omega
        have eM:=ψ fI;have HO:=ψ aG;have HT:=ψ (il.trans (SI wz.e.symm));clear fI aG il nG))
  have z6:=eM.e.size;go_wp2;go_loopw [8,9] (λm k wr=>∃i:Nat,i<=n9/\k=ξ κ i/\m=ξ κ (iI (λL=>fp b L l) ((aD b).take i))/\Γ w6.heap.size w6 wr) (λ_ k _=>n9 - (ϗ k).toNat)
  case atStart=>exact⟨0,ϝ _,rfl,by simp[iI],ώ _ _⟩
  case round=>
   rename Ψ=>wq
   obtain⟨i,hi,rfl,rfl,hb⟩:=hrel;have HB:=ψ hb;have zq:=hb.size;have kq:=(KB.e.below eM.e (by omega)).below hb (by have:=KB.e.lt;omega)
   have f0:=kq.cell 0;have f1:=kq.cell 1;have f2:=kq.cell 2;have f3:=kq.cell 3;have de:=aa3 (λL=>fp b L l) ((aD b).take i)
   have fY:((aD b).take i).length<=i:=Af7 _ _;have aec:0<=iI (λL=>fp b L l) ((aD b).take i):=de.1
   have aed:iI (λL=>fp b L l) ((aD b).take i)<=i:=by have:=de.2;omega
   clear kq de fY;by_cases al:i<n9
   ·obtain⟨ad,L,A5,c5,rfl,aC,hL,hu,au⟩:=V5 HO.e HT.e al
    have y0:=au wq hb;have NA:(i:Int)<n9:=by omega
    have st:Δ B w wq.drew:=(S0.e.trans (Δ.aK eM.e (by omega))).trans (Δ.aK (iY hb) (by omega))
    have ROW:=ψ (((Ih (l:=sx b.pieces.length L) (by rw[Bp];exact hu)).still (Δ.aK (iY hb) (ϊ _)) λ_ _ h=>h))
    have aB:=ψ (aix (w:=wq.drew) (B:=w6.heap.size) ((bT.e.still st).more (by omega)) ROW.e ((uB.e.still st λ_ _ h=>h).more (by omega)) (by simp;omega) OK.e.1.len OK.e.1.three OK.e.1.kD (OK.e.2 L (ϡ hL)) OK.e.1.ag)
    have HX:=ψ hL;clear hL hu au st hb;obtain⟨q,hq⟩:∃q,q=fp b L l:=⟨_,rfl⟩
    rw[<-hq] at aB;have NX:Hid (iI (λL=>fp b L l) ((aD b).take (i+1))=iI (λL=>fp b L l) ((aD b).take i)+if q then 1 else 0):=ψ (by rw[oJ HX.e,Zy,hq])
    clear hq;go_wp2;refine ua 6 (by kernel_rfl) (by kernel_rfl) ?_
    simp only[Agb,Agc,Agd,Age];repeat still_step
    refine Agy ?_
    cases q with
    |false=>
     go_wp2_with (first
      | (go_at_call 111;refine aB.e.mono ?_;rintro e w2 ⟨rfl,ak⟩;have dV:=ψ (HB.e.trans ((iU ak).mono (show w6.heap.size<=wq.heap.size by omega)));clear ak))
     go_roundw;case rel=>exact⟨i+1,by omega,by go_num,by rw[NX.e];simp,dV.e⟩
     case measure=>simp[ϗ];omega
    |true=>
     go_wp2_with (first
      | (go_at_call 111;refine aB.e.mono ?_;rintro e w2 ⟨rfl,ak⟩;have dV:=ψ (HB.e.trans ((iU ak).mono (show w6.heap.size<=wq.heap.size by omega)));clear ak))
     go_roundw;case rel=>exact⟨i+1,by omega,by go_num,by rw[NX.e];rfl,dV.e⟩
     case measure=>simp[ϗ];omega
   ·obtain rfl:i=n9:=by omega
    obtain⟨q,hq⟩:∃q,q=iI (λL=>fp b L l) ((aD b).take i):=⟨_,rfl⟩
    have HQ:Hid (q=iI (λL=>fp b L l) (aD b)):=ψ (by rw[hq,Af8 (Agi Bo.e.symm)])
    rw[<-hq] at aec aed |-
    clear hq;go_wp2_with (first
     | (go_at_call 112;refine(told _ _ _).mono ?_;rintro e w2 ⟨rfl,rfl⟩))
    go_ret2
    exact⟨I0 (by rw[<-hd.e,HQ.e,Bo.e]) rfl,BW.e.trans ((eM.e.mono (by omega)).trans (HB.e.mono (by omega)))⟩
 ·have hz:(os !=0)=θ:=by simpa using ho
  have hd:Hid (zP b l=0):=ψ (by unfold zP;rw[<-Bt.e,<-wz.e,if_pos ho])
  clear ho;go_enter func29,Tryz.ntmps29;go_wp2;rw[<-z8];clear z8;go_region_held3 (λw'=> w'.cell? ⟨w.heap.size,0,ν⟩=φ (ξ κ b.ag)/\ w'.cell? ⟨w.heap.size,1,ν⟩=φ (ζ A1 n1 c1)/\ w'.cell? ⟨w.heap.size,2,ν⟩=φ (ζ A2 n2 c2)/\ w'.cell? ⟨w.heap.size,3,ν⟩=φ (ζ A3 n3 c3)/\Hid (Γ (w.heap.size+1) W0 w'))
   (first|exact⟨CE eM.e k0,CE eM.e k1,CE eM.e k2,CE eM.e k3,eM⟩ |exact⟨CE oQ.e k0,CE oQ.e k1,CE oQ.e k2,CE oQ.e k3,oQ⟩ |exact⟨k0,k1,k2,k3,wO⟩)
   (first
     | (go_at_call 44
        refine(C1.e _ wO.e).mono ?_
        rintro e w4 ⟨rfl,cO⟩;have oQ:=ψ cO;clear cO)
     | (go_at_call 103
        refine(C3.e _ oQ.e).mono ?_
        rintro e w6 ⟨v,ts,rfl,aG,il,fI⟩;obtain⟨A9,n9,c9,rfl⟩:=j8 aG.1;have eM:=ψ fI;clear fI aG il))
  have z6:=eM.e.size;go_wp2
  go_ret2
  exact⟨I0 hd.e.symm rfl,BW.e.trans (eM.e.mono (by omega))⟩
def xk(n:Nat)(f:Nat->Int):List υ:=(Θ n).map λk=>ξ κ (f k)
def S4(n:Nat)(f:Nat->Int):(xk n f).length=n:=by simp[xk]
def V4{n k:Nat}{f:Nat->Int}(h:k<n):(xk n f)[k]?=φ (ξ κ (f k)):=by
 unfold xk;rw[Ahs,Ai2 h];rfl
def adC{n:Nat}{f g:Nat->Int}(h:∀k,k<n->f k=g k):xk n f=xk n g:=by
 unfold xk;exact Ai3 λk hk=>by rw[h k (Ahx.1 hk)]
def akn{n j:Nat}{f g:Nat->Int}{v:Int}(hj:∀k,k<n->g k=if k=j then v else f k):(xk n f).set j (ξ κ v)=xk n g:=by
 apply List.ext_getElem?;intro k;rw[Aiz,S4]
 by_cases hk:k<n
 ·rw[V4 hk,V4 hk,hj k hk]
  by_cases e:j=k
  ·subst e;rw[if_pos rfl,if_pos rfl,if_pos hk]
  ·rw[if_neg e,if_neg (λh=>e h.symm)]
 ·have h1:(xk n g)[k]?=ν:=Ah1 (by rw[S4];omega)
  have h2:(xk n f)[k]?=ν:=Ah1 (by rw[S4];omega)
  rw[h1,h2];split
  ·rename_i e;subst e;rw[if_neg hk]
  ·rfl
def LA{M x:an}{j k:Nat}(hk:k<3):(mU M x j).at k=if k<j then max (M.at k) (x.at k) else M.at k:=by
 have e0:∀L:an,L.at 0=L.a:=λ_=>rfl
 have e1:∀L:an,L.at 1=L.b:=λ_=>rfl
 have e2:∀L:an,L.at 2=L.c:=λ_=>rfl
 have:k=0\/k=1\/k=2:=by omega
 rcases this with rfl|rfl|rfl
 ·simp only[e0,mU]
  split<;>(try split)<;>omega
 ·simp only[e1,mU]
  split<;>(try split)<;>omega
 ·simp only[e2,mU]
  split<;>(try split)<;>omega
def aoY(n:Nat):(madeCells #[ξ κ 0] (n * 1)).toList=xk n λ_=>0:=by
 rw[toList_madeCells_one,Agj];unfold xk
 symm
 rw[List.eq_replicate_iff];simp
def ao1{w:Ψ}{b:ao}{ls:List an}{ts:List (List Int×υ)}{base:Nat}{pv bv tv v:υ}{B:Nat}(hB:B<=w.heap.size)(ai:bg w B b pv bv tv)(hn:b.pieces.length<=3)(aG:tZ w base v ts)(il:ts.map Ai7=ls.map (sx b.pieces.length))
 (dh:∀L∈ls,L.Ok)(hlen:ls.length<=27):
 ύ prog 116 #[η #[ξ κ b.ag,pv,bv,tv],v] w λe w'=>∃u,e=Ω u/\w'.ownsRow w.heap.size 3 1 u b.pieces.length (xk b.pieces.length (cz ls).at)/\Γ w.heap.size w w':=by
 obtain⟨A1,n1,c1,rfl,e1,-⟩:=ai.pieces.Φ;obtain⟨A2,n2,c2,rfl,-⟩:=ai.aF.Φ;obtain⟨A3,n3,c3,rfl,-⟩:=ai.aJ.Φ;obtain⟨A9,n9,c9,rfl⟩:=j8 aG.1;have nG:n9=ls.length:=by rw[Be aG.1,ER il]
 rw[e1] at hn il |-
 obtain⟨i0,cR,cT,aN,ba⟩:=Agv Oo;have Ay:∀w:Ψ,(Instr.makeSlice 33 (ξ κ n1) (ξ κ n1)).run prog w=.ok (ζ (φ ⟨w.heap.size,0,ν⟩) n1 n1) (w.alloc (.cells (madeCells #[ξ κ 0] (n1 * 1)) 3)):=λw=>by
  have hr:=run_makeSlice (P:=prog) w 33 3 i0 _ (U Tryz.underlying33) cR cT .i64 .i64 n1 n1 (by omega) (Int.le_refl _) (by rw[aN];omega) (by rw[ba];omega) (by omega)
  rw[aN] at hr;simpa [Value.cells] using hr
 obtain⟨mc,NF⟩:∃mc,mc=madeCells #[ξ κ 0] (n1 * 1):=⟨_,rfl⟩
 rw[<-NF] at Ay;have HM:Hid (mc.size=n1 * 1/\mc.toList=xk n1 λ_=>0):=ψ ⟨by rw[NF];exact size_madeCells _ _,by rw[NF];exact aoY n1⟩
 have HO:=ψ aG;have HT:=ψ il;have OK:=ψ dh;have Bo:=ψ nG;have afb:n9<=27:=by omega
 clear ai aG il dh NF cR cT aN ba nG e1;go_enter func116,Tryz.ntmps116;go_wp2;obtain⟨W0,z8⟩:∃W0,W0=(w.alloc (Ξ #[ξ κ b.ag,ζ A1 n1 c1,ζ A2 n2 c2,ζ A3 n3 c3] 26)).alloc (.cells mc 3):=⟨_,rfl⟩
 have Z0:W0.heap.size=w.heap.size+2:=by rw[z8];simp
 have B0:Hid (Γ w.heap.size w W0):=ψ (by rw[z8];exact((ώ _ _).alloc (ϊ _) _).alloc (by simp) _)
 have O0:Hid (W0.ownsRow (w.heap.size+1) 3 1 (ζ (φ ⟨w.heap.size+1,0,ν⟩) n1 n1) n1 (xk n1 λ_=>0)):=ψ ⟨by rw[S4];omega,.inr ⟨w.heap.size+1,n1,mc,rfl,ϊ _,by rw[z8];exact uI (by simp),ϊ _,by unfold ϖ;omega,HM.e.1,by rw[HM.e.2,Af8 (by rw[S4];omega)]⟩⟩
 rw[<-z8];clear z8;go_loopw [6] (λu wr=>∃i:Nat,i<=n9/\u=ξ κ i/\Hid (wr.ownsRow (w.heap.size+1) 3 1 (ζ (φ ⟨w.heap.size+1,0,ν⟩) n1 n1) n1 (xk n1 (cz (ls.take i)).at))/\Γ w.heap.size w wr) (λu _=>n9 - (ϗ u).toNat)
 case atStart=>exact⟨0,ϝ _,rfl,ψ (by rw[adC (g:=λ_=>0) (λk hk=>by simp[cz,an.at])];exact O0.e),B0.e⟩
 case round=>
  rename Ψ=>W1
  obtain⟨i,hi,rfl,Ht,hb⟩:=hrel;have HB:=ψ hb;have z1:=hb.size;by_cases al:i<n9
  ·obtain⟨ad,L,A5,c5,rfl,aC,hL,hu,au⟩:=V5 HO.e HT.e al
   have okL:=OK.e L (ϡ hL);obtain⟨M,hM⟩:∃M,M=cz (ls.take i):=⟨_,rfl⟩
   have HX:Hid (cz (ls.take (i+1))=mU M L 3):=ψ (by rw[oJ hL,TF,hM])
   rw[<-hM] at Ht;have RL:=ψ (Ih (l:=sx n1 L) (by rw[Bp];exact hu))
   have HC:=ψ au;have NA:(i:Int)<n9:=by omega
   clear hL au hu hM hb;go_wp2;go_loopw [7] (λz W=>∃j:Nat,j<=n1/\z=ξ κ j/\Hid (W.ownsRow (w.heap.size+1) 3 1 (ζ (φ ⟨w.heap.size+1,0,ν⟩) n1 n1) n1 (xk n1 (mU M L j).at))/\Γ w.heap.size w W) (λz _=>n1 - (ϗ z).toNat)
   case atStart=>exact⟨0,ϝ _,rfl,ψ (by rw[adC (g:=M.at) (λk hk=>by rw[LA (by omega),if_neg (by omega)])];exact Ht.e),HB.e⟩
   case round=>
    rename Ψ=>W2
    obtain⟨j,hj,rfl,U5,hb⟩:=hrel;have dV:=ψ hb;have z2:=hb.size;by_cases rG:j<n1
    ·have akN:(j:Int)<n1:=by omega
     have y0:=HC.e W2 hb;have RZ:=RL.e.still (R':=cH) (Δ.aK hb (ϊ _)) λ_ _ h=>h
     obtain⟨A6,n6,c6,e6,-,-,-,RP⟩:=RZ.Φ;injection e6 with q1 q2 q3
     subst q1 q2 q3;obtain⟨PG,x,cs,rfl,abk,hx,rfl,-,Dd⟩:=RP j rG;rw[E0 L rG] at hx;cases hx;have y1: W2.cell? (PG.add j)=φ (ξ κ (L.at j)):=by have:=Dd 0 _ rfl;simpa using this
     have y2: W2.cell? ⟨w.heap.size+1,j,ν⟩=φ (ξ κ ((mU M L j).at j)):=by
      have:=vT U5.e j _ (V4 rG);rwa[nu] at this
     have y3: W2.frozen? ⟨w.heap.size+1,j,ν⟩=χ:=U5.e.frozenAt j;rw[LA (by omega),if_neg (by omega)] at y2
     have UI:=okL j;have NX:Hid ((xk n1 (mU M L j).at).set j (ξ κ (max (M.at j) (L.at j)))=xk n1 (mU M L (j+1)).at):=ψ (akn λk hk=>by
      rw[LA (by omega),LA (by omega)]
      by_cases e:k=j
      ·subst e;rw[if_pos (by omega),if_pos rfl]
      ·rw[if_neg e]
       by_cases e2:k<j
       ·rw[if_pos (by omega),if_pos e2]
       ·rw[if_neg (by omega),if_neg e2])
     clear RZ RP Dd hb;go_wp2;refine ua 15 (by kernel_rfl) (by kernel_rfl) ?_
     simp only[Agb,Agc,Agd,Age];repeat still_step
     refine Agy ?_
     go_wp2;go_roundw;case rel=>exact⟨j+1,by omega,by go_num,ψ (by
      rw[<-NX.e];exact IG (u:=ξ κ (max (M.at j) (L.at j))) (show World.ownsRow W2.drew _ _ _ _ _ _ from U5.e) (by omega)),(iY dV.e).setCell (p:=⟨w.heap.size+1,j,ν⟩) (by simp) _⟩
     case measure=>simp[ϗ];omega
    ·obtain rfl:j=n1:=by omega
     go_wp2;go_roundw;case rel=>exact⟨i+1,by omega,by go_num,ψ (by
      rw[HX.e,adC (g:=(mU M L j).at) (λk hk=>by rw[LA (by omega),LA (by omega),if_pos (by omega),if_pos hk])]
      exact U5.e),dV.e⟩
     case measure=>simp[ϗ];omega
  ·obtain rfl:i=n9:=by omega
   go_wp2;go_ret;refine⟨_,rfl,?_,HB.e⟩
   have e:ls.take i=ls:=Af8 (by rw[<-Bo.e];exact ϊ _)
   rw[e] at Ht;exact Ht.e.base (by omega)
def aeo{b:ao}{l:List Cut}(ho:cj b (ez b l)=0):zP b l=1↔FJ b (aD b) l=θ:=by
 rw[aeK (λe=>(pq ho).2.2 (by rw[e];rfl)) ho,afo]
def aeu{G:an}{l:List Cut}{i:Int}:∀n,0<=vW G l i n
 |0=>by simp[vW]
 |n+1=>by
  have ih:=aeu (G:=G) (l:=l) (i:=i) n;rw[abS];unfold abB;split
  ·split<;>omega
  ·exact ih
def aet{G:an}{l:List Cut}{i:Int}(hG:∀k,G.at k<=1000)(hl:∀c∈l,c.from_<=40):∀n,vW G l i n<=1040
 |0=>by simp[vW]
 |n+1=>by
  have ih:=aet (i:=i) hG hl n;rw[abS];unfold abB;split
  ·rename_i c e
   have h1:=hl c (ϡ e);have h2:=hG n;split<;>omega
  ·exact ih
def af4(b:ao)(l:List Cut):(BB b l).length=b.aF.length:=by unfold BB;exact Xs _ _ _
def Bq(b:ao)(l:List Cut):List Int:=if yl b l=0 then BB b l else []
def ap3{w:Ψ}{b:ao}{l:List Cut}{pv bv tv lv:υ}{B:Nat}(hB:B<=w.heap.size)(ai:bg w B b pv bv tv)(hl:Row w B 2 Cut.R lv l):
 ύ prog 32 #[η #[ξ κ b.ag,pv,bv,tv],lv] w λe w'=>∃v,e=Ω (μ #[v,ξ κ (yl b l)])/\w'.ownsRow w.heap.size 3 1 v (Bq b l).length ((Bq b l).map (ξ κ))/\Γ w.heap.size w w':=by
 have bT:=ψ ai;have uB:=ψ hl;obtain⟨A1,n1,c1,rfl,e1,-⟩:=ai.pieces.Φ;obtain⟨A2,n2,c2,rfl,e2,h2,dW,jZ⟩:=ai.aF.Φ;obtain⟨A3,n3,c3,rfl,-⟩:=ai.aJ.Φ;obtain⟨A,n,c,rfl,e4,h4,ZA,cV⟩:=hl.Φ;unfold ϖ at dW ZA;obtain⟨i0,cR,cT,aN,ba⟩:=Agv Oo;have HI:=ψ (ϐ cR (ϐ cT (ϐ aN ba)));have R2:=ψ jZ;have R4:=ψ cV;have E2:=ψ e2;have E4:=ψ e4;obtain⟨W0,z8⟩:∃W0,W0=w.alloc (Ξ #[ξ κ b.ag,ζ A1 n1 c1,ζ A2 n2 c2,ζ A3 n3 c3] 26):=⟨_,rfl⟩
 have Z0:W0.heap.size=w.heap.size+1:=by rw[z8];simp
 have BW:Hid (Γ w.heap.size w W0):=ψ (by rw[z8];exact(ώ _ _).alloc (ϊ _) _)
 have kb:Bk W0 w.heap.size 26 #[ξ κ b.ag,ζ A1 n1 c1,ζ A2 n2 c2,ζ A3 n3 c3]:=by rw[z8];exact Bk.new _ _ _
 have k0: W0.cell? ⟨w.heap.size,0,ν⟩=φ (ξ κ b.ag):=kb.cell 0;have k1: W0.cell? ⟨w.heap.size,1,ν⟩=φ (ζ A1 n1 c1):=kb.cell 1;have k2: W0.cell? ⟨w.heap.size,2,ν⟩=φ (ζ A2 n2 c2):=kb.cell 2;have k3: W0.cell? ⟨w.heap.size,3,ν⟩=φ (ζ A3 n3 c3):=kb.cell 3;have KB:=ψ kb;have S0:Hid (Δ B w W0):=ψ (by rw[z8];exact(Δ.refl w).alloc hB _)
 have aB:=ψ (aem (w:=W0) (B:=B) (by omega) (bT.e.still S0.e) (uB.e.still S0.e λ_ _ h=>h))
 obtain⟨sn,yT⟩:∃sn,sn=ez b l:=⟨_,rfl⟩
 rw[<-yT] at aB;have Bt:=ψ yT;obtain⟨os,wF⟩:∃os,os=cj b sn:=⟨_,rfl⟩
 obtain⟨ds,Ds⟩:∃ds,ds=zP b l:=⟨_,rfl⟩
 rw[<-wF,<-Ds] at aB;have wz:=ψ wF;have HDS:=ψ Ds;clear wF yT kb ai hl jZ cV e2 e4 Ds cR cT aN ba;by_cases ho:os=0
 ·subst ho
  have oB:cj b (ez b l)=0:=by rw[<-Bt.e];exact wz.e.symm
  have hv:=iy (pq wz.e.symm).1;by_cases hd:ds=1
  ·subst hd
   have Sc:FJ b (aD b) l=θ:=(aeo oB).1 HDS.e.symm;have Bm:yl b l=0:=by unfold yl;rw[if_neg (by simpa using oB),Sc];rfl
   have HK:Hid (Bq b l=BB b l/\yl b l=0):=ψ ⟨by unfold Bq;rw[if_pos Bm],Bm⟩
   have OK:=ψ (GI hv (pq oB).2.1);have TD:=ψ (uG hv);have HV:=ψ hv;have afb:(aD b).length<=27:=Ct hv;have lQ:n<=3:=by have:=OK.e.len;have:=OK.e.three;have:=E4.e;omega
   have gy:n2<=3:=by have:=hv.nb;have:=E2.e;omega
   have wO:Hid (∀w',Γ (w.heap.size+1) W0 w'->Γ (w.heap.size+1) W0 w'.drew):=ψ λw' h=>iY h
   have CE:∀ {w':Ψ} {j:Nat} {v:υ},Γ (w.heap.size+1) W0 w'-> W0.cell? ⟨w.heap.size,j,ν⟩=φ v-> w'.cell? ⟨w.heap.size,j,ν⟩=φ v:=λhb hv=>(hb.cell (Ai6 _)).trans hv
   have C1:Hid (∀w',Γ (w.heap.size+1) W0 w'->ύ prog 97 #[η #[ξ κ b.ag,ζ A1 n1 c1,ζ A2 n2 c2,ζ A3 n3 c3]] w' λe bq=>∃v ts,e=Ω v/\tZ bq (w.heap.size+1) v ts/\ts.map Ai7=(aD b).map (sx b.pieces.length)/\Γ (w.heap.size+1) W0 bq):=ψ λw' hw=>by
    have hs:=hw.size;exact(T5 (bT.e.still (S0.e.trans (Δ.aK hw (by omega)))) (by omega) HV.e).mono λe bq ⟨v,ts,h,ho,ht,hb⟩=>⟨v,ts,h,ho.base (by omega),ht,hw.trans (hb.mono (by omega))⟩
   have C2:Hid (∀w' v ts,Γ (w.heap.size+1) W0 w'->tZ w' (w.heap.size+1) v ts->ts.map Ai7=(aD b).map (sx b.pieces.length)->ύ prog 116 #[η #[ξ κ b.ag,ζ A1 n1 c1,ζ A2 n2 c2,ζ A3 n3 c3],v] w' λe bq=>∃u,e=Ω u/\bq.ownsRow (w.heap.size+1) 3 1 u b.pieces.length (xk b.pieces.length (cz (aD b)).at)/\Γ (w.heap.size+1) W0 bq):=ψ λw' v ts hw aG il=>by
    have hs:=hw.size;exact(ao1 (B:=B) (by omega) (bT.e.still (S0.e.trans (Δ.aK hw (by omega)))) OK.e.three aG il TD.e afb).mono λe bq ⟨u,h,ho,hb⟩=>⟨u,h,ho.base (by omega),hw.trans (hb.mono (by omega))⟩
   clear oB hv Sc Bm;go_enter func32,Tryz.ntmps32;go_wp2_with (first
    | (rw[<-z8]
       go_at_call 29;refine aB.e.mono ?_;rintro e w4 ⟨rfl,cO⟩
       have jK:Hid (Γ (w.heap.size+1) W0 w4):=ψ (cO.mono (by omega))
       clear cO))
   have HBD:=ψ (iY jK.e);have e0:=CE jK.e k0;have e1:=CE jK.e k1;have e2:=CE jK.e k2;have e3:=CE jK.e k3;go_region_held3 (λw'=> w'.cell? ⟨w.heap.size,0,ν⟩=φ (ξ κ b.ag)/\ w'.cell? ⟨w.heap.size,1,ν⟩=φ (ζ A1 n1 c1)/\ w'.cell? ⟨w.heap.size,2,ν⟩=φ (ζ A2 n2 c2)/\ w'.cell? ⟨w.heap.size,3,ν⟩=φ (ζ A3 n3 c3)/\Hid (Γ (w.heap.size+1) W0 w'))
    (first|exact⟨CE eM.e k0,CE eM.e k1,CE eM.e k2,CE eM.e k3,eM⟩ |exact⟨CE oQ.e k0,CE oQ.e k1,CE oQ.e k2,CE oQ.e k3,oQ⟩ |exact⟨e0,e1,e2,e3,HBD⟩)
    (first
      | (go_at_call 97
         refine(C1.e _ HBD.e).mono ?_
         rintro e w5 ⟨v,ts,rfl,aG,il,eR⟩;obtain⟨A9,n9,c9,rfl⟩:=j8 aG.1;have oQ:=ψ eR;have HO:=ψ aG;have HT:=ψ il;clear eR aG il)
      | (go_at_call 116
         refine(C2.e _ _ _ oQ.e HO.e HT.e).mono ?_
         rintro e w6 ⟨u,rfl,aG,fI⟩;obtain⟨A8,n8,c8,rfl⟩:=j8 aG;have hn8:=Be aG;have HN8:=ψ hn8;have akY:n8=n:=by rw[hn8,<-OK.e.len,E4.e]
         have eM:=ψ fI;have HM:=ψ aG;clear fI aG hn8))
   have z6:=eM.e.size;obtain⟨G,hG⟩:∃G,G=cz (aD b):=⟨_,rfl⟩
   have okG:G.Ok:=by rw[hG];exactλk=>TE (aD b) TD.e k
   have SP:Hid (∀(i:Nat) (x:bR),b.aF[i]?=φ x->(BB b l)[i]?=φ (x.aH - vW G l i n)):=ψ λi x hx=>by
    unfold BB;rw[E4.e,hG];exact afg HV.e (λc hc=>by obtain⟨k,hk⟩:=Aio hc;exact OK.e.kD k c hk) hx n
   have LC:Hid (∀c∈l,0<=c.from_/\c.from_<=40):=ψ λc hc=>by obtain⟨k,hk⟩:=Aio hc;exact(OK.e.kD k c hk).from_
   have jX:0<n:=by have:=HV.e.np;have:=OK.e.len;have:=E4.e;omega
   have QN:=HM.e;rw[HN8.e.symm,<-hG] at QN;obtain⟨g8,rfl⟩:=Ww QN (by omega)
   have g8l:g8<w6.heap.size:=vU QN g8 rfl;have HG:Hid (∀j,j<n-> w6.cell? ⟨g8,j,ν⟩=φ (ξ κ (G.at j))):=ψ λj hj=>by
    have:=vT QN j _ (V4 (by omega))
    rwa[nu] at this
   clear hG QN;subst akY;go_wp2;go_loopw [9,10] (λo u wr=>∃i:Nat,i<=n2/\u=ξ κ i/\Hid (wr.ownsRow w6.heap.size 3 1 o i (((BB b l).take i).map (ξ κ)))/\Γ w6.heap.size w6 wr) (λ_ u _=>n2 - (ϗ u).toNat)
   case atStart=>exact⟨0,ϝ _,rfl,ψ ⟨by simp,.inl ⟨rfl,rfl⟩⟩,ώ _ _⟩
   case round=>
    rename Ψ=>W1
    obtain⟨i,hi,rfl,Ht,hb⟩:=hrel;have aY:=ψ hb;have z1:=hb.size;have kq:=(KB.e.below eM.e (by omega)).below hb (by omega)
    have f2: W1.cell? ⟨w.heap.size,2,ν⟩=φ (ζ A2 n2 c2):=kq.cell 2;have st:Δ B w W1:=(S0.e.trans (Δ.aK eM.e (by omega))).trans (Δ.aK hb (by omega))
    have ST:=ψ st;clear kq hb;by_cases al:i<n2
    ·obtain⟨cI,x,jQ,rfl,fV,hx,⟨kv,rfl,dH,dj⟩,-,ie⟩:=R2.e i al
     have g2:=bK ie st fV 0 rfl;have NA:(i:Int)<n2:=by omega
     have rL:=(HV.e.bp x (ϡ hx)).aH;have HX:=ψ hx;have xD:(cI.add (i * 3)).block<W1.heap.size:=by rw[cq];omega
     clear ie hx dj st;go_wp2;go_loopw [11,12] (λe z W=>∃j:Nat,j<=n8/\z=ξ κ j/\e=ξ κ (vW G l i j)/\∃nq,W=W1.drewN nq) (λ_ z _=>n8 - (ϗ z).toNat)
     case atStart=>exact⟨0,ϝ _,rfl,rfl,0,rfl⟩
     case round=>
      obtain⟨j,hj,rfl,rfl,nq,rfl⟩:=hrel;have he0:=aeu (G:=G) (l:=l) (i:=i) j;have he1:=aet (G:=G) (l:=l) (i:=i) (λk=>(okG k).2) (λc hc=>(LC.e c hc).2) j
      by_cases rG:j<n8
      ·have akN:(j:Int)<n8:=by omega
       obtain⟨ad,cu,cs,rfl,aC,hcu,rfl,-,au⟩:=R4.e j rG;have h0:=cC au ST.e aC rfl;have h1:=bK au ST.e aC 0 rfl;have y0: W1.cell? ⟨g8,j,ν⟩=φ (ξ κ (G.at j)):=(aY.e.cell (p:=⟨g8,j,ν⟩) g8l).trans (HG.e j rG);have b7:=LC.e cu (ϡ hcu);have hGj:=okG j;obtain⟨gw,vg⟩:=b7;obtain⟨aqO,aqP⟩:=hGj;have NX:Hid (vW G l i (j+1)=if cu.bp=i then max (vW G l i j) (cu.from_+G.at j) else vW G l i j):=ψ (by rw[abS];unfold abB;rw[hcu])
       clear au hcu;obtain⟨en,QM⟩:∃en,en=vW G l i j:=⟨_,rfl⟩
       rw[<-QM] at NX he0 he1 |-
       clear QM;by_cases JY:cu.bp=(i:Int)
       ·have Hc:(cu.bp==(i:Int))=θ:=by simpa using JY
        have Ec:ϛ.wrap (cu.from_+G.at j)=cu.from_+G.at j:=IntWalk.i64_in _ (by omega)
        have ET:=NX.e;rw[if_pos JY] at ET;have X2:=ψ ET;clear ET JY;go_wp2;refine ua 12 (by kernel_rfl) (by kernel_rfl) ?_
        simp only[Agb,Agc,Agd,Age];repeat still_step
        refine Agy ?_
        go_wp2;go_roundw;case rel=>exact⟨j+1,by omega,by go_num,by rw[X2.e],_,rfl⟩
        case measure=>simp[ϗ];omega
       ·have Hc:(cu.bp==(i:Int))=χ:=by simpa using JY
        have ET:=NX.e;rw[if_neg JY] at ET;have X2:=ψ ET;clear ET JY;go_wp2;go_roundw;case rel=>exact⟨j+1,by omega,by go_num,by rw[X2.e],_,rfl⟩
        case measure=>simp[ϗ];omega
      ·obtain rfl:j=n8:=by omega
       have NX:Hid ((BB b l).take (i+1)=(BB b l).take i++ [x.aH - vW G l i j]):=ψ (oJ (SP.e i x HX.e));obtain⟨en,QM⟩:∃en,en=vW G l i j:=⟨_,rfl⟩
       rw[<-QM] at NX he0 he1 |-
       clear QM;go_wp2_with (first
            | (at_builtin
               refine F2 rfl (.tmp 60) (.tmp 69) 33 rfl w6.heap.size 3 i0 (ξ κ 0) 1 8 (U Tryz.underlying33) HI.e.1 HI.e.2.1 HI.e.2.2.1 HI.e.2.2.2 rfl (by decide) _ i _ rfl ((Pa Ht.e nq).alloc _) _ 1 0 _ rfl (Fh _ 1 [ξ κ (x.aH - en)] rfl (by omega) (ϝ _)) (V2 [x.aH - en]) (by simp only[ϖ];omega) (by omega) (by simp;omega) ?_
               intro v3 W4 tG Am;have jM:=ψ tG;have Bs:=ψ Am;clear tG Am))
       go_roundw;case rel=>exact⟨i+1,by omega,by go_num,ψ (by rw[NX.e,Ahy];exact jM.e),
            ((jq aY.e nq).alloc (by simp;omega) _).grown Bs.e (by simp;omega) (λk hk=>ei Ht.e k hk)⟩
       case measure=>simp[ϗ];omega
    ·obtain rfl:i=n2:=by omega
     go_wp2
     go_ret2
     refine⟨_,CH rfl HK.e.2.symm,?_,BW.e.trans ((eM.e.mono (by omega)).trans (aY.e.mono (by omega)))⟩
     rw[HK.e.1,af4,E2.e];have e:(BB b l).take i=BB b l:=Af8 (by rw[af4,E2.e];exact ϊ _)
     have:=Ht.e;rw[e] at this;exact this.base (by omega)
  ·have Sc:FJ b (aD b) l=χ:=by
    cases e:FJ b (aD b) l with
    |false=>rfl
    |true=>exact absurd (HDS.e.trans ((aeo oB).2 e)) hd
   have Bm:yl b l=8:=by unfold yl;rw[if_neg (by simpa using oB),Sc];rfl
   have HK:Hid (Bq b l=[]/\yl b l=8):=ψ ⟨by unfold Bq;rw[if_neg (by rw[Bm];decide)],Bm⟩
   have hdz:(ds !=1)=θ:=by simpa using hd
   clear oB hv Sc Bm hd;go_enter func32,Tryz.ntmps32;go_wp2_with (first
    | (rw[<-z8]
       go_at_call 29;refine aB.e.mono ?_;rintro e w4 ⟨rfl,cO⟩
       have jK:Hid (Γ w.heap.size w w4):=ψ (BW.e.trans (cO.mono (by omega)))
       clear cO))
   go_ret2
   exact⟨_,CH rfl HK.e.2.symm,by rw[HK.e.1];exact⟨rfl,.inl ⟨rfl,rfl⟩⟩,jK.e⟩
 ·have hz:(os !=0)=θ:=by simpa using ho
  have oB:cj b (ez b l)=os:=by rw[<-Bt.e];exact wz.e.symm
  have Bm:yl b l=os:=by unfold yl;rw[if_pos (by rw[oB];exact ho),oB]
  have HK:Hid (Bq b l=[]/\yl b l=os):=ψ ⟨by unfold Bq;rw[if_neg (by rw[Bm];exact ho)],Bm⟩
  clear ho Bm oB;go_enter func32,Tryz.ntmps32;go_wp2_with (first
   | (rw[<-z8]
      go_at_call 29;refine aB.e.mono ?_;rintro e w4 ⟨rfl,cO⟩
      have jK:Hid (Γ w.heap.size w w4):=ψ (BW.e.trans (cO.mono (by omega)))
      clear cO))
  go_ret2
  exact⟨_,CH rfl HK.e.2.symm,by rw[HK.e.1];exact⟨rfl,.inl ⟨rfl,rfl⟩⟩,jK.e⟩
def yQ(b:ao)(k:Int):List Int:=if cj b (Bh b k)=0 then Il b k.toNat else []
def af0{b:ao}{k:Int}(h:cj b (Bh b k)=0):∃i:Nat,k=i/\i<b.pieces.length:=by
 have h1:=(pq h).2.1;unfold Bh at h1;split at h1
 ·rename_i h2
  have h3:=nJ h2;exact⟨k.toNat,by omega,by omega⟩
 ·cases h1
def apG(b:ao)(k:Nat):yO ((aD b).map (·.at k))=Il b k:=apK (afS _) (akS b k)
def aob{w:Ψ}{b:ao}{k:Int}{pv bv tv:υ}{B:Nat}(hB:B<=w.heap.size)(ai:bg w B b pv bv tv):
 ύ prog 24 #[η #[ξ κ b.ag,pv,bv,tv],ξ κ k] w λe w'=>∃v,e=Ω (μ #[v,ξ κ (cj b (Bh b k))])/\w'.ownsRow w.heap.size 3 1 v (yQ b k).length ((yQ b k).map (ξ κ))/\Γ w.heap.size w w':=by
 by_cases h:cj b (Bh b k)=0
 ·obtain⟨i,rfl,-⟩:=af0 h
  have e:yQ b (i:Int)=Il b i:=by unfold yQ;rw[if_pos h];rfl
  rw[h,e];exact ag8 hB ai h
 ·have e:yQ b k=[]:=by unfold yQ;rw[if_neg h]
  rw[e];exact(aoe hB ai h).mono λe w' ⟨h1,h2⟩=>⟨_,h1,⟨rfl,.inl ⟨rfl,rfl⟩⟩,h2⟩
def aod{w:Ψ}{b:ao}{k:Int}{pv bv tv:υ}{B:Nat}(ai:bg w B b pv bv tv)(hB:B<=w.heap.size):
 ύ prog 25 #[η #[ξ κ b.ag,pv,bv,tv],ξ κ k] w λe w'=>∃v,e=Ω (μ #[v,ξ κ (cj b (Bh b k))])/\w'.ownsRow w.heap.size 3 1 v (yQ b k).length ((yQ b k).map (ξ κ))/\Γ w.heap.size w w':=by
 have bT:=ψ ai;obtain⟨A1,n1,c1,rfl,e1,h1,eA,-⟩:=ai.pieces.Φ;obtain⟨A2,n2,c2,rfl,-⟩:=ai.aF.Φ;obtain⟨A3,n3,c3,rfl,-⟩:=ai.aJ.Φ;unfold ϖ at eA;obtain⟨i0,cR,cT,aN,ba⟩:=Agv Oo;have HI:=ψ (ϐ cR (ϐ cT (ϐ aN ba)));have E1:=ψ e1;obtain⟨W0,z8⟩:∃W0,W0=w.alloc (Ξ #[ξ κ b.ag,ζ A1 n1 c1,ζ A2 n2 c2,ζ A3 n3 c3] 26):=⟨_,rfl⟩
 have Z0:W0.heap.size=w.heap.size+1:=by rw[z8];simp
 have BW:Hid (Γ w.heap.size w W0):=ψ (by rw[z8];exact(ώ _ _).alloc (ϊ _) _)
 have kb:Bk W0 w.heap.size 26 #[ξ κ b.ag,ζ A1 n1 c1,ζ A2 n2 c2,ζ A3 n3 c3]:=by rw[z8];exact Bk.new _ _ _
 have k0: W0.cell? ⟨w.heap.size,0,ν⟩=φ (ξ κ b.ag):=kb.cell 0;have k1: W0.cell? ⟨w.heap.size,1,ν⟩=φ (ζ A1 n1 c1):=kb.cell 1;have k2: W0.cell? ⟨w.heap.size,2,ν⟩=φ (ζ A2 n2 c2):=kb.cell 2;have k3: W0.cell? ⟨w.heap.size,3,ν⟩=φ (ζ A3 n3 c3):=kb.cell 3;have KB:=ψ kb;have S0:Hid (Δ B w W0):=ψ (by rw[z8];exact(Δ.refl w).alloc hB _)
 have Vf:(if bX k 0 ((n1:Int) - 1) then(0:Int) else 6)=Bh b k:=by unfold Bh;rw[e1]
 obtain⟨is,his⟩:∃is,is=bX k 0 ((n1:Int) - 1):=⟨_,rfl⟩
 rw[<-his] at Vf;have C1:Hid (∀w',Γ (w.heap.size+1) W0 w'->ύ prog 105 #[η #[ξ κ b.ag,ζ A1 n1 c1,ζ A2 n2 c2,ζ A3 n3 c3],ξ κ k] w' λe bq=>e=Ω (.bool is)/\Γ (w.heap.size+1) W0 bq):=ψ λw' hw=>by
  rw[his];exact(anM (by omega) w').mono λe bq ⟨h,hb⟩=>⟨h,hw.trans (hb.mono (by have:=hw.size;omega))⟩
 have C2:Hid (∀w',ύ prog 104 #[.bool is,ξ κ 6] w' λe bq=>e=Ω (ξ κ (Bh b k))/\w'=bq):=ψ λw'=>(Bz is 6 w').mono λe bq ⟨h,h'⟩=>⟨by rw[h,Vf],h'⟩
 have C3:Hid (∀w',Γ (w.heap.size+1) W0 w'->ύ prog 103 #[η #[ξ κ b.ag,ζ A1 n1 c1,ζ A2 n2 c2,ζ A3 n3 c3],ξ κ (Bh b k)] w' λe bq=>∃v ts,e=Ω (μ #[v,ξ κ (cj b (Bh b k))])/\tZ bq (w.heap.size+1) v ts/\ts.map Ai7=B2 b (Bh b k)/\Γ (w.heap.size+1) W0 bq):=ψ λw' hw=>by
  have hs:=hw.size;exact(adB (bT.e.still (S0.e.trans (Δ.aK hw (by omega)))) (by omega)).mono λe bq ⟨v,ts,h,ho,ht,hb⟩=>⟨v,ts,h,ho.base (by omega),ht,hw.trans (hb.mono (by omega))⟩
 obtain⟨sn,yT⟩:∃sn,sn=Bh b k:=⟨_,rfl⟩
 rw[<-yT] at C2 C3;have Bt:=ψ yT;have wO:Hid (Γ (w.heap.size+1) W0 W0.drew):=ψ (iY (ώ _ _));have CE:∀ {w':Ψ} {j:Nat} {v:υ},Γ (w.heap.size+1) W0 w'-> W0.cell? ⟨w.heap.size,j,ν⟩=φ v-> w'.cell? ⟨w.heap.size,j,ν⟩=φ v:=λhb hv=>(hb.cell (Ai6 _)).trans hv
 rw[<-yT];clear Vf yT his kb ai e1 cR cT aN ba;obtain⟨os,wF⟩:∃os,os=cj b sn:=⟨_,rfl⟩
 rw[<-wF] at C3 |-
 have wz:=ψ wF;clear wF;go_enter func25,Tryz.ntmps25;go_wp2;rw[<-z8];clear z8;go_region_held3 (λw'=> w'.cell? ⟨w.heap.size,0,ν⟩=φ (ξ κ b.ag)/\ w'.cell? ⟨w.heap.size,1,ν⟩=φ (ζ A1 n1 c1)/\ w'.cell? ⟨w.heap.size,2,ν⟩=φ (ζ A2 n2 c2)/\ w'.cell? ⟨w.heap.size,3,ν⟩=φ (ζ A3 n3 c3)/\Hid (Γ (w.heap.size+1) W0 w'))
  (first|exact⟨CE eM.e k0,CE eM.e k1,CE eM.e k2,CE eM.e k3,eM⟩ |exact⟨CE oQ.e k0,CE oQ.e k1,CE oQ.e k2,CE oQ.e k3,oQ⟩ |exact⟨k0,k1,k2,k3,wO⟩)
  (first
    | (go_at_call 105
       refine(C1.e _ wO.e).mono ?_
       rintro e w4 ⟨rfl,cO⟩;have oQ:=ψ cO;clear cO)
    | (go_at_call 104
       refine(C2.e _).mono ?_
       rintro e w5 ⟨rfl,rfl⟩)
    | (go_at_call 103
       refine(C3.e _ oQ.e).mono ?_
       rintro e w6 ⟨v,ts,rfl,aG,il,fI⟩;obtain⟨A9,n9,c9,rfl⟩:=j8 aG.1;have eM:=ψ fI;have HO:=ψ aG;have HT:=ψ il;clear fI aG il))
 ·have z6:=eM.e.size
  by_cases ho:os=0
  ·subst ho
   have ab:cj b (Bh b k)=0:=by rw[<-Bt.e];exact wz.e.symm
   obtain⟨kn,rfl,da⟩:=af0 ab;have hv:=iy (pq ab).1;have HV:=ψ hv;have afb:(aD b).length<=27:=Ct hv;have YY:=ψ (HT.e.trans (SI wz.e.symm));have nG:n9=(aD b).length:=by rw[Be HO.e.1];exact ER YY.e
   have Bo:=ψ nG;have aeX:n9<=27:=by omega
   have HK:Hid (yQ b (kn:Int)=yO ((aD b).map (·.at kn))):=ψ (by unfold yQ;rw[if_pos ab,apG];rfl)
   obtain⟨np,kH⟩:∃np,np=b.pieces.length:=⟨_,rfl⟩
   rw[<-kH] at da YY;have ap8:(kn:Int)<np:=by omega
   clear ab hv nG kH;go_wp2;go_loopw [8,9] (λo u wr=>∃i:Nat,i<=n9/\u=ξ κ i/\Hid (wr.ownsRow w6.heap.size 3 1 o i (((aD b).take i).map λL=>ξ κ (L.at kn)))/\Γ w6.heap.size w6 wr) (λ_ u _=>n9 - (ϗ u).toNat)
   case atStart=>exact⟨0,ϝ _,rfl,ψ ⟨by simp,.inl ⟨rfl,rfl⟩⟩,ώ _ _⟩
   case round=>
    rename Ψ=>wq
    obtain⟨i,hi,rfl,Ht,hb⟩:=hrel;have HB:=ψ hb;have zq:=hb.size;by_cases al:i<n9
    ·obtain⟨ad,L,A5,c5,rfl,aC,hL,hu,au⟩:=V5 HO.e YY.e al
     have y0:=au wq hb;have y1:(ad.add i).block<wq.heap.size:=by rw[cq];omega
     have NA:(i:Int)<n9:=by omega
     have RZ:=(Ih (l:=sx np L) (by rw[Bp];exact hu)).still (R':=cH) (Δ.aK hb (ϊ _)) λ_ _ h=>h
     obtain⟨A6,n6,c6,e6,-,-,-,RP⟩:=RZ.Φ;injection e6 with q1 q2 q3
     subst q1 q2 q3;obtain⟨PG,x,cs,rfl,abk,hx,rfl,-,Dd⟩:=RP kn da;rw[E0 L da] at hx;cases hx;have y2: wq.cell? (PG.add kn)=φ (ξ κ (L.at kn)):=by have:=Dd 0 _ rfl;simpa using this
     have HX:=ψ hL;clear au hu hL hb RZ RP Dd;go_wp2_with (first
      | (at_builtin
         refine F2 rfl (.tmp 28) (.tmp 36) 33 rfl w6.heap.size 3 i0 (ξ κ 0) 1 8 (U Tryz.underlying33) HI.e.1 HI.e.2.1 HI.e.2.2.1 HI.e.2.2.2 rfl (by decide) _ i _ rfl (Ht.e.alloc _) _ 1 0 _ rfl (Fh _ 1 [ξ κ (L.at kn)] rfl (by omega) (ϝ _)) (V2 [L.at kn]) (by simp only[ϖ];omega) (by omega) (by simp;omega) ?_
         intro v3 W4 tG Am;have jM:=ψ tG;have Bs:=ψ Am;clear tG Am))
     go_roundw;case rel=>exact⟨i+1,by omega,by go_num,ψ (by rw[oJ HX.e,Ahy];exact jM.e),
      (HB.e.alloc zq _).grown Bs.e (by simp;omega) (λk hk=>ei Ht.e k hk)⟩
     case measure=>simp[ϗ];omega
    ·obtain rfl:i=n9:=by omega
     have e:(aD b).take i=aD b:=Af8 (by rw[<-Bo.e];exact ϊ _)
     have aG:=Ht.e;rw[e] at aG;obtain⟨f,hf⟩:∃f,f=(aD b).map (·.at kn):=⟨_,rfl⟩
     have ql:f.length=i:=by rw[hf,Ah6,<-Bo.e]
     have hr:=Ih (l:=f) (show wq.ownsRow w6.heap.size 3 1 _ f.length (f.map (ξ κ)) by rw[ql,hf,Ait];exact aG)
     have L1:=ψ (afW hr (ϊ _) (by omega))
     rw[<-hf] at HK;clear aG hr e hf ql hb;go_wp2_with (first
      | (go_at_call 106;refine L1.e.mono ?_;rintro e w7 ⟨u,rfl,U0,jx⟩
         have QW:=ψ jx;have KV:=ψ U0;clear jx U0))
     go_ret2
     refine⟨_,CH rfl rfl,?_,BW.e.trans ((eM.e.mono (by omega)).trans ((HB.e.mono (by omega)).trans (QW.e.mono (by omega))))⟩
     rw[HK.e];exact KV.e.base (by omega)
  ·have hz:(os !=0)=θ:=by simpa using ho
   have HK:Hid (yQ b k=[]):=ψ (by unfold yQ;rw[if_neg (by rw[<-Bt.e,<-wz.e];exact ho)])
   clear ho;go_wp2
   go_ret2
   exact⟨_,CH rfl rfl,by rw[HK.e];exact⟨rfl,.inl ⟨rfl,rfl⟩⟩,BW.e.trans (eM.e.mono (by omega))⟩
end Go.Tw
