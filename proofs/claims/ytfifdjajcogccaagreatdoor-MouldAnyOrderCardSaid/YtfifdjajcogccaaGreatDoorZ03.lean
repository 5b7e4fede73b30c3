import Derived.Test.YtfifdjajcogccaaGreatDoorZ02
import Derived.Test.YtfifdjajcogccaaGreatDoorZ01
import Derived.Deep.RegionWith
import Derived.Deep.RegionLaw
import Derived.Shelf.Small.Bits
import Derived.Laws.AppendOwnNone
set_option linter.all false
set_option maxHeartbeats 64000000
set_option maxRecDepth 100000
open And renaming intro -> Aee
open Bool renaming false_eq_true -> Aay, or_eq_true -> Aii, and_eq_true -> Aaz, or_eq_false_iff -> Aij, and_eq_false_iff -> Aik
open Classical renaming byContradiction -> Aa1
open Go renaming World -> Abc, Calls -> Aet, maxLen -> Aes, Addr -> Aa5, info_parts -> Agy, heap_alloc_new -> Ail, wpList_append_own -> Agz, TypeId -> Aa8, undef -> Aeq
open Go.IntKind renaming i64 -> Adf
open Go.Lib renaming hid -> Afl, run_eql_slice_nil -> Aim, compareInt -> Ain, compactUpTo -> Aio
open Go.RowKit renaming intOf -> Ahb
open Go.RowKit.Below renaming refl -> Aft, heap_setCell -> Ahc
open Go.Value renaming int -> Afx
open Go.World renaming cell?_alloc_lt -> Afy, cell?_setCell_far -> Aip
open Int renaming ofNat -> Aiq, le_trans -> Air, tmod_eq_emod_of_nonneg -> Ais
open List renaming mem_of_getElem? -> Agd, take_add_one -> Ait, getElem?_map -> Ahy, flatMap_cons -> Ahw, getElem?_append_right -> Ah1, nil_append -> Ahs, getElem?_of_mem -> Aiu, set_cons_succ -> Aiv, getElem?_eq_some_iff -> Af7, length_map -> Aib, mem_map -> Ah2, getElem?_eq_getElem -> Af6, mem_append -> Af5, drop_eq_getElem_cons -> Aiw, drop_eq_nil_of_le -> Aix, range -> Agj, range_succ -> Ah5, mergeSort_perm -> Aiy, pairwise_mergeSort -> Aiz, foldl_nil -> Ai0, exists_of_findSome?_eq_some -> Ah4, findSome?_eq_some_iff -> Ai1, length_take -> Ai2, getElem?_take_of_lt -> Ai3, mem_cons -> Af2, filter_cons_of_pos -> Ai4, filter_cons_of_neg -> Ai5, getElem_of_mem -> Ai6, pairwise_iff_getElem -> Ai7, any_eq_true -> Ai8, take_zero -> Agg, getElem?_take -> Ai9, any_eq_false -> Aja, take_succ_cons -> Agf, drop_succ_cons -> Agh, getElem?_reverse -> Ajb, length_reverse -> Ajc, mem_cons_self -> Ajd, mem_cons_of_mem -> Aje
open Nat renaming le_refl -> Ad4, zero_le -> Agl, le_trans -> Ad5, zero_add -> Ajf, le_of_lt -> Agq, le_of_eq -> Agn, mul_one -> Ago, lt_succ_iff_lt_or_eq -> Agm
open Prod renaming fst -> Ajg
namespace Go.Tw
variable [Go.Tw.aR]
open Go Go.Proofs Go.RowKit
def akj{a c a' c':Int}{s:Value}(h:a=a')(h':c=c'):Ending.returned (.tuple #[.int .i64 a,.int .i64 c,s])=.returned (.tuple #[.int .i64 a',.int .i64 c',s]):=by rw[h,h']
def aha{L:an}(h:L.Ok){k:Nat}(hk:k<3):lI (L.at k):=by
 have:=h k;unfold lI;omega
def Zn{w:Abc}{b:ao}{pv bv tv:Value}{B:Nat}(hB:B<=w.heap.size)(ai:bg w B b pv bv tv)(h:cj b 0=0):
 Aet prog 61 #[.agg #[.int .i64 b.ag,pv,bv,tv]] w λe w'=>e=.returned (.tuple #[.int .i64 (Cu b).1,.int .i64 (Cu b).2,.int .i64 0])/\Below w.heap.size w w':=by
 have st:Still B w (w.alloc (.cells #[.int .i64 b.ag,pv,bv,tv] 26)):=(Still.refl w).alloc hB _;have aB:=Afl (yL (w:=(w.alloc (.cells #[.int .i64 b.ag,pv,bv,tv] 26))) (B:=B) (by simp;omega) (ai.still st) (Gp (ai.still st)) h)
 have hz:=pq h;have hv:=iy hz.1;have aeZ:=Ct hv;have Zd:=Afl (uG hv);obtain⟨A1,n1,c1,rfl,e1,h1,eA,-⟩:=ai.pieces.open_;obtain⟨A2,n2,c2,rfl,-⟩:=ai.aF.open_;obtain⟨A3,n3,c3,rfl,-⟩:=ai.aJ.open_;have lQ:n1<=3:=by have:=hv.np;omega
 have E1:=Afl e1;unfold Aes at eA;clear ai st hz hv h e1;go_enter func61,Tryz.ntmps61;go_wp2_with (first
  | (go_at_call 98;refine aB.out.mono ?_;rintro e w1 ⟨sv,rfl,aG,ae⟩
     obtain⟨A9,n9,c9,rfl,cY,nG,py,iN⟩:=aG.row.open_;have lF:=Afl iN;have pO:=Afl cY;have kk:Hid (Bk w1 w.heap.size 26 #[.int .i64 b.ag,.slice A1 n1 c1,.slice A2 n2 c2,.slice A3 n3 c3]):=Afl ((Bk.new w _ _).below ae (by simp))
     have aN:w.heap.size+1<=w1.heap.size:=by have:=ae.size;simpa using this
     have afb:n9<=27:=by omega
     have aY:Hid (Below w.heap.size w w1):=Afl ((((Aft _ _).alloc (Ad4 _) _)).trans (ae.mono (by simp)));clear ae aG cY iN))
 have hB0:w.heap.size<w1.heap.size:=by omega
 have KH:Hid (n9=(aD b).length):=Afl pO.out.symm;have q4:(w1.alloc (.cells #[.int .i64 b.ag,.slice A1 n1 c1,.slice A2 n2 c2,.slice A3 n3 c3,.slice A9 n9 c9] 122)).cell? ⟨w1.heap.size,4,none⟩=some (.slice A9 n9 c9):=(Bk.new _ _ _).cell 4;have q1:(w1.alloc (.cells #[.int .i64 b.ag,.slice A1 n1 c1,.slice A2 n2 c2,.slice A3 n3 c3,.slice A9 n9 c9] 122)).cell? ⟨w.heap.size,1,none⟩=some (.slice A1 n1 c1):=(kk.out.alloc _).cell 1;go_region
 go_wp2;clear q4 q1;go_loopw [2,3,25] (λu2 u3 u wr=>∃k:Nat,k<=n1/\u=.int .i64 k/\u2=.int .i64 (gZ b k).1/\u3=.int .i64 (gZ b k).2/\Hid (Below (w1.heap.size+1) (w1.alloc (.cells #[.int .i64 b.ag,.slice A1 n1 c1,.slice A2 n2 c2,.slice A3 n3 c3,.slice A9 n9 c9] 122)).drew wr)) (λ_ _ u _=>n1 - (Ahb u).toNat)
 case atStart=>exact⟨0,Agl _,rfl,rfl,by rw[KH.out];rfl,Afl (Aft _ _)⟩
 case round=>
  obtain⟨wo,rfl⟩:∃wo:Abc,wo=wr:=⟨_,rfl⟩
  obtain⟨k,hk,rfl,rfl,rfl,hb⟩:=hrel;have bt:=Ry b k;obtain⟨pk,AD⟩:∃pk,pk=(gZ b k).1:=⟨_,rfl⟩
  obtain⟨lk,Hp⟩:∃lk,lk=(gZ b k).2:=⟨_,rfl⟩
  rw[<-AD,<-Hp] at bt |-
  have zp:=Afl (Aee AD Hp);clear AD Hp;have rV:w1.heap.size+1<=wo.heap.size:=by have:=hb.out.size;simpa using this
  have kb:Bk wo w1.heap.size 122 #[.int .i64 b.ag,.slice A1 n1 c1,.slice A2 n2 c2,.slice A3 n3 c3,.slice A9 n9 c9]:=Bk.below (w:=(w1.alloc (.cells #[.int .i64 b.ag,.slice A1 n1 c1,.slice A2 n2 c2,.slice A3 n3 c3,.slice A9 n9 c9] 122)).drew) (Bk.new w1 _ _) hb.out (by simp)
  have kb4:(wo.alloc (.map #[] 0)).cell? ⟨w1.heap.size,4,none⟩=some (.slice A9 n9 c9):=(kb.alloc _).cell 4;have vG:w1.heap.size<wo.heap.size:=by omega
  have An:w1.heap.size<=wo.heap.size:=by omega
  clear kb;by_cases al:k<n1
  ·have fh:k<3:=by omega
   have aeJ:(k:Int)<3:=by omega
   go_wp2_with (first| (refine anc rfl 174 rfl ?_))
   go_loopw [8,32] (λu8 u wr=>∃j:Nat,j<=n9/\u=.int .i64 j/\u8=.int .i64 (lZ ((aD b).map (·.at k)) j)/\Hid (oN wr wo.heap.size j (((aD b).map (·.at k)).take j))/\Hid (Below wo.heap.size wo wr)) (λ_ u _=>n9 - (Ahb u).toNat)
   case atStart=>exact⟨0,Agl _,rfl,rfl,Afl (oN.made wo),Afl ((Aft _ _).alloc (Ad4 _) _)⟩
   case round=>
    obtain⟨wp,rfl⟩:∃wp:Abc,wp=wr:=⟨_,rfl⟩
    obtain⟨j,hj,rfl,rfl,HC,ak⟩:=hrel;have hm:=OW ((aD b).map (·.at k)) j
    obtain⟨mj,NG⟩:∃mj,mj=lZ ((aD b).map (·.at k)) j:=⟨_,rfl⟩
    rw[<-NG] at hm |-
    have Q6:=Afl NG;clear NG;have Vw:wo.heap.size<wp.heap.size:=HC.out.lt;by_cases hjt:j<n9
    ·obtain⟨ad,x,cs,kX,aC,hx,rfl,-,au⟩:=lF.out j hjt
     subst kX;have ow:Below w1.heap.size w1 (w1.alloc (.cells #[.int .i64 b.ag,.slice A1 n1 c1,.slice A2 n2 c2,.slice A3 n3 c3,.slice (some ad) n9 c9] 122)).drew:=iY ((Aft w1.heap.size w1).alloc (Ad4 _) _);have TX:Below w1.heap.size w1 wp:=(ow.trans (hb.out.mono (Nat.le_succ _))).trans (ak.out.mono (by omega))
     have nV:Hid (Below w1.heap.size w1 wp):=Afl TX;clear ow TX;have st:Still w1.heap.size w1 wp:=Still.aK nV.out (Ad4 _);have g0:=cC au st aC rfl;have g1:=bK au st aC 0 rfl;have g2:=bK au st aC 1 rfl;have xD:(ad.add (j * 3)).block<wp.heap.size:=by rw[cq];omega
     have HX:=Afl hx;obtain⟨v,hv⟩:∃v,v=x.at k:=⟨_,rfl⟩
     have Hz:lI v:=by rw[hv];exact aha (Zd.out x (Agd hx)) fh
     have SM:=Afl Hz;have gk:(wp.alloc (.cells #[.int .i64 x.a,.int .i64 x.b,.int .i64 x.c] 128)).cell? ⟨wp.heap.size,k,none⟩=some (.int .i64 v):=by rw[hv];exact(Bk.new wp _ _).cell k|>.trans (an.uR (n:=x) fh)
     have HV:=Afl hv;have Ua:((aD b).map (·.at k)).take (j+1)=((aD b).map (·.at k)).take j++ [v]:=by
      rw[Ait,Ahy,hx];simp[hv]
     have Hk:((aD b).map (·.at k)).getD j 0=v:=by
      rw[List.getD_eq_getElem?_getD,Ahy,hx];simp[hv]
     have Kw:=Afl (Aee Ua Hk);obtain⟨cn,Na⟩:∃cn,cn=(((aD b).map (·.at k)).take j).count v:=⟨_,rfl⟩
     have an7:cn<=j:=by rw[Na];exact Ad5 List.count_le_length (by simp;omega)
     have yo:Adf.wrap ((cn:Int)+1)=(cn:Int)+1:=by rw[IntWalk.i64_left];exact IntWalk.wrap64_in _ (by omega)
     have Kv:=Afl Na;have aoz:n9<Aes:=by unfold Aes;omega
     clear hx au st Hz hv Ua Hk Na;go_wp2_with (first
      | (at_lookup;refine Yd rfl (.tmp 36) (.tmp 39) rfl wo.heap.size j _ v SM.out rfl rfl (HC.out.kept (World.grownBy_alloc wp _ none) nofun) ?_;rw[<-Kv.out])
      | (at_mapUpdate;refine ane rfl (.tmp 36) (.tmp 39) (.tmp 41) rfl wo.heap.size j _ v SM.out (by omega) ?hc rfl rfl (by rw[<-Kv.out];try rfl) (HC.out.kept (World.grownBy_alloc wp _ none) nofun) ?_
         case hc=>(rw[<-Kv.out];unfold Aes;omega)
         rw[<-Kw.out.1];intro w2 ef kG;have wP:=Afl ef;have gk2: w2.cell? ⟨wp.heap.size,k,none⟩=some (.int .i64 v):=Z9 kG Vw fh HV.out;have YD:=Afl kG;clear ef kG)
      | (at_lookup;refine Yd rfl (.tmp 43) (.tmp 46) rfl wo.heap.size (j+1) _ v SM.out rfl rfl wP.out ?_))
     go_roundw;case rel=>exact⟨j+1,by omega,by go_num,by
      rw[Q6.out];conv=>rhs;unfold lZ
      rw[Kw.out.1,Kw.out.2],wP,
      Afl ((ak.out.trans ((Aft wo.heap.size wp).alloc (by omega) _)).grown YD.out (by simp;omega) (λq hq=>by injection hq with hq;omega))⟩
     case measure=>simp[Ahb];omega
    ·obtain rfl:j=n9:=by omega
     have UR:mj=lZ ((aD b).map (·.at k)) (aD b).length:=by rw[Q6.out,<-pO.out]
     have va:Hid (Below (w1.heap.size+1) (w1.alloc (.cells #[.int .i64 b.ag,.slice A1 n1 c1,.slice A2 n2 c2,.slice A3 n3 c3,.slice A9 j c9] 122)).drew wp):=Afl (hb.out.trans (ak.out.mono rV));have F8:=Afl UR;clear UR;by_cases Ho:mj<lk
     ·go_wp2
      go_roundw;case rel=>exact⟨k+1,by omega,by go_num,by
       rw[Rz zp.out F8.out Ho],by
       rw[Rz zp.out F8.out Ho],va⟩
      case measure=>simp[Ahb];omega
     ·go_wp2
      go_roundw;case rel=>exact⟨k+1,by omega,by go_num,by
       rw[Rx zp.out F8.out Ho],by
       rw[Rx zp.out F8.out Ho],va⟩
      case measure=>simp[Ahb];omega
  ·obtain rfl:k=n1:=by omega
   go_wp2
   go_ret3
   refine⟨akj ?_ ?_,?_⟩
   ·rw[zp.out.1];unfold Cu;rw[E1.out]
   ·rw[zp.out.2];unfold Cu;rw[E1.out]
   ·exact aY.out.trans ((iY ((Aft w1.heap.size w1).alloc (Ad4 _) _)).trans (hb.out.mono (Nat.le_succ _)) |>.mono (by omega))
def Te{α:Type}{f:α->List Value}{sz:Nat}(hf:∀x,(f x).length=sz):∀(l:List α) (j:Nat) (u:Value),(l.flatMap f)[j]?=some u->∃i x r,l[i]?=some x/\(f x)[r]?=some u/\j=i * sz+r
 | [],j,u,h=>by simp at h
 |a::l,j,u,h=>by
  rw[Ahw] at h;by_cases hj:j<(f a).length
  ·rw[List.getElem?_append_left hj] at h
   exact⟨0,a,j,rfl,h,by omega⟩
  ·rw[Ah1 (by omega),hf] at h
   obtain⟨i,x,r,h1,h2,h3⟩:=Te hf l _ u h;rw[hf] at hj;exact⟨i+1,x,r,by simpa using h1,h2,by rw[Nat.add_mul];omega⟩
def zT{α:Type}{f:α->List Value}{sz:Nat}(hf:∀x,(f x).length=sz):∀(l:List α),(l.flatMap f).length=l.length * sz
 | []=>by simp
 |a::l=>by rw[Ahw,List.length_append,hf,zT hf l,List.length_cons,Nat.add_mul];omega
def CZ{α:Type}{f:α->List Value}(l:List α)(hf:∀x∈l,∀u∈f x,u.oneCell'=true):∀u∈l.flatMap f,u.oneCell'=true:=by
 intro u hu;obtain⟨x,h,hx⟩:=List.mem_flatMap.1 hu;exact hf x h u hx
def Row.cells{α:Type}{w:Abc}{B sz:Nat}{f:α->List Value}{ad:Aa5}{c:Nat}{l:List α}(h:Row w B sz (λx cs=>cs=f x) (.slice (some ad) l.length c) l)(hf:∀x,(f x).length=sz):
 (∀j u,(l.flatMap f)[j]?=some u-> w.cell? (ad.add j)=some u)/\(l≠ []->ad.block<B):=by
 obtain⟨A,c',hv,h1,h2,h3⟩:=h;injection hv with hA
 refine⟨λj u hu=>?_,λaw=>?_⟩
 ·obtain⟨i,x,r,e1,e2,e3⟩:=Te hf l j u hu
  obtain⟨Cs,uZ,_,hc⟩:=h3 (by intro e;rw[e] at e1;simp at e1)
  obtain⟨cs,rfl,_,au⟩:=hc i x e1;rw[uZ] at hA;injection hA with hA
  subst hA;rw[e3];exact au r u e2
 ·obtain⟨Cs,uZ,hb,_⟩:=h3 aw
  rw[uZ] at hA;injection hA with hA
  subst hA;exact hb
def agi:(prog.info? 72).map (λi=>(i.zero,i.size,i.bytes))=some (some (.agg #[.string {data:=#[]},.int .i64 0,.int .i64 0,.int .i64 0]),4,40):=by
 rw[pB];kernel_rfl
def aaI{ad:Aa5}{n c:Nat}{news:List Value}{w:Abc}(hl:news.length=n * 4)(hc:∀j u,news[j]?=some u-> w.cell? (ad.add j)=some u)(h1:∀u∈news,u.oneCell'=true)(hn:n<=1000000)(aC:news≠ []->ad.block<w.heap.size):
 Aet prog 155 #[.slice (some ad) n c] w λe w'=>∃v,e=.returned v/\w'.ownsRow w.heap.size 72 4 v n news/\Below w.heap.size w w':=by
 obtain⟨i0,cR,cT,aN,ba⟩:=Agy agi;have dv:=Afl (Aee cR (Aee cT (Aee aN ba)));have HC:Hid (∀j u,news[j]?=some u->(w.alloc (.cells #[] 72)).cell? (ad.add j)=some u):=Afl (λj u hu=>(Afy w _ _ (by rw[cq];exact aC (by intro e;rw[e] at hu;simp at hu))).trans (hc j u hu))
 have HL:=Afl (Aee hl h1);have HO:Hid ((w.alloc (.cells #[] 72)).ownsRow w.heap.size 72 4 (.slice (some ⟨w.heap.size,0,none⟩) 0 0) 0 []):=Afl ⟨rfl,.inr ⟨w.heap.size,0,#[],rfl,Ad4 _,Ail w _,Ad4 _,by unfold Aes;omega,rfl,rfl⟩⟩
 clear hl hc h1 cR cT aN ba aC;have q:∀(w:Abc) (a:Option Aa5) (n c n' c':Nat),(binOp .eql 22 (.slice a n c) (.slice none n' c')).run prog w=.ok (.bool a.isNone) w:=λw a n c n' c'=>Aim w _ _ a n c n' c' (U Tryz.underlying22)
 go_enter func155,Tryz.ntmps155;go_wp2_with (first
  | (at_builtin
     refine Agz _ rfl (.tmp 5) (.tmp 6) 22 rfl w.heap.size 72 i0 (.agg #[.string {data:=#[]},.int .i64 0,.int .i64 0,.int .i64 0]) 4 40 (U Tryz.underlying22) dv.out.1 dv.out.2.1 dv.out.2.2.1 dv.out.2.2.2 rfl (by decide) _ 0 _ rfl HO.out ad n c news rfl HL.out.1 HC.out HL.out.2 ?c3 ?c4 ?c5 ?_
     case c3=>(simp only[Aes];omega)
     case c4=>omega
     case c5=>simp
     intro v' w1 cK dT _;have gW:=Afl cK;have gV:=Afl dT;clear cK dT))
 go_ret;refine⟨_,rfl,by have:=gW.out;rwa[Ajf,Ahs] at this,((Aft _ _).alloc (Ad4 _) _).grown gV.out (by simp) (λk hk=>ei HO.out k hk)⟩
def aaH(n c:Nat)(w:Abc):Aet prog 155 #[.slice none n c] w λe w'=>e=.returned (.slice none 0 0)/\w=w':=by
 have q:∀(w:Abc) (a:Option Aa5) (n c n' c':Nat),(binOp .eql 22 (.slice a n c) (.slice none n' c')).run prog w=.ok (.bool a.isNone) w:=λw a n c n' c'=>Aim w _ _ a n c n' c' (U Tryz.underlying22)
 go_enter func155,Tryz.ntmps155;go_wp2;go_ret;exact⟨rfl,rfl⟩
def aaG{α:Type}{f:α->List Value}{v:Value}{l:List α}{w:Abc}{B:Nat}(h:Row w B 4 (λx cs=>cs=f x) v l)(hB:B<=w.heap.size)(hf:∀x,(f x).length=4)(h1:∀x∈l,∀u∈f x,u.oneCell'=true)(hn:l.length<=1000000):
 Aet prog 155 #[v] w λe w'=>∃v',e=.returned v'/\w'.ownsRow w.heap.size 72 4 v' l.length (l.flatMap f)/\Below w.heap.size w w':=by
 obtain⟨A,c,rfl,-⟩:=id h;cases A with
 |none=>
  have hl:l=[]:=by
   obtain⟨A,c',hv,h1,h2,h3⟩:=h;injection hv with hA
   refine Aa1 λaw=>?_
   obtain⟨ad,ha,_⟩:=h3 aw;rw[ha] at hA;cases hA
  subst hl;refine(aaH _ _ w).mono ?_
  rintro e w' ⟨rfl,rfl⟩;exact⟨_,rfl,⟨rfl,.inl ⟨rfl,rfl⟩⟩,Aft _ _⟩
 |some ad=>
  have hc:=h.cells hf;exact aaI (zT hf l) hc.1 (CZ l h1) hn (λaw=>by
   have:=hc.2 (by intro e;rw[e] at aw;simp at aw);omega)
def VI:(prog.info? 59).map (λi=>(i.zero,i.size,i.bytes))=some (some (.agg #[.string {data:=#[]},.int .i64 0,.slice none 0 0]),3,48):=by
 rw[pB];kernel_rfl
def aaB{ad:Aa5}{n c:Nat}{news:List Value}{w:Abc}(hl:news.length=n * 3)(hc:∀j u,news[j]?=some u-> w.cell? (ad.add j)=some u)(h1:∀u∈news,u.oneCell'=true)(hn:n<=1000000)(aC:news≠ []->ad.block<w.heap.size):
 Aet prog 135 #[.slice (some ad) n c] w λe w'=>∃v,e=.returned v/\w'.ownsRow w.heap.size 59 3 v n news/\Below w.heap.size w w':=by
 obtain⟨i0,cR,cT,aN,ba⟩:=Agy VI;have dv:=Afl (Aee cR (Aee cT (Aee aN ba)));have HC:Hid (∀j u,news[j]?=some u->(w.alloc (.cells #[] 59)).cell? (ad.add j)=some u):=Afl (λj u hu=>(Afy w _ _ (by rw[cq];exact aC (by intro e;rw[e] at hu;simp at hu))).trans (hc j u hu))
 have HL:=Afl (Aee hl h1);have HO:Hid ((w.alloc (.cells #[] 59)).ownsRow w.heap.size 59 3 (.slice (some ⟨w.heap.size,0,none⟩) 0 0) 0 []):=Afl ⟨rfl,.inr ⟨w.heap.size,0,#[],rfl,Ad4 _,Ail w _,Ad4 _,by unfold Aes;omega,rfl,rfl⟩⟩
 clear hl hc h1 cR cT aN ba aC;have q:∀(w:Abc) (a:Option Aa5) (n c n' c':Nat),(binOp .eql 23 (.slice a n c) (.slice none n' c')).run prog w=.ok (.bool a.isNone) w:=λw a n c n' c'=>Aim w _ _ a n c n' c' (U Tryz.underlying23)
 go_enter func135,Tryz.ntmps135;go_wp2_with (first
  | (at_builtin
     refine Agz _ rfl (.tmp 5) (.tmp 6) 23 rfl w.heap.size 59 i0 (.agg #[.string {data:=#[]},.int .i64 0,.slice none 0 0]) 3 48 (U Tryz.underlying23) dv.out.1 dv.out.2.1 dv.out.2.2.1 dv.out.2.2.2 rfl (by decide) _ 0 _ rfl HO.out ad n c news rfl HL.out.1 HC.out HL.out.2 ?c3 ?c4 ?c5 ?_
     case c3=>(simp only[Aes];omega)
     case c4=>omega
     case c5=>simp
     intro v' w1 cK dT _;have gW:=Afl cK;have gV:=Afl dT;clear cK dT))
 go_ret;refine⟨_,rfl,by have:=gW.out;rwa[Ajf,Ahs] at this,((Aft _ _).alloc (Ad4 _) _).grown gV.out (by simp) (λk hk=>ei HO.out k hk)⟩
def aaA(n c:Nat)(w:Abc):Aet prog 135 #[.slice none n c] w λe w'=>e=.returned (.slice none 0 0)/\w=w':=by
 have q:∀(w:Abc) (a:Option Aa5) (n c n' c':Nat),(binOp .eql 23 (.slice a n c) (.slice none n' c')).run prog w=.ok (.bool a.isNone) w:=λw a n c n' c'=>Aim w _ _ a n c n' c' (U Tryz.underlying23)
 go_enter func135,Tryz.ntmps135;go_wp2;go_ret;exact⟨rfl,rfl⟩
def Su{α:Type}{f:α->List Value}{v:Value}{l:List α}{w:Abc}{B:Nat}(h:Row w B 3 (λx cs=>cs=f x) v l)(hB:B<=w.heap.size)(hf:∀x,(f x).length=3)(h1:∀x∈l,∀u∈f x,u.oneCell'=true)(hn:l.length<=1000000):
 Aet prog 135 #[v] w λe w'=>∃v',e=.returned v'/\w'.ownsRow w.heap.size 59 3 v' l.length (l.flatMap f)/\Below w.heap.size w w':=by
 obtain⟨A,c,rfl,-⟩:=id h;cases A with
 |none=>
  have hl:l=[]:=by
   obtain⟨A,c',hv,h1,h2,h3⟩:=h;injection hv with hA
   refine Aa1 λaw=>?_
   obtain⟨ad,ha,_⟩:=h3 aw;rw[ha] at hA;cases hA
  subst hl;refine(aaA _ _ w).mono ?_
  rintro e w' ⟨rfl,rfl⟩;exact⟨_,rfl,⟨rfl,.inl ⟨rfl,rfl⟩⟩,Aft _ _⟩
 |some ad=>
  have hc:=h.cells hf;exact aaB (zT hf l) hc.1 (CZ l h1) hn (λaw=>by
   have:=hc.2 (by intro e;rw[e] at aw;simp at aw);omega)
def Oq:(prog.info? 95).map (λi=>(i.zero,i.size,i.bytes))=some (some (.agg #[.slice none 0 0,.int .i64 0,.int .i64 0]),3,40):=by
 rw[pB];kernel_rfl
def aaO{ad:Aa5}{n c:Nat}{news:List Value}{w:Abc}(hl:news.length=n * 3)(hc:∀j u,news[j]?=some u-> w.cell? (ad.add j)=some u)(h1:∀u∈news,u.oneCell'=true)(hn:n<=1000000)(aC:news≠ []->ad.block<w.heap.size):
 Aet prog 158 #[.slice (some ad) n c] w λe w'=>∃v,e=.returned v/\w'.ownsRow w.heap.size 95 3 v n news/\Below w.heap.size w w':=by
 obtain⟨i0,cR,cT,aN,ba⟩:=Agy Oq;have dv:=Afl (Aee cR (Aee cT (Aee aN ba)));have HC:Hid (∀j u,news[j]?=some u->(w.alloc (.cells #[] 95)).cell? (ad.add j)=some u):=Afl (λj u hu=>(Afy w _ _ (by rw[cq];exact aC (by intro e;rw[e] at hu;simp at hu))).trans (hc j u hu))
 have HL:=Afl (Aee hl h1);have HO:Hid ((w.alloc (.cells #[] 95)).ownsRow w.heap.size 95 3 (.slice (some ⟨w.heap.size,0,none⟩) 0 0) 0 []):=Afl ⟨rfl,.inr ⟨w.heap.size,0,#[],rfl,Ad4 _,Ail w _,Ad4 _,by unfold Aes;omega,rfl,rfl⟩⟩
 clear hl hc h1 cR cT aN ba aC;have q:∀(w:Abc) (a:Option Aa5) (n c n' c':Nat),(binOp .eql 24 (.slice a n c) (.slice none n' c')).run prog w=.ok (.bool a.isNone) w:=λw a n c n' c'=>Aim w _ _ a n c n' c' (U Tryz.underlying24)
 go_enter func158,Tryz.ntmps158;go_wp2_with (first
  | (at_builtin
     refine Agz _ rfl (.tmp 5) (.tmp 6) 24 rfl w.heap.size 95 i0 (.agg #[.slice none 0 0,.int .i64 0,.int .i64 0]) 3 40 (U Tryz.underlying24) dv.out.1 dv.out.2.1 dv.out.2.2.1 dv.out.2.2.2 rfl (by decide) _ 0 _ rfl HO.out ad n c news rfl HL.out.1 HC.out HL.out.2 ?c3 ?c4 ?c5 ?_
     case c3=>(simp only[Aes];omega)
     case c4=>omega
     case c5=>simp
     intro v' w1 cK dT _;have gW:=Afl cK;have gV:=Afl dT;clear cK dT))
 go_ret;refine⟨_,rfl,by have:=gW.out;rwa[Ajf,Ahs] at this,((Aft _ _).alloc (Ad4 _) _).grown gV.out (by simp) (λk hk=>ei HO.out k hk)⟩
def aaN(n c:Nat)(w:Abc):Aet prog 158 #[.slice none n c] w λe w'=>e=.returned (.slice none 0 0)/\w=w':=by
 have q:∀(w:Abc) (a:Option Aa5) (n c n' c':Nat),(binOp .eql 24 (.slice a n c) (.slice none n' c')).run prog w=.ok (.bool a.isNone) w:=λw a n c n' c'=>Aim w _ _ a n c n' c' (U Tryz.underlying24)
 go_enter func158,Tryz.ntmps158;go_wp2;go_ret;exact⟨rfl,rfl⟩
def aaM{α:Type}{f:α->List Value}{v:Value}{l:List α}{w:Abc}{B:Nat}(h:Row w B 3 (λx cs=>cs=f x) v l)(hB:B<=w.heap.size)(hf:∀x,(f x).length=3)(h1:∀x∈l,∀u∈f x,u.oneCell'=true)(hn:l.length<=1000000):
 Aet prog 158 #[v] w λe w'=>∃v',e=.returned v'/\w'.ownsRow w.heap.size 95 3 v' l.length (l.flatMap f)/\Below w.heap.size w w':=by
 obtain⟨A,c,rfl,-⟩:=id h;cases A with
 |none=>
  have hl:l=[]:=by
   obtain⟨A,c',hv,h1,h2,h3⟩:=h;injection hv with hA
   refine Aa1 λaw=>?_
   obtain⟨ad,ha,_⟩:=h3 aw;rw[ha] at hA;cases hA
  subst hl;refine(aaN _ _ w).mono ?_
  rintro e w' ⟨rfl,rfl⟩;exact⟨_,rfl,⟨rfl,.inl ⟨rfl,rfl⟩⟩,Aft _ _⟩
 |some ad=>
  have hc:=h.cells hf;exact aaO (zT hf l) hc.1 (CZ l h1) hn (λaw=>by
   have:=hc.2 (by intro e;rw[e] at aw;simp at aw);omega)
def agh:(prog.info? 37).map (λi=>(i.zero,i.size,i.bytes))=some (some (.agg #[.int .i64 0,.int .i64 0]),2,16):=by
 rw[pB];kernel_rfl
def aaL{ad:Aa5}{n c:Nat}{news:List Value}{w:Abc}(hl:news.length=n * 2)(hc:∀j u,news[j]?=some u-> w.cell? (ad.add j)=some u)(h1:∀u∈news,u.oneCell'=true)(hn:n<=1000000)(aC:news≠ []->ad.block<w.heap.size):
 Aet prog 179 #[.slice (some ad) n c] w λe w'=>∃v,e=.returned v/\w'.ownsRow w.heap.size 37 2 v n news/\Below w.heap.size w w':=by
 obtain⟨i0,cR,cT,aN,ba⟩:=Agy agh;have dv:=Afl (Aee cR (Aee cT (Aee aN ba)));have HC:Hid (∀j u,news[j]?=some u->(w.alloc (.cells #[] 37)).cell? (ad.add j)=some u):=Afl (λj u hu=>(Afy w _ _ (by rw[cq];exact aC (by intro e;rw[e] at hu;simp at hu))).trans (hc j u hu))
 have HL:=Afl (Aee hl h1);have HO:Hid ((w.alloc (.cells #[] 37)).ownsRow w.heap.size 37 2 (.slice (some ⟨w.heap.size,0,none⟩) 0 0) 0 []):=Afl ⟨rfl,.inr ⟨w.heap.size,0,#[],rfl,Ad4 _,Ail w _,Ad4 _,by unfold Aes;omega,rfl,rfl⟩⟩
 clear hl hc h1 cR cT aN ba aC;have q:∀(w:Abc) (a:Option Aa5) (n c n' c':Nat),(binOp .eql 57 (.slice a n c) (.slice none n' c')).run prog w=.ok (.bool a.isNone) w:=λw a n c n' c'=>Aim w _ _ a n c n' c' (U Tryz.underlying57)
 go_enter func179,Tryz.ntmps179;go_wp2_with (first
  | (at_builtin
     refine Agz _ rfl (.tmp 5) (.tmp 6) 57 rfl w.heap.size 37 i0 (.agg #[.int .i64 0,.int .i64 0]) 2 16 (U Tryz.underlying57) dv.out.1 dv.out.2.1 dv.out.2.2.1 dv.out.2.2.2 rfl (by decide) _ 0 _ rfl HO.out ad n c news rfl HL.out.1 HC.out HL.out.2 ?c3 ?c4 ?c5 ?_
     case c3=>(simp only[Aes];omega)
     case c4=>omega
     case c5=>simp
     intro v' w1 cK dT _;have gW:=Afl cK;have gV:=Afl dT;clear cK dT))
 go_ret;refine⟨_,rfl,by have:=gW.out;rwa[Ajf,Ahs] at this,((Aft _ _).alloc (Ad4 _) _).grown gV.out (by simp) (λk hk=>ei HO.out k hk)⟩
def aaK(n c:Nat)(w:Abc):Aet prog 179 #[.slice none n c] w λe w'=>e=.returned (.slice none 0 0)/\w=w':=by
 have q:∀(w:Abc) (a:Option Aa5) (n c n' c':Nat),(binOp .eql 57 (.slice a n c) (.slice none n' c')).run prog w=.ok (.bool a.isNone) w:=λw a n c n' c'=>Aim w _ _ a n c n' c' (U Tryz.underlying57)
 go_enter func179,Tryz.ntmps179;go_wp2;go_ret;exact⟨rfl,rfl⟩
def aaJ{α:Type}{f:α->List Value}{v:Value}{l:List α}{w:Abc}{B:Nat}(h:Row w B 2 (λx cs=>cs=f x) v l)(hB:B<=w.heap.size)(hf:∀x,(f x).length=2)(h1:∀x∈l,∀u∈f x,u.oneCell'=true)(hn:l.length<=1000000):
 Aet prog 179 #[v] w λe w'=>∃v',e=.returned v'/\w'.ownsRow w.heap.size 37 2 v' l.length (l.flatMap f)/\Below w.heap.size w w':=by
 obtain⟨A,c,rfl,-⟩:=id h;cases A with
 |none=>
  have hl:l=[]:=by
   obtain⟨A,c',hv,h1,h2,h3⟩:=h;injection hv with hA
   refine Aa1 λaw=>?_
   obtain⟨ad,ha,_⟩:=h3 aw;rw[ha] at hA;cases hA
  subst hl;refine(aaK _ _ w).mono ?_
  rintro e w' ⟨rfl,rfl⟩;exact⟨_,rfl,⟨rfl,.inl ⟨rfl,rfl⟩⟩,Aft _ _⟩
 |some ad=>
  have hc:=h.cells hf;exact aaL (zT hf l) hc.1 (CZ l h1) hn (λaw=>by
   have:=hc.2 (by intro e;rw[e] at aw;simp at aw);omega)
def VG:(prog.info? 3).map (λi=>(i.zero,i.size,i.bytes))=some (some (.int .i64 0),1,8):=by
 rw[pB];kernel_rfl
def aaF{ad:Aa5}{n c:Nat}{news:List Value}{w:Abc}(hl:news.length=n * 1)(hc:∀j u,news[j]?=some u-> w.cell? (ad.add j)=some u)(h1:∀u∈news,u.oneCell'=true)(hn:n<=1000000)(aC:news≠ []->ad.block<w.heap.size):
 Aet prog 180 #[.slice (some ad) n c] w λe w'=>∃v,e=.returned v/\w'.ownsRow w.heap.size 3 1 v n news/\Below w.heap.size w w':=by
 obtain⟨i0,cR,cT,aN,ba⟩:=Agy VG;have dv:=Afl (Aee cR (Aee cT (Aee aN ba)));have HC:Hid (∀j u,news[j]?=some u->(w.alloc (.cells #[] 3)).cell? (ad.add j)=some u):=Afl (λj u hu=>(Afy w _ _ (by rw[cq];exact aC (by intro e;rw[e] at hu;simp at hu))).trans (hc j u hu))
 have HL:=Afl (Aee hl h1);have HO:Hid ((w.alloc (.cells #[] 3)).ownsRow w.heap.size 3 1 (.slice (some ⟨w.heap.size,0,none⟩) 0 0) 0 []):=Afl ⟨rfl,.inr ⟨w.heap.size,0,#[],rfl,Ad4 _,Ail w _,Ad4 _,by unfold Aes;omega,rfl,rfl⟩⟩
 clear hl hc h1 cR cT aN ba aC;have q:∀(w:Abc) (a:Option Aa5) (n c n' c':Nat),(binOp .eql 33 (.slice a n c) (.slice none n' c')).run prog w=.ok (.bool a.isNone) w:=λw a n c n' c'=>Aim w _ _ a n c n' c' (U Tryz.underlying33)
 go_enter func180,Tryz.ntmps180;go_wp2_with (first
  | (at_builtin
     refine Agz _ rfl (.tmp 5) (.tmp 6) 33 rfl w.heap.size 3 i0 (.int .i64 0) 1 8 (U Tryz.underlying33) dv.out.1 dv.out.2.1 dv.out.2.2.1 dv.out.2.2.2 rfl (by decide) _ 0 _ rfl HO.out ad n c news rfl HL.out.1 HC.out HL.out.2 ?c3 ?c4 ?c5 ?_
     case c3=>(simp only[Aes];omega)
     case c4=>omega
     case c5=>simp
     intro v' w1 cK dT _;have gW:=Afl cK;have gV:=Afl dT;clear cK dT))
 go_ret;refine⟨_,rfl,by have:=gW.out;rwa[Ajf,Ahs] at this,((Aft _ _).alloc (Ad4 _) _).grown gV.out (by simp) (λk hk=>ei HO.out k hk)⟩
def aaE(n c:Nat)(w:Abc):Aet prog 180 #[.slice none n c] w λe w'=>e=.returned (.slice none 0 0)/\w=w':=by
 have q:∀(w:Abc) (a:Option Aa5) (n c n' c':Nat),(binOp .eql 33 (.slice a n c) (.slice none n' c')).run prog w=.ok (.bool a.isNone) w:=λw a n c n' c'=>Aim w _ _ a n c n' c' (U Tryz.underlying33)
 go_enter func180,Tryz.ntmps180;go_wp2;go_ret;exact⟨rfl,rfl⟩
def aaD{α:Type}{f:α->List Value}{v:Value}{l:List α}{w:Abc}{B:Nat}(h:Row w B 1 (λx cs=>cs=f x) v l)(hB:B<=w.heap.size)(hf:∀x,(f x).length=1)(h1:∀x∈l,∀u∈f x,u.oneCell'=true)(hn:l.length<=1000000):
 Aet prog 180 #[v] w λe w'=>∃v',e=.returned v'/\w'.ownsRow w.heap.size 3 1 v' l.length (l.flatMap f)/\Below w.heap.size w w':=by
 obtain⟨A,c,rfl,-⟩:=id h;cases A with
 |none=>
  have hl:l=[]:=by
   obtain⟨A,c',hv,h1,h2,h3⟩:=h;injection hv with hA
   refine Aa1 λaw=>?_
   obtain⟨ad,ha,_⟩:=h3 aw;rw[ha] at hA;cases hA
  subst hl;refine(aaE _ _ w).mono ?_
  rintro e w' ⟨rfl,rfl⟩;exact⟨_,rfl,⟨rfl,.inl ⟨rfl,rfl⟩⟩,Aft _ _⟩
 |some ad=>
  have hc:=h.cells hf;exact aaF (zT hf l) hc.1 (CZ l h1) hn (λaw=>by
   have:=hc.2 (by intro e;rw[e] at aw;simp at aw);omega)
end Go.Tw
namespace Go.Tw
variable [Go.Tw.aR]
open Go Go.Proofs Go.RowKit
def cW{α:Type}(w:Abc)(No:Nat->Prop)(sz:Nat)(R:α->List Value->Prop)(v:Value)(xs:List α):Prop:=
 ∃A c,v=.slice A xs.length c/\xs.length<=c/\c<=Aes/\(xs≠ []->∃ad,A=some ad/\ad.block<w.heap.size/\¬No ad.block/\
  ∀i x,xs[i]?=some x->∃cs,R x cs/\cs.length=sz/\∀j u,cs[j]?=some u-> w.cell? (ad.add (i * sz+j))=some u)
section
variable {α:Type}{w w':Abc}{No Gf:Nat->Prop}{B sz:Nat}{R:α->List Value->Prop}{v:Value}{xs:List α}
def cW.grown{row:Option Nat}(h:cW w No sz R v xs)(hg:w.grownBy w' row)(hr:∀k,row=some k->No k):cW w' No sz R v xs:=by
 obtain⟨A,c,hv,h1,h2,h3⟩:=h;refine⟨A,c,hv,h1,h2,λhx=>?_⟩
 obtain⟨ad,ha,hb,hn,hc⟩:=h3 hx;refine⟨ad,ha,Nat.lt_of_lt_of_le hb hg.size,hn,λi x hi=>?_⟩
 obtain⟨cs,r,hl,au⟩:=hc i x hi;refine⟨cs,r,hl,λj u hu=>?_⟩
 refine(World.cell?_of_block (hg.block (ad.add (i * sz+j)).block (by rw[cq];exact hb) (λe=>hn ?_))).trans (au j u hu)
 rw[cq] at e;exact hr _ e.symm
def Row.um(h:Row w B sz R v xs)(hB:B<=w.heap.size)(hN:∀k,No k->B<=k):cW w No sz R v xs:=by
 obtain⟨A,c,hv,h1,h2,h3⟩:=h;refine⟨A,c,hv,h1,h2,λhx=>?_⟩
 obtain⟨ad,ha,hb,hc⟩:=h3 hx;exact⟨ad,ha,by omega,λhk=>by have:=hN _ hk;omega,hc⟩
def Row.mem(h:Row w B sz R v xs):∀x∈xs,∃cs,R x cs:=λx hx=>by
 obtain⟨A,c,hv,h1,h2,h3⟩:=h;obtain⟨i,hi⟩:=Aiu hx
 obtain⟨ad,ha,hb,hc⟩:=h3 (by intro e;subst e;simp at hi)
 obtain⟨cs,r,_⟩:=hc i x hi;exact⟨cs,r⟩
def cW.row(h:cW w No sz R v xs):Row w w.heap.size sz R v xs:=by
 obtain⟨A,c,hv,h1,h2,h3⟩:=h;refine⟨A,c,hv,h1,h2,λhx=>?_⟩
 obtain⟨ad,ha,hb,hn,hc⟩:=h3 hx;exact⟨ad,ha,hb,hc⟩
def cW.below(h:cW w No sz R v xs)(hb:Below w.heap.size w w')(hN:∀k,Gf k->No k\/w.heap.size<=k):cW w' Gf sz R v xs:=by
 obtain⟨A,c,hv,h1,h2,h3⟩:=h;refine⟨A,c,hv,h1,h2,λhx=>?_⟩
 obtain⟨ad,ha,hl,hn,hc⟩:=h3 hx;refine⟨ad,ha,Nat.lt_of_lt_of_le hl hb.size,λhk=>?_,λi x hi=>?_⟩
 ·rcases hN _ hk with h|h
  ·exact hn h
  ·omega
 ·obtain⟨cs,r,oz,au⟩:=hc i x hi
  exact⟨cs,r,oz,λj u hu=>(hb.cell (by rw[cq];exact hl)).trans (au j u hu)⟩
def cW.weaken(h:cW w No sz R v xs)(hN:∀k,Gf k->No k):cW w Gf sz R v xs:=h.below (Aft _ _) (λk hk=>Or.inl (hN k hk))
def cW.vO{base:Nat}{e:Aa8}{f:α->List Value}(h:w.ownsRow base e sz v xs.length (xs.flatMap f))(hf:∀x,(f x).length=sz)(hR:∀x∈xs,R x (f x))(hN:∀k,No k->k<base):cW w No sz R v xs:=by
 obtain⟨A,c,hv,h1,h2,h3⟩:=lu (R:=R) h hf hR;refine⟨A,c,hv,h1,h2,λhx=>?_⟩
 obtain⟨ad,ha,hb,hc⟩:=h3 hx;refine⟨ad,ha,hb,λhk=>?_,hc⟩
 have:=ei h ad.block (by rw[hv,ha];rfl)
 have:=hN _ hk;omega
end
def I1{α β:Type}[Inhabited β]{w:Abc}{B sz:Nat}{R:α->List Value->Prop}{R':α×β->List Value->Prop}{v:Value}{xs:List α}(h:Row w B sz R v xs)(hR:∀x cs,R x cs->∃k,R' (x,k) cs):
 ∃ps:List (α×β),ps.map Ajg=xs/\Row w B sz R' v ps:=by
 obtain⟨A,c,hv,h1,h2,h3⟩:=h;by_cases hx:xs=[]
 ·subst hx
  exact⟨[],rfl,A,c,hv,h1,h2,λh=>absurd rfl h⟩
 obtain⟨ad,ha,hb,hc⟩:=h3 hx;have hk:∀i,∃k:β,∀x,xs[i]?=some x->∃cs,R' (x,k) cs/\cs.length=sz/\∀j u,cs[j]?=some u-> w.cell? (ad.add (i * sz+j))=some u:=λi=>by
  cases e:xs[i]? with
  |none=>exact⟨default,λx hx=>by cases hx⟩
  |some x=>
   obtain⟨cs,r,hl,au⟩:=hc i x e;obtain⟨k,hk⟩:=hR x cs r;exact⟨k,λy hy=>by injection hy with hy;subst hy;exact⟨cs,hk,hl,au⟩⟩
 obtain⟨K,hK⟩:=Classical.axiomOfChoice hk;refine⟨xs.mapIdx λi x=>(x,K i),?_,A,c,by simpa using hv,by simpa using h1,h2,λ_=>⟨ad,ha,hb,λi p hi=>?_⟩⟩
 ·apply List.ext_getElem?;intro i
  simp;cases xs[i]?<;>rfl
 ·simp only[List.getElem?_mapIdx] at hi
  cases e:xs[i]? with
  |none=>rw[e] at hi;cases hi
  |some x=>
   rw[e] at hi;simp at hi;subst hi
   exact hK i x e
instance:Inhabited Value:=⟨.slice none 0 0⟩
def vV(p:Piece):List Value:=[.string p.name,.int .i64 p.len.lo,.int .i64 p.len.hi,.int .i64 p.bears]
def eP(p:bR×Value):List Value:=[.string p.1.name,.int .i64 p.1.aH,p.2]
def eG(p:Tape×Value):List Value:=[p.2,.int .i64 p.1.sum.lo,.int .i64 p.1.sum.hi]
def lj{w:Abc}{base:Nat}{e:Aa8}{sz n:Nat}{v u:Value}{p:Aa5}{xs:List Value}(h:w.ownsRow base e sz v n xs)(hp:∀k,v.ownBlock=some k->p.block≠k):(w.setCell p u).ownsRow base e sz v n xs:=by
 refine⟨h.1,?_⟩
 rcases h.2 with h0| ⟨g,cap,cur,h1,h2,h3,h4⟩
 ·exact .inl h0
 ·exact .inr ⟨g,cap,cur,h1,h2,(Ahc _ _ _ _ (by rw[h1] at hp;exact Ne.symm (hp g rfl))).trans h3,h4⟩
def EJ{w w':Abc}{base:Nat}{e:Aa8}{sz n:Nat}{v:Value}{xs:List Value}{row:Option Nat}(h:w.ownsRow base e sz v n xs)(hg:w.grownBy w' row)(hp:∀k,v.ownBlock=some k->row≠some k):w'.ownsRow base e sz v n xs:=by
 refine⟨h.1,?_⟩
 rcases h.2 with h0| ⟨g,cap,cur,h1,h2,h3,h4⟩
 ·exact .inl h0
 ·exact .inr ⟨g,cap,cur,h1,h2,(hg.block g (Array.getElem?_eq_some_iff.1 h3).1 (by rw[h1] at hp;exact Ne.symm (hp g rfl))).trans h3,h4⟩
def vU{w:Abc}{base:Nat}{e:Aa8}{sz n:Nat}{v:Value}{xs:List Value}(h:w.ownsRow base e sz v n xs)(k:Nat)(hk:v.ownBlock=some k):k<w.heap.size:=by
 rcases h.2 with⟨h0,_⟩ | ⟨g,cap,cur,h1,h2,h3,h4⟩
 ·rw[h0] at hk;cases hk
 ·rw[h1] at hk;injection hk with hk;subst hk;exact(Array.getElem?_eq_some_iff.1 h3).1
def Be{w:Abc}{base:Nat}{e:Aa8}{sz n m c:Nat}{A:Option Aa5}{xs:List Value}(h:w.ownsRow base e sz (.slice A m c) n xs):m=n:=by
 rcases h.2 with⟨h0,h1⟩ | ⟨g,cap,cur,h1,h2,h3,h4⟩
 ·injection h0 with _ h0;omega
 ·injection h1
def Wt{w:Abc}{base:Nat}{e:Aa8}{sz n m c:Nat}{A:Option Aa5}{xs:List Value}(h:w.ownsRow base e sz (.slice A m c) n xs):m<=c/\c<=2 ^ 63 - 1:=by
 rcases h.2 with⟨h0,h1⟩ | ⟨g,cap,cur,h1,h2,h3,h4,h5,_⟩
 ·injection h0 with _ h0 h2;omega
 ·injection h1 with _ h6 h7;unfold Aes at h5;omega
def Ww{w:Abc}{base:Nat}{e:Aa8}{sz n m c:Nat}{A:Option Aa5}{xs:List Value}(h:w.ownsRow base e sz (.slice A m c) n xs)(hm:0<m):∃g,A=some ⟨g,0,none⟩:=by
 rcases h.2 with⟨h0,h1⟩ | ⟨g,cap,cur,h1,_⟩
 ·injection h0 with _ h0;omega
 ·injection h1 with h1;exact⟨g,h1⟩
def uV(w:Abc)(p:Aa5)(u:Value):w.grownBy (w.setCell p u) (some p.block):=
 ⟨rfl,rfl,rfl,by simp,λk _ hk=>Ahc _ _ _ _ (by intro e;exact hk (by rw[e]))⟩
end Go.Tw
namespace Go.Tw
variable [Go.Tw.aR]
open Go Go.Proofs Go.RowKit
def dP(F:Act->Abc->Prop):Exit->Act->Abc->Prop
 | .normal,a,w=>F a w
 |_,_,_=>False
def dP.imp{F:Act->Abc->Prop}{Q:Exit->Act->Abc->Prop}(h:∀a w,F a w->Q .normal a w):∀e a w,dP F e a w->Q e a w:=λe a w hf=>by
 cases e<;>first|exact h a w hf|exact(hf:False).elim
def rj(No:Nat->Prop)(g:Nat)(bv tv:Value)(k:Nat):Prop:=bv.ownBlock=some k\/tv.ownBlock=some k\/k=g+1\/No k
structure pI(w:Abc)(No:Nat->Prop)(b:ao)(pv bv tv:Value)(bs:List (bR×Value))(ts:List (Tape×Value)):Prop where
 p:cW w No 4 Piece.R pv b.pieces
 bo:cW w No 3 (λp cs=>cs=eP p) bv bs
 t:cW w No 3 (λp cs=>cs=eG p) tv ts
 oW:bs.map Ajg=b.aF
 pD:ts.map Ajg=b.aJ
 kn:∀p∈bs,p.1.name.size<=Aes/\cW w No 2 Span.R p.2 p.1.cM
 tp:∀p∈ts,cW w No 1 cH p.2 p.1.pieces
structure CI(No:Nat->Prop)(b:ao)(w W:Abc)(g s1 s2:Nat)(pv bv tv:Value)(bs:List (bR×Value))(ts:List (Tape×Value)):Prop where
 box:Bk W g 26 #[.int .i64 b.ag,pv,bv,tv]
 res:∃u0 u1 u2 u3,Bk W (g+1) 26 #[u0,u1,u2,u3]
 p:W.ownsRow (g+2) 72 4 pv b.pieces.length (b.pieces.flatMap vV)
 bo:W.ownsRow s1 59 3 bv bs.length (bs.flatMap eP)
 t:W.ownsRow s2 95 3 tv ts.length (ts.flatMap eG)
 oW:bs.map Ajg=b.aF
 pD:ts.map Ajg=b.aJ
 kn:∀p∈bs,cW W (rj No g bv tv) 2 Span.R p.2 p.1.cM
 tp:∀p∈ts,cW W (rj No g bv tv) 1 cH p.2 p.1.pieces
 below:Below g w W
 gz:g=w.heap.size
 g1:g+2<=s1
 g2:s1<=s2
 pl:∀k,pv.ownBlock=some k->k<s1
 bl:∀k,bv.ownBlock=some k->k<s2
def CI.grown{No:Nat->Prop}{b:ao}{w W W':Abc}{g s1 s2:Nat}{pv bv tv:Value}{bs:List (bR×Value)}{ts:List (Tape×Value)}(h:CI No b w W g s1 s2 pv bv tv bs ts)(hg:W.grownBy W' none):CI No b w W' g s1 s2 pv bv tv bs ts where
 box:=h.box.grown hg (by simp)
 res:=by obtain⟨u0,u1,u2,u3,hr⟩:=h.res;exact⟨u0,u1,u2,u3,hr.grown hg (by simp)⟩
 p:=EJ h.p hg (by simp)
 bo:=EJ h.bo hg (by simp)
 t:=EJ h.t hg (by simp)
 oW:=h.oW
 pD:=h.pD
 kn p hp:=(h.kn p hp).grown hg (by simp)
 tp p hp:=(h.tp p hp).grown hg (by simp)
 below:=h.below.grown hg (by have:=h.box.lt;omega) (by simp)
 gz:=h.gz
 g1:=h.g1
 g2:=h.g2
 pl:=h.pl
 bl:=h.bl
def Xj{x:bR}{kv jC:Value}:∀ {bs:List (bR×Value)} {i:Nat},bs[i]?=some (x,kv)->(bs.flatMap eP).set (i * 3+2) jC=(bs.set i (x,jC)).flatMap eP
 | [],i,h=>by simp at h
 |a::l,0,h=>by simp at h;subst h;simp[eP]
 |a::l,i+1,h=>by
  have e:(i+1) * 3+2=(i * 3+2)+1+1+1:=by omega
  have ih:=Xj (jC:=jC) (bs:=l) (i:=i) (by simpa using h)
  rw[e,Ahw];simp only[eP,List.cons_append,Ahs,Aiv,Ahw];congr 3
def Xk{x:Tape}{kv jC:Value}:∀ {ts:List (Tape×Value)} {i:Nat},ts[i]?=some (x,kv)->(ts.flatMap eG).set (i * 3) jC=(ts.set i (x,jC)).flatMap eG
 | [],i,h=>by simp at h
 |a::l,0,h=>by simp at h;subst h;simp[eG]
 |a::l,i+1,h=>by
  have e:(i+1) * 3=(i * 3)+1+1+1:=by omega
  have ih:=Xk (jC:=jC) (ts:=l) (i:=i) (by simpa using h)
  rw[e,Ahw];simp only[eG,List.cons_append,Ahs,Aiv,Ahw];congr 3
def OU{α β:Type}:∀ {l:List (α×β)} {i:Nat} {x:α} {y y':β},l[i]?=some (x,y)->(l.set i (x,y')).map Ajg=l.map Ajg
 | [],i,x,y,y',h=>by simp at h
 |a::l,0,x,y,y',h=>by simp at h;subst h;simp
 |a::l,i+1,x,y,y',h=>by
  rw[Aiv,List.map_cons,OU (l:=l) (y:=y) (by simpa using h),List.map_cons]
def mem_set{α:Type}{l:List α}{i:Nat}{a x:α}(h:x∈l.set i a):x∈l\/x=a:=List.mem_or_eq_of_mem_set h
section
variable {No:Nat->Prop}{b:ao}{w W:Abc}{g s1 s2:Nat}{pv bv tv:Value}{bs:List (bR×Value)}{ts:List (Tape×Value)}
def CI.alm{rb n c i:Nat}{x:bR}{kv jC:Value}(h:CI No b w W g s1 s2 pv (.slice (some ⟨rb,0,none⟩) n c) tv bs ts)(hx:bs[i]?=some (x,kv))(hk:cW W (rj No g (.slice (some ⟨rb,0,none⟩) n c) tv) 2 Span.R jC x.cM):
 CI No b w (W.setCell ⟨rb,i * 3+2,none⟩ jC) g s1 s2 pv (.slice (some ⟨rb,0,none⟩) n c) tv (bs.set i (x,jC)) ts:=by
 have hn:n=bs.length:=by
  rcases h.bo.2 with⟨h0,_⟩ | ⟨g',zd,cur,h1,_⟩
  ·cases h0
  ·injection h1
 have ae:=ei h.bo rb rfl;have ak:=h.bl rb rfl;have g1:=h.g1;have hi:=(Af7.1 hx).1
 have hG:=uV W ⟨rb,i * 3+2,none⟩ jC;have hN:∀k,some rb=some k->rj No g (.slice (some ⟨rb,0,none⟩) n c) tv k:=λk e=>Or.inl e
 refine⟨h.box.cu (by simp;omega) _,(by obtain⟨u0,u1,u2,u3,hr⟩:=h.res;exact⟨u0,u1,u2,u3,hr.cu (by simp;omega) _⟩),lj h.p (λk e=>by have:=h.pl k e;simp;omega),?_,lj h.t (λk e=>by have:=ei h.t k e;simp;omega),?_,h.pD,?_,λp hp=>(h.tp p hp).grown hG hN,h.below.setCell (by simp;omega) _,h.gz,h.g1,h.g2,h.pl,h.bl⟩
 ·have:=h.bo
  rw[<-hn] at this;rw[List.length_set,<-hn,<-Xj hx];exact IG this (by omega)
 ·rw[OU hx];exact h.oW
 ·intro p hp
  rcases mem_set hp with hp|rfl
  ·exact(h.kn p hp).grown hG hN
  ·exact hk.grown hG hN
def CI.alo{rb n c i:Nat}{x:Tape}{kv jC:Value}(h:CI No b w W g s1 s2 pv bv (.slice (some ⟨rb,0,none⟩) n c) bs ts)(hx:ts[i]?=some (x,kv))(hk:cW W (rj No g bv (.slice (some ⟨rb,0,none⟩) n c)) 1 cH jC x.pieces):
 CI No b w (W.setCell ⟨rb,i * 3,none⟩ jC) g s1 s2 pv bv (.slice (some ⟨rb,0,none⟩) n c) bs (ts.set i (x,jC)):=by
 have hn:n=ts.length:=by
  rcases h.t.2 with⟨h0,_⟩ | ⟨g',zd,cur,h1,_⟩
  ·cases h0
  ·injection h1
 have ae:=ei h.t rb rfl;have g1:=h.g1;have g2:=h.g2;have hi:=(Af7.1 hx).1
 have hG:=uV W ⟨rb,i * 3,none⟩ jC;have hN:∀k,some rb=some k->rj No g bv (.slice (some ⟨rb,0,none⟩) n c) k:=λk e=>Or.inr (Or.inl e)
 refine⟨h.box.cu (by simp;omega) _,(by obtain⟨u0,u1,u2,u3,hr⟩:=h.res;exact⟨u0,u1,u2,u3,hr.cu (by simp;omega) _⟩),lj h.p (λk e=>by have:=h.pl k e;simp;omega),lj h.bo (λk e=>by have:=h.bl k e;simp;omega),?_,h.oW,?_,λp hp=>(h.kn p hp).grown hG hN,?_,h.below.setCell (by simp;omega) _,h.gz,h.g1,h.g2,h.pl,h.bl⟩
 ·have:=h.t
  rw[<-hn] at this;rw[List.length_set,<-hn,<-Xk hx];exact IG this (by omega)
 ·rw[OU hx];exact h.pD
 ·intro p hp
  rcases mem_set hp with hp|rfl
  ·exact(h.tp p hp).grown hG hN
  ·exact hk.grown hG hN
def Bk.drew{w:Abc}{g:Nat}{t:Aa8}{cs:Array Value}(h:Bk w g t cs):Bk w.drew g t cs:=h
def CI.start{W0 w3 w4 W:Abc}{q1 q2 q3:Value}(h3:Below W0.heap.size W0 w3)(h4:Below w3.heap.size w3 w4)(h5:Below w4.heap.size w4 W)(hz:w.heap.size+2<=W0.heap.size)
 (kb:Bk W w.heap.size 26 #[.int .i64 b.ag,q1,q2,q3])(kr:Bk W (w.heap.size+1) 26 #[.int .i64 0,.slice none 0 0,.slice none 0 0,.slice none 0 0])
 (o9:w3.ownsRow W0.heap.size 72 4 pv b.pieces.length (b.pieces.flatMap vV))(qN:w4.ownsRow w3.heap.size 59 3 bv bs.length (bs.flatMap eP))(Bb:W.ownsRow w4.heap.size 95 3 tv ts.length (ts.flatMap eG))
 (fe:bs.map Ajg=b.aF)(il:ts.map Ajg=b.aJ)(hb:∀p∈bs,cW w No 2 Span.R p.2 p.1.cM)(ht:∀p∈ts,cW w No 1 cH p.2 p.1.pieces)(xA:∀k,No k->k<w.heap.size)(bd:Below w.heap.size w W0):
 CI No b w (((W.setCell ⟨w.heap.size,1,none⟩ pv).setCell ⟨w.heap.size,2,none⟩ bv).setCell ⟨w.heap.size,3,none⟩ tv) w.heap.size w3.heap.size w4.heap.size pv bv tv bs ts:=by
 have e3:=h3.size;have e4:=h4.size;have e5:=h5.size;have bW:Below w.heap.size w W:=((bd.trans (h3.mono (by omega))).trans (h4.mono (by omega))).trans (h5.mono (by omega))
 have bF:Below w.heap.size w (((W.setCell ⟨w.heap.size,1,none⟩ pv).setCell ⟨w.heap.size,2,none⟩ bv).setCell ⟨w.heap.size,3,none⟩ tv):=((bW.setCell (Ad4 _) _).setCell (Ad4 _) _).setCell (Ad4 _) _;have l9:=vU o9;have l12:=vU qN;have g9:=ei o9;have g12:=ei qN;have g15:=ei Bb;have hN:∀k,rj No w.heap.size bv tv k->No k\/w.heap.size<=k:=λk hk=>by
  rcases hk with hk|hk|hk|hk
  ·have:=g12 k hk;omega
  ·have:=g15 k hk;omega
  ·omega
  ·exact Or.inl hk
 have p9:W.ownsRow W0.heap.size 72 4 pv b.pieces.length (b.pieces.flatMap vV):=qO (qO o9 h4 (Ad4 _)) h5 (Ad4 _);have Ol:W.ownsRow w3.heap.size 59 3 bv bs.length (bs.flatMap eP):=qO qN h5 (Ad4 _);refine⟨?_,⟨_,_,_,_,((kr.cu (by simp) _).cu (by simp) _).cu (by simp) _⟩,?_,?_,?_,fe,il,λp hp=>(hb p hp).below bF hN,λp hp=>(ht p hp).below bF hN,bF,rfl,by omega,by omega,l9,l12⟩
 ·exact((kb.set 1 pv).set 2 bv).set 3 tv
 ·exact(lj (lj (lj p9 (λk e=>by have:=g9 k e;simp;omega)) (λk e=>by have:=g9 k e;simp;omega)) (λk e=>by have:=g9 k e;simp;omega)).base hz
 ·exact lj (lj (lj Ol (λk e=>by have:=g12 k e;simp;omega)) (λk e=>by have:=g12 k e;simp;omega)) (λk e=>by have:=g12 k e;simp;omega)
 ·exact lj (lj (lj Bb (λk e=>by have:=g15 k e;simp;omega)) (λk e=>by have:=g15 k e;simp;omega)) (λk e=>by have:=g15 k e;simp;omega)
def CI.Gx{rb n c i j:Nat}{p:bR×Value}{u:Value}(h:CI No b w W g s1 s2 pv (.slice (some ⟨rb,0,none⟩) n c) tv bs ts)(hx:bs[i]?=some p)(hu:(eP p)[j]?=some u): W.cell? ⟨rb,i * 3+j,none⟩=some u:=by
 have hn:=Be h.bo;have h2:=h.bo;rw[<-hn] at h2;have:=vT h2 _ _ (GL (f:=eP) (sz:=3) (λ_=>rfl) bs i _ j u hx hu)
 rwa[nu] at this
def CI.Gy{rb n c i j:Nat}{p:Tape×Value}{u:Value}(h:CI No b w W g s1 s2 pv bv (.slice (some ⟨rb,0,none⟩) n c) bs ts)(hx:ts[i]?=some p)(hu:(eG p)[j]?=some u): W.cell? ⟨rb,i * 3+j,none⟩=some u:=by
 have hn:=Be h.t;have h2:=h.t;rw[<-hn] at h2;have:=vT h2 _ _ (GL (f:=eG) (sz:=3) (λ_=>rfl) ts i _ j u hx hu)
 rwa[nu] at this
def CI.ac1{rb n c:Nat}(h:CI No b w W g s1 s2 pv (.slice (some ⟨rb,0,none⟩) n c) tv bs ts)(i:Nat): W.frozen? ⟨rb,i,none⟩=false:=by
 rcases h.bo.2 with⟨h0,_⟩ | ⟨g',zd,cur,h1,_,h3,_⟩
 ·cases h0
 ·injection h1 with h1;injection h1 with h1;injection h1 with h1;subst h1
  rw[Go.Sim.xm (a:=⟨rb,i,none⟩) h3];rfl
def CI.ac2{rb n c:Nat}(h:CI No b w W g s1 s2 pv bv (.slice (some ⟨rb,0,none⟩) n c) bs ts)(i:Nat): W.frozen? ⟨rb,i,none⟩=false:=by
 rcases h.t.2 with⟨h0,_⟩ | ⟨g',zd,cur,h1,_,h3,_⟩
 ·cases h0
 ·injection h1 with h1;injection h1 with h1;injection h1 with h1;subst h1
  rw[Go.Sim.xm (a:=⟨rb,i,none⟩) h3];rfl
def CI.Ja{i:Nat}{u:Value}(h:CI No b w W g s1 s2 pv bv tv bs ts)(hi:i<4):CI No b w (W.setCell ⟨g+1,i,none⟩ u) g s1 s2 pv bv tv bs ts:=by
 have g1:=h.g1;have g2:=h.g2;have hG:=uV W ⟨g+1,i,none⟩ u;have hN:∀k,some (g+1)=some k->rj No g bv tv k:=λk e=>Or.inr (Or.inr (Or.inl (by injection e with e;exact e.symm)))
 refine⟨h.box.cu (by simp) _,?_,lj h.p (λk e=>by have:=ei h.p k e;simp;omega),lj h.bo (λk e=>by have:=ei h.bo k e;simp;omega),lj h.t (λk e=>by have:=ei h.t k e;simp;omega),h.oW,h.pD,λp hp=>(h.kn p hp).grown hG hN,λp hp=>(h.tp p hp).grown hG hN,h.below.setCell (by simp) _,h.gz,h.g1,h.g2,h.pl,h.bl⟩
 obtain⟨u0,u1,u2,u3,hr⟩:=h.res;have:=hr.set i u;match i,hi with
 |0,_=>exact⟨u,u1,u2,u3,this⟩
 |1,_=>exact⟨u0,u,u2,u3,this⟩
 |2,_=>exact⟨u0,u1,u,u3,this⟩
 |3,_=>exact⟨u0,u1,u2,u,this⟩
def yY{α β:Type}{w:Abc}{B sz:Nat}{R':α×β->List Value->Prop}{R:α->List Value->Prop}{v:Value}{ps:List (α×β)}(h:Row w B sz R' v ps)(hR:∀p∈ps,∀cs,R' p cs->R p.1 cs):Row w B sz R v (ps.map Ajg):=by
 obtain⟨A,c,hv,h1,h2,h3⟩:=h;refine⟨A,c,by rw[Aib];exact hv,by rw[Aib];exact h1,h2,λaw=>?_⟩
 obtain⟨ad,ha,hb,hc⟩:=h3 (by intro e;rw[e] at aw;exact aw rfl)
 refine⟨ad,ha,hb,λi x hi=>?_⟩
 rw[Ahy] at hi
 cases e:ps[i]? with
 |none=>rw[e] at hi;cases hi
 |some p=>
  rw[e] at hi;simp at hi;subst hi
  obtain⟨cs,r,hl,au⟩:=hc i p e;exact⟨cs,hR p (Agd e) cs r,hl,au⟩
def CI.ZO(h:CI No b w W g s1 s2 pv bv tv bs ts)(hp:∀p∈b.pieces,p.name.size<=Aes)(hx:∀x∈b.aF,x.name.size<=Aes)(xA:∀k,No k->k<g):pI W No b pv bv tv bs ts:=by
 have g1:=h.g1;have g2:=h.g2;refine⟨cW.vO h.p (λ_=>rfl) (λp hm=>⟨rfl,hp p hm⟩) (λk hk=>by have:=xA k hk;omega),cW.vO h.bo (λ_=>rfl) (λp hm=>rfl) (λk hk=>by have:=xA k hk;omega),cW.vO h.t (λ_=>rfl) (λp hm=>rfl) (λk hk=>by have:=xA k hk;omega),h.oW,h.pD,λp hm=>⟨hx p.1 ?_,(h.kn p hm).weaken λk hk=>Or.inr (Or.inr (Or.inr hk))⟩,λp hm=>(h.tp p hm).weaken λk hk=>Or.inr (Or.inr (Or.inr hk))⟩
 rw[<-h.oW];exact Ah2.2 ⟨p,hm,rfl⟩
def pI.grown{W':Abc}{row:Option Nat}(h:pI W No b pv bv tv bs ts)(hg:W.grownBy W' row)(hr:∀k,row=some k->No k):pI W' No b pv bv tv bs ts:=
 ⟨h.p.grown hg hr,h.bo.grown hg hr,h.t.grown hg hr,h.oW,h.pD,λp hp=>⟨(h.kn p hp).1,(h.kn p hp).2.grown hg hr⟩,λp hp=>(h.tp p hp).grown hg hr⟩
def pI.book(h:pI W No b pv bv tv bs ts):bg W W.heap.size b pv bv tv:=by
 refine⟨h.p.row,?_,?_⟩
 ·rw[<-h.oW]
  exact yY h.bo.row (λp hm cs hc=>⟨p.2,hc,(h.kn p hm).1,(h.kn p hm).2.row⟩)
 ·rw[<-h.pD]
  exact yY h.t.row (λp hm cs hc=>⟨p.2,hc,(h.tp p hm).row⟩)
def bg.um{B:Nat}(h:bg W B b pv bv tv)(hB:B<=W.heap.size)(hN:∀k,No k->B<=k):∃bs ts,pI W No b pv bv tv bs ts:=by
 obtain⟨bs,fe,xH⟩:=I1 (R':=λ(p:bR×Value) cs=>cs=eP p/\p.1.name.size<=Aes/\Row W B 2 Span.R p.2 p.1.cM) h.aF (λx cs ⟨kv,h1,h2,h3⟩=>⟨kv,h1,h2,h3⟩)
 obtain⟨ts,il,pg⟩:=I1 (R':=λ(p:Tape×Value) cs=>cs=eG p/\Row W B 1 cH p.2 p.1.pieces) h.aJ (λx cs ⟨kv,h1,h3⟩=>⟨kv,h1,h3⟩)
 have ox:∀p∈bs,p.1.name.size<=Aes/\Row W B 2 Span.R p.2 p.1.cM:=λp hp=>by obtain⟨cs,h1,h2⟩:=xH.mem p hp;exact h2
 have rS:∀p∈ts,Row W B 1 cH p.2 p.1.pieces:=λp hp=>by obtain⟨cs,h1,h2⟩:=pg.mem p hp;exact h2
 exact⟨bs,ts,h.pieces.um hB hN,(xH.still (Still.refl W) λ_ _ h=>h.1).um hB hN,(pg.still (Still.refl W) λ_ _ h=>h.1).um hB hN,fe,il,λp hp=>⟨(ox p hp).1,(ox p hp).2.um hB hN⟩,λp hp=>(rS p hp).um hB hN⟩
end
end Go.Tw
namespace Go.Tw
variable [Go.Tw.aR]
open Go Go.Proofs Go.RowKit
def ajI(x:Piece):∀u∈vV x,u.oneCell'=true:=by simp[vV,Value.oneCell']
def ago(x:Int):∀u∈ [Afx .i64 x],u.oneCell'=true:=by simp[Value.oneCell']
def al5(x:Span):∀u∈Span.vs x,u.oneCell'=true:=by simp[Span.vs,Value.oneCell']
def Rh(v:Value):Prop:=∃A n c,v=.slice A n c
def pw{w:Abc}{base:Nat}{e:Aa8}{sz n:Nat}{v:Value}{xs:List Value}(h:w.ownsRow base e sz v n xs):Rh v:=j8 h
def copied{No:Nat->Prop}{w:Abc}{b:ao}{pv bv tv:Value}{bs:List (bR×Value)}{ts:List (Tape×Value)}(hN:pI w No b pv bv tv bs ts)(xA:∀k,No k->k<w.heap.size)(hv:Valid b):
 Aet prog 136 #[.agg #[.int .i64 b.ag,pv,bv,tv]] w λe w'=>∃ix ia fD oV qT,e=.returned (.agg #[.int .i64 b.ag,ix,ia,fD])/\pI w' No b ix ia fD oV qT/\Below w.heap.size w w':=by
 have ai:=hN.book;have HP:Hid (Row w w.heap.size 4 (λx cs=>cs=vV x) pv b.pieces):=Afl (ai.pieces.still (Still.refl w) λ_ _ h=>h.1)
 have fe:=hN.oW;have il:=hN.pD;have ox:∀p∈bs,cW w No 2 Span.R p.2 p.1.cM:=λp hp=>(hN.kn p hp).2
 have rS:∀p∈ts,cW w No 1 cH p.2 p.1.pieces:=hN.tp
 have YR:Hid (∀p∈b.pieces,p.name.size<=Aes):=Afl (λp hp=>by obtain⟨cs,h1,h2⟩:=ai.pieces.mem p hp;exact h2)
 have Y1:Hid (∀x∈b.aF,x.name.size<=Aes):=Afl (λp hp=>by obtain⟨cs,kv,h1,h2,h3⟩:=ai.aF.mem p hp;exact h2)
 have F4:Hid (Row w w.heap.size 3 (λp cs=>cs=eP p) bv bs):=Afl hN.bo.row
 have YZ:Hid (Row w w.heap.size 3 (λp cs=>cs=eG p) tv ts):=Afl hN.t.row
 have sT:=Afl xA;have hB:w.heap.size<=w.heap.size:=Ad4 _;have Dq:∀p∈bs,∀u∈eP p,u.oneCell'=true:=λp hp u hu=>by
  obtain⟨A,c,e,_⟩:=(ox p hp);simp[eP] at hu;rcases hu with rfl|rfl|rfl
  ·rfl
  ·rfl
  ·rw[e];rfl
 have Vk:∀p∈ts,∀u∈eG p,u.oneCell'=true:=λp hp u hu=>by
  obtain⟨A,c,e,_⟩:=rS p hp;simp[eG] at hu;rcases hu with rfl|rfl|rfl
  ·rw[e];rfl
  ·rfl
  ·rfl
 have fX:bs.length=b.aF.length:=by rw[<-fe,Aib]
 have qG:ts.length=b.aJ.length:=by rw[<-il,Aib]
 have C1:Hid (∀w',Still w.heap.size w w'->w.heap.size<=w'.heap.size->Aet prog 155 #[pv] w' λe bq=>∃v',e=.returned v'/\bq.ownsRow w'.heap.size 72 4 v' b.pieces.length (b.pieces.flatMap vV)/\Below w'.heap.size w' bq):=
  Afl λw' hs hz=>aaG (HP.out.still hs λ_ _ h=>h) hz (λ_=>rfl) (λp _=>ajI p) (by have:=hv.np;omega)
 have C2:Hid (∀w',Still w.heap.size w w'->w.heap.size<=w'.heap.size->Aet prog 135 #[bv] w' λe bq=>∃v',e=.returned v'/\bq.ownsRow w'.heap.size 59 3 v' bs.length (bs.flatMap eP)/\Below w'.heap.size w' bq):=
  Afl λw' hs hz=>Su (F4.out.still hs λ_ _ h=>h) hz (λ_=>rfl) Dq (by have:=hv.nb;omega)
 have C3:Hid (∀w',Still w.heap.size w w'->w.heap.size<=w'.heap.size->Aet prog 158 #[tv] w' λe bq=>∃v',e=.returned v'/\bq.ownsRow w'.heap.size 95 3 v' ts.length (ts.flatMap eG)/\Below w'.heap.size w' bq):=
  Afl λw' hs hz=>aaM (YZ.out.still hs λ_ _ h=>h) hz (λ_=>rfl) Vk (by have:=hv.nt;omega)
 have HM:=Afl (Aee ox (Aee rS (Aee fe (Aee il (Aee fX qG)))));obtain⟨A1,n1,c1,rfl,-⟩:=ai.pieces.open_;obtain⟨A2,n2,c2,rfl,-⟩:=ai.aF.open_;obtain⟨A3,n3,c3,rfl,-⟩:=ai.aJ.open_;have HV:=Afl hv;clear ai hv ox rS Dq Vk fe il fX qG hN xA;go_enter func136,Tryz.ntmps136;go_wp2;obtain⟨W0,z8⟩:∃W0,W0=((w.alloc (.cells #[.int .i64 b.ag,.slice A1 n1 c1,.slice A2 n2 c2,.slice A3 n3 c3] 26)).alloc (.cells #[.int .i64 0,.slice none 0 0,.slice none 0 0,.slice none 0 0] 26)):=⟨_,rfl⟩
 rw[<-z8];have kb:Bk W0 w.heap.size 26 #[.int .i64 b.ag,.slice A1 n1 c1,.slice A2 n2 c2,.slice A3 n3 c3]:=by rw[z8];exact(Bk.new w _ _).alloc _
 have kr:Bk W0 (w.heap.size+1) 26 #[.int .i64 0,.slice none 0 0,.slice none 0 0,.slice none 0 0]:=by rw[z8];exact Bk.cG (by simp) _ _
 have bw:Below w.heap.size w W0:=by rw[z8];exact(((Aft _ _).alloc (Ad4 _) _).alloc (by simp) _)
 have cT:W0.heap.size=w.heap.size+2:=by rw[z8];simp
 have KB:=Afl (Aee kb kr);have BW:=Afl bw;have k1:=kb.cell 1;have k2:=kb.cell 2;have k3:=kb.cell 3;clear z8 kb kr bw;have KD:Hid (Bk W0.drew w.heap.size 26 #[.int .i64 b.ag,.slice A1 n1 c1,.slice A2 n2 c2,.slice A3 n3 c3]):=Afl KB.out.1;have BD:Hid (Below w.heap.size w W0.drew):=Afl (iY BW.out);have ZD:w.heap.size<W0.drew.heap.size:=KD.out.lt;have SB:Hid (∀w',Below w.heap.size w w'->Still w.heap.size w w'/\w.heap.size<=w'.heap.size):=Afl λw' h=>⟨Still.aK h hB,by have:=h.size;omega⟩
 refine Code.wp_mono (Q:=dP λa W=>∃A9 n9 c9 mh iq c12 pG n15 c15,a={tmps:=#[Value.agg #[Afx Adf b.ag,Value.slice A1 n1 c1,Value.slice A2 n2 c2,Value.slice A3 n3 c3],Value.pointer (some {block:=w.heap.size,off:=0}),Value.pointer (some {block:=w.heap.size+1,off:=0}),Aeq,Aeq,Aeq,Aeq,Value.pointer (some {block:=w.heap.size,off:=1}),Value.slice A1 n1 c1,Value.slice A9 n9 c9,Value.pointer (some {block:=w.heap.size,off:=2}),Value.slice A2 n2 c2,Value.slice mh iq c12,Value.pointer (some {block:=w.heap.size,off:=3}),Value.slice A3 n3 c3,Value.slice pG n15 c15,Value.pointer (some {block:=w.heap.size,off:=1}),Value.pointer (some {block:=w.heap.size,off:=2}),Value.pointer (some {block:=w.heap.size,off:=3}),Aeq,Aeq,Aeq,Aeq,Aeq,Aeq,Aeq,Aeq,Aeq,Aeq,Aeq,Aeq,Aeq,Aeq,Aeq,Aeq,Aeq,Aeq,Aeq,Aeq,Aeq,Aeq,Aeq,Aeq,Aeq,Aeq,Aeq,Aeq,Aeq,Aeq,Aeq,Aeq,Aeq,Aeq,Aeq],defers:=[]}/\Hid (∃s1 s2,CI No b w W w.heap.size s1 s2 (.slice A9 n9 c9) (.slice mh iq c12) (.slice pG n15 c15) bs ts)) ?post ?region
 case region=>
  go_region_with (first
   | (go_at_call 155
      refine(C1.out _ ?h1 ?h2).mono ?_
      case h1=>exact(SB.out _ BD.out).1
      case h2=>exact(SB.out _ BD.out).2
      rintro e w3 ⟨v9,rfl,o9,bD⟩;have k1: w3.cell? ⟨w.heap.size,1,none⟩=some (.slice A1 n1 c1):=(KD.out.below bD ZD).cell 1;have k2: w3.cell? ⟨w.heap.size,2,none⟩=some (.slice A2 n2 c2):=(KD.out.below bD ZD).cell 2;have k3: w3.cell? ⟨w.heap.size,3,none⟩=some (.slice A3 n3 c3):=(KD.out.below bD ZD).cell 3;have fw:=Afl bD;have O9:=Afl o9;obtain⟨A9,n9,c9,rfl⟩:=pw o9;clear bD o9)
   | (go_at_call 135
      refine(C2.out _ ?h1 ?h2).mono ?_
      case h1=>exact(SB.out _ (BD.out.trans (fw.out.mono (Agq ZD)))).1
      case h2=>exact(SB.out _ (BD.out.trans (fw.out.mono (Agq ZD)))).2
      rintro e w4 ⟨v12,rfl,qN,cO⟩;have k3: w4.cell? ⟨w.heap.size,3,none⟩=some (.slice A3 n3 c3):=((KD.out.below fw.out ZD).below cO (by have:=fw.out.size;omega)).cell 3
      have jK:=Afl cO;have zv:=Afl qN;obtain⟨mh,iq,c12,rfl⟩:=pw qN;clear cO qN)
   | (go_at_call 158
      refine(C3.out _ ?h1 ?h2).mono ?_
      case h1=>exact(SB.out _ ((BD.out.trans (fw.out.mono (Agq ZD))).trans (jK.out.mono (by have:=fw.out.size;omega)))).1
      case h2=>exact(SB.out _ ((BD.out.trans (fw.out.mono (Agq ZD))).trans (jK.out.mono (by have:=fw.out.size;omega)))).2
      rintro e w5 ⟨v15,rfl,Bb,eR⟩;have uD:Hid (Bk w5 w.heap.size 26 #[.int .i64 b.ag,.slice A1 n1 c1,.slice A2 n2 c2,.slice A3 n3 c3]):=Afl (((KD.out.below fw.out ZD).below jK.out (by have:=fw.out.size;omega)).below eR (by have:=fw.out.size;have:=jK.out.size;omega))
      have z5:w.heap.size<w5.heap.size:=uD.out.lt;have f1: w5.frozen? ⟨w.heap.size,1,none⟩=false:=uD.out.frozen 1;have f2: w5.frozen? ⟨w.heap.size,2,none⟩=false:=uD.out.frozen 2;have f3: w5.frozen? ⟨w.heap.size,3,none⟩=false:=uD.out.frozen 3;have k1: w5.cell? ⟨w.heap.size,1,none⟩=some (.slice A1 n1 c1):=uD.out.cell 1;have k2: w5.cell? ⟨w.heap.size,2,none⟩=some (.slice A2 n2 c2):=uD.out.cell 2;have k3: w5.cell? ⟨w.heap.size,3,none⟩=some (.slice A3 n3 c3):=uD.out.cell 3;have mi:=Afl eR;have Zc:=Afl Bb;obtain⟨pG,n15,c15,rfl⟩:=pw Bb;clear eR Bb))
  all_goals
   show ∃_,_
   refine⟨_,_,_,_,_,_,_,_,_,rfl,Afl ⟨w3.heap.size,w4.heap.size,?_⟩⟩
   have e3:=fw.out.size;have e4:=jK.out.size;have Ca:w.heap.size+2<=W0.drew.heap.size:=Agn cT.symm;refine CI.start (W:=w5) fw.out jK.out mi.out Ca uD.out (((KB.out.2.drew.below fw.out (by omega)).below jK.out (by omega)).below mi.out (by omega)) O9.out zv.out Zc.out HM.out.2.2.1 HM.out.2.2.2.1 HM.out.1 HM.out.2.1 sT.out BD.out
 case post=>
  clear C1 C2 C3 KB KD BD BW HP k1 k2 k3 SB;refine dP.imp ?_
  rintro a W ⟨A9,n9,c9,mh,iq,c12,pG,n15,c15,rfl,s1,s2,HC⟩;have UB:iq=bs.length:=Be HC.bo;have UC:n15=ts.length:=Be HC.t;have aov:iq<=3:=by have:=HV.out.nb;have:=HM.out.2.2.2.2.1;omega
  have aox:n15<=4:=by have:=HV.out.nt;have:=HM.out.2.2.2.2.2;omega
  have k2: W.cell? ⟨w.heap.size,2,none⟩=some (.slice mh iq c12):=HC.box.cell 2;have an3:iq<=c12/\c12<=2 ^ 63 - 1:=Wt HC.bo;have an4:n15<=c15/\c15<=2 ^ 63 - 1:=Wt HC.t;have HL:=Afl (Aee UB UC);clear UB UC;have HC:=Afl HC;rename_i Kt;clear Kt ZD cT;go_wp2;clear k2;go_loopw [22] (λu wr=>∃i:Nat,i<=iq/\u=.int .i64 i/\Hid (∃oV,CI No b w wr w.heap.size s1 s2 (.slice A9 n9 c9) (.slice mh iq c12) (.slice pG n15 c15) oV ts)) (λu _=>iq - (Ahb u).toNat)
  case atStart=>exact⟨0,Agl _,rfl,Afl ⟨bs,HC.out⟩⟩
  case round=>
   obtain⟨i,hi,rfl,oV,hC⟩:=hrel;by_cases al:i<iq
   ·obtain⟨rb,rfl⟩:=Ww hC.bo (by omega)
    have tE:iq=oV.length:=Be hC.bo;obtain⟨⟨x,kv⟩,hx⟩:∃p,oV[i]?=some p:=⟨_,Af6 (by omega)⟩
    have da:=hC.kn _ (Agd hx);simp only at da;have hxs:x.cM.length<=3:=by
     have:x∈b.aF:=by rw[<-hC.oW];exact Ah2.2 ⟨_,Agd hx,rfl⟩
     exact(HV.out.bp x this).cM
    obtain⟨kn,rI⟩:∃k,k=x.cM:=⟨_,rfl⟩
    rw[<-rI] at da hxs;obtain⟨m5,rN⟩:∃m,m=kn.length:=⟨_,rfl⟩
    obtain⟨A5,c5,rfl,-⟩:=id da;rw[<-rN] at da hxs hx;have g0: wr.cell? ⟨rb,i * 3,none⟩=some (.string x.name):=hC.Gx (j:=0) hx rfl;have g1: wr.cell? ⟨rb,i * 3+1,none⟩=some (.int .i64 x.aH):=hC.Gx (j:=1) hx rfl;have g2: wr.cell? ⟨rb,i * 3+2,none⟩=some (.slice A5 m5 c5):=hC.Gx (j:=2) hx rfl;have mF:rb<wr.heap.size:=vU hC.bo rb rfl;have Aq:w.heap.size<rb:=by have:=ei hC.bo rb rfl;have:=hC.g1;omega
    have HX:=Afl (Aee hx (Aee rI rN));have KE:=Afl da;have qZ:=Afl hC;clear hx da hC rI rN tE;go_wp2;have oo:=qZ.out.grown (W':=(wr.alloc (.cells #[.string x.name,.int .i64 x.aH,.slice A5 m5 c5] 59)).drew) (qd wr _ none);have Kx:=Afl oo;have Ep:(wr.alloc (.cells #[.string x.name,.int .i64 x.aH,.slice A5 m5 c5] 59)).drew.cell? ⟨w.heap.size,2,none⟩=some (.slice (some ⟨rb,0,none⟩) iq c12):=oo.box.cell 2;have Di:(wr.alloc (.cells #[.string x.name,.int .i64 x.aH,.slice A5 m5 c5] 59)).drew.cell? ⟨wr.heap.size,2,none⟩=some (.slice A5 m5 c5):=(Bk.new wr _ _).cell 2;have aB:Hid (Aet prog 179 #[.slice A5 m5 c5] (wr.alloc (.cells #[.string x.name,.int .i64 x.aH,.slice A5 m5 c5] 59)).drew λe w'=>∃v',e=.returned v'/\
     cW w' (rj No w.heap.size (.slice (some ⟨rb,0,none⟩) iq c12) (.slice pG n15 c15)) 2 Span.R v' kn/\Below (wr.alloc (.cells #[.string x.name,.int .i64 x.aH,.slice A5 m5 c5] 59)).drew.heap.size (wr.alloc (.cells #[.string x.name,.int .i64 x.aH,.slice A5 m5 c5] 59)).drew w'):=Afl (by
     have hk:=KE.out.grown (w':=(wr.alloc (.cells #[.string x.name,.int .i64 x.aH,.slice A5 m5 c5] 59)).drew) (qd wr _ none) (by simp)
     obtain⟨r0,r1,r2,r3,lf⟩:=oo.res;refine(aaJ hk.row (Ad4 _) (λ_=>rfl) (λp _=>al5 p) (by rw[<-HX.out.2.2];omega)).mono ?_
     rintro e w' ⟨v',rfl,ho,hb⟩;refine⟨v',rfl,cW.vO ho (λ_=>rfl) (λ_ _=>rfl) (λk hk=>?_),hb⟩
     rcases hk with hk|hk|hk|hk
     ·exact vU oo.bo k hk
     ·exact vU oo.t k hk
     ·rw[hk];exact lf.lt
     ·have:=sT.out k hk;have:=lf.lt;omega)
    clear oo;go_region_held3 (λw'=> w'.cell? ⟨w.heap.size,2,none⟩=some (.slice (some ⟨rb,0,none⟩) iq c12)/\ w'.cell? ⟨wr.heap.size,2,none⟩=some (.slice A5 m5 c5))
     (first|exact⟨Ep,Di⟩ |exact⟨mH,ak⟩ |exact⟨rY _,ef _⟩)
     (first
       | (go_at_call 179
          refine aB.out.mono ?_
          rintro e w5 ⟨v9,rfl,r9,oZ⟩;obtain⟨A7,c7,rfl,-⟩:=id r9;have mH: w5.cell? ⟨w.heap.size,2,none⟩=some (.slice (some ⟨rb,0,none⟩) iq c12):=(oZ.cell (by simp;omega)).trans Ep
          have ak: w5.cell? ⟨wr.heap.size,2,none⟩=some (.slice A5 m5 c5):=(oZ.cell (by simp)).trans Di
          have cX:=Kx.out.grown (je oZ (Ad4 _) none);have hg: w5.cell? ⟨rb,i * 3+2,none⟩=some (.slice A5 m5 c5):=cX.Gx (j:=2) HX.out.1 rfl;have hf: w5.frozen? ⟨rb,i * 3+2,none⟩=false:=cX.ac1 _;have rY:∀u,(w5.setCell ⟨rb,i * 3+2,none⟩ u).cell? ⟨w.heap.size,2,none⟩=some (.slice (some ⟨rb,0,none⟩) iq c12):=λu=>(Aip _ _ _ _ (by simp;omega)).trans mH
          have ef:∀u,(w5.setCell ⟨rb,i * 3+2,none⟩ u).cell? ⟨wr.heap.size,2,none⟩=some (.slice A5 m5 c5):=λu=>(Aip _ _ _ _ (by simp;omega)).trans ak
          have lF:=Afl (Aee r9 cX);clear oZ r9 cX))
    go_wp2;go_roundw;case rel=>exact⟨i+1,by omega,by go_num,Afl ⟨_,lF.out.2.alm HX.out.1 (by rw[<-HX.out.2.1];exact lF.out.1)⟩⟩
    case measure=>simp[Ahb];omega
   ·obtain rfl:i=iq:=by omega
    have Ku:=Afl hC;obtain⟨wb,rfl⟩:∃wb:Abc,wb=wr:=⟨_,rfl⟩
    have k3: wb.cell? ⟨w.heap.size,3,none⟩=some (.slice pG n15 c15):=hC.box.cell 3;clear hC;go_wp2;clear k3;go_loopw [39] (λu wr=>∃k:Nat,k<=n15/\u=.int .i64 k/\Hid (∃qT,CI No b w wr w.heap.size s1 s2 (.slice A9 n9 c9) (.slice mh i c12) (.slice pG n15 c15) oV qT)) (λu _=>n15 - (Ahb u).toNat)
    case atStart=>exact⟨0,Agl _,rfl,Afl ⟨ts,Ku.out⟩⟩
    case round=>
     obtain⟨k,hk,rfl,qT,hC⟩:=hrel;by_cases al:k<n15
     ·obtain⟨rb,rfl⟩:=Ww hC.t (by omega)
      have tE:n15=qT.length:=Be hC.t;obtain⟨⟨x,kv⟩,hx⟩:∃p,qT[k]?=some p:=⟨_,Af6 (by omega)⟩
      have da:=hC.tp _ (Agd hx);simp only at da;have hxs:x.pieces.length<=3:=by
       have:x∈b.aJ:=by rw[<-hC.pD];exact Ah2.2 ⟨_,Agd hx,rfl⟩
       have:=(HV.out.tape x this).2;have:=HV.out.np;omega
      obtain⟨kn,rI⟩:∃k,k=x.pieces:=⟨_,rfl⟩
      rw[<-rI] at da hxs;obtain⟨m5,rN⟩:∃m,m=kn.length:=⟨_,rfl⟩
      obtain⟨A5,c5,rfl,-⟩:=id da;rw[<-rN] at da hxs hx;have g0: wr.cell? ⟨rb,k * 3,none⟩=some (.slice A5 m5 c5):=hC.Gy (j:=0) hx rfl;have g1: wr.cell? ⟨rb,k * 3+1,none⟩=some (.int .i64 x.sum.lo):=hC.Gy (j:=1) hx rfl;have g2: wr.cell? ⟨rb,k * 3+2,none⟩=some (.int .i64 x.sum.hi):=hC.Gy (j:=2) hx rfl;have mF:rb<wr.heap.size:=vU hC.t rb rfl;have Aq:w.heap.size<rb:=by have:=ei hC.t rb rfl;have:=hC.g1;have:=hC.g2;omega
      have HX:=Afl (Aee hx (Aee rI rN));have KE:=Afl da;have qZ:=Afl hC;clear hx da hC rI rN tE;go_wp2;have oo:=qZ.out.grown (W':=(wr.alloc (.cells #[.slice A5 m5 c5,.int .i64 x.sum.lo,.int .i64 x.sum.hi] 95)).drew) (qd wr _ none);have Kx:=Afl oo;have Ep:(wr.alloc (.cells #[.slice A5 m5 c5,.int .i64 x.sum.lo,.int .i64 x.sum.hi] 95)).drew.cell? ⟨w.heap.size,3,none⟩=some (.slice (some ⟨rb,0,none⟩) n15 c15):=oo.box.cell 3;have Di:(wr.alloc (.cells #[.slice A5 m5 c5,.int .i64 x.sum.lo,.int .i64 x.sum.hi] 95)).drew.cell? ⟨wr.heap.size,0,none⟩=some (.slice A5 m5 c5):=(Bk.new wr _ _).cell 0;have aB:Hid (Aet prog 180 #[.slice A5 m5 c5] (wr.alloc (.cells #[.slice A5 m5 c5,.int .i64 x.sum.lo,.int .i64 x.sum.hi] 95)).drew λe w'=>∃v',e=.returned v'/\
               cW w' (rj No w.heap.size (.slice mh i c12) (.slice (some ⟨rb,0,none⟩) n15 c15)) 1 cH v' kn/\Below (wr.alloc (.cells #[.slice A5 m5 c5,.int .i64 x.sum.lo,.int .i64 x.sum.hi] 95)).drew.heap.size (wr.alloc (.cells #[.slice A5 m5 c5,.int .i64 x.sum.lo,.int .i64 x.sum.hi] 95)).drew w'):=Afl (by
       have hk:=KE.out.grown (w':=(wr.alloc (.cells #[.slice A5 m5 c5,.int .i64 x.sum.lo,.int .i64 x.sum.hi] 95)).drew) (qd wr _ none) (by simp)
       obtain⟨r0,r1,r2,r3,lf⟩:=oo.res;refine(aaD (f:=λn=> [.int .i64 n]) hk.row (Ad4 _) (λ_=>rfl) (λp _=>ago p) (by rw[<-HX.out.2.2];omega)).mono ?_
       rintro e w' ⟨v',rfl,ho,hb⟩;refine⟨v',rfl,cW.vO ho (λ_=>rfl) (λ_ _=>rfl) (λk hk=>?_),hb⟩
       rcases hk with hk|hk|hk|hk
       ·exact vU oo.bo k hk
       ·exact vU oo.t k hk
       ·rw[hk];exact lf.lt
       ·have:=sT.out k hk;have:=lf.lt;omega)
      clear oo;go_region_held3 (λw'=> w'.cell? ⟨w.heap.size,3,none⟩=some (.slice (some ⟨rb,0,none⟩) n15 c15)/\ w'.cell? ⟨wr.heap.size,0,none⟩=some (.slice A5 m5 c5))
       (first|exact⟨Ep,Di⟩ |exact⟨mH,ak⟩ |exact⟨rY _,ef _⟩)
       (first
               | (go_at_call 180
                  refine aB.out.mono ?_
                  rintro e w5 ⟨v9,rfl,r9,oZ⟩;obtain⟨A7,c7,rfl,-⟩:=id r9;have mH: w5.cell? ⟨w.heap.size,3,none⟩=some (.slice (some ⟨rb,0,none⟩) n15 c15):=(oZ.cell (by simp;omega)).trans Ep
                  have ak: w5.cell? ⟨wr.heap.size,0,none⟩=some (.slice A5 m5 c5):=(oZ.cell (by simp)).trans Di
                  have cX:=Kx.out.grown (je oZ (Ad4 _) none);have hg: w5.cell? ⟨rb,k * 3,none⟩=some (.slice A5 m5 c5):=cX.Gy (j:=0) HX.out.1 rfl;have hf: w5.frozen? ⟨rb,k * 3,none⟩=false:=cX.ac2 _;have rY:∀u,(w5.setCell ⟨rb,k * 3,none⟩ u).cell? ⟨w.heap.size,3,none⟩=some (.slice (some ⟨rb,0,none⟩) n15 c15):=λu=>(Aip _ _ _ _ (by simp;omega)).trans mH
                  have ef:∀u,(w5.setCell ⟨rb,k * 3,none⟩ u).cell? ⟨wr.heap.size,0,none⟩=some (.slice A5 m5 c5):=λu=>(Aip _ _ _ _ (by simp;omega)).trans ak
                  have lF:=Afl (Aee r9 cX);clear oZ r9 cX))
      go_wp2;go_roundw;case rel=>exact⟨k+1,by omega,by go_num,Afl ⟨_,lF.out.2.alo HX.out.1 (by rw[<-HX.out.2.1];exact lF.out.1)⟩⟩
      case measure=>simp[Ahb];omega
     ·obtain rfl:k=n15:=by omega
      have q0:=hC.box.cell 0;have q1:=hC.box.cell 1;have q2:=hC.box.cell 2;have q3:=hC.box.cell 3;obtain⟨r0,r1,r2,r3,lf⟩:=hC.res;have p0:=lf.cell 0;have p1:=lf.cell 1;have p2:=lf.cell 2;have p3:=lf.cell 3;have f0:=lf.frozen 0;have f1:=lf.frozen 1;have f2:=lf.frozen 2;have f3:=lf.frozen 3;have rV:w.heap.size+1<wr.heap.size:=lf.lt;have qZ:=Afl hC;clear hC;have qz:=((((lf.set 0 (.int .i64 b.ag)).set 1 (.slice A9 n9 c9)).set 2 (.slice mh i c12)).set 3 (.slice pG k c15));have y0:=qz.cell 0;have y1:=qz.cell 1;have y2:=qz.cell 2;have y3:=qz.cell 3;have QY:=Afl ((((qZ.out.Ja (i:=0) (u:=.int .i64 b.ag) (by omega)).Ja (i:=1) (u:=.slice A9 n9 c9) (by omega)).Ja (i:=2) (u:=.slice mh i c12) (by omega)).Ja (i:=3) (u:=.slice pG k c15) (by omega))
      clear lf qz;go_wp2;refine bodyPost_ret (v:=.agg #[.int .i64 b.ag,.slice A9 n9 c9,.slice mh i c12,.slice pG k c15]) (by simp[results,Tryz.results136,go_sem,y0,y1,y2,y3]) rfl ⟨_,_,_,_,_,rfl,QY.out.ZO YR.out Y1.out sT.out,QY.out.below⟩
def ug{P:Program}{ops:Array Oper}{o:Oper}{a:Act}{w:Abc}{K:Act->Abc->Prop}{Q:Exit->Act->Abc->Prop}{E:Prop}(hg:o.guard=none)(s x:Operand)(t:Aa8)
 (ho:o.op=.call {callee:=.builtin .append,args:=#[s,x],argTypes:=#[t,t]})
 (base:Nat)(e:Aa8)(i:TypeInfo)(z:Value)(size bytes:Nat)(ht:P.underlying t=some (.slice e))(hi: P.info? e=some i)(hz:i.zero=some z)
 (yk:i.size=size)(ES:i.bytes=bytes)(hzs:z.cells.size=size)(aI:0<size)
 (v:Value)(n:Nat)(xs:List Value)(hs:a.eval s=v)(aG:w.ownsRow base e size v n xs)
 (ad:Aa5)(m c:Nat)(news:List Value)(hx:a.eval x=.slice (some ad) m c)(hl:news.length=m * size)(Hs:∀j u,news[j]?=some u-> w.cell? (ad.add j)=some u)(h1:∀u∈news,u.oneCell'=true)
 (TI:n+m<=Aes)(abl:(n+m) * bytes<=140737488355328)(MO:base<=w.heap.size)
 (h:∀v' w',w'.ownsRow base e size v' (n+m) (xs++news)->w.grownBy w' v.ownBlock->K (a.put o.dst v') w'):if Region.wanted o (yielded ops a.tmps)=true then Oper.wp P o a w K Q else E:=by
 have hw:Region.wanted o (yielded ops a.tmps)=true:=by simp[Region.wanted,hg]
 rw[if_pos hw];exact wp_append_own w s x t ho base e i z size bytes ht hi hz yk ES hzs aI v n xs hs aG ad m c news hx hl Hs h1 TI abl MO λv' w' h2 h3 _=>h v' w' h2 h3
def fj(b:ao)(x:bR):ao:={b with aF:=b.aF++ [x]}
def Zg{w w1 w6:Abc}{b:ao}{x:bR}{bs:List (bR×Value)}{pv bv tv kv yU:Value}{B:Nat}(hB:B<=w.heap.size)(ai:bg w B b pv bv tv)(Ib:x.name.size<=Aes)(Ef:Row w B 2 Span.R kv x.cM)
 (ox:∀p∈bs,p.1.name.size<=Aes/\Row w B 2 Span.R p.2 p.1.cM)(fe:bs.map Ajg=b.aF)(h1:Below w.heap.size w w1)(h6:Below w1.heap.size w1 w6)(hz:w.heap.size+3<=w1.heap.size)
 (o:w6.ownsRow w1.heap.size 59 3 yU (bs.length+1) (bs.flatMap eP++ [.string x.name,.int .i64 x.aH,kv]))
 (kb:Bk w1 w.heap.size 26 #[.int .i64 b.ag,pv,bv,tv])(kr:Bk w1 (w.heap.size+2) 26 #[.int .i64 0,.slice none 0 0,.slice none 0 0,.slice none 0 0]):
 (∃oV qT,pI (w6.setCell ⟨w.heap.size,2,none⟩ yU) (λk=>k=w.heap.size+2) (fj b x) pv yU tv oV qT)/\Bk (w6.setCell ⟨w.heap.size,2,none⟩ yU) w.heap.size 26 #[.int .i64 b.ag,pv,yU,tv]/\
 Bk (w6.setCell ⟨w.heap.size,2,none⟩ yU) (w.heap.size+2) 26 #[.int .i64 0,.slice none 0 0,.slice none 0 0,.slice none 0 0]/\Below w.heap.size w (w6.setCell ⟨w.heap.size,2,none⟩ yU)/\Rh yU:=by
 have e6:=h6.size;have bW:Below w.heap.size w (w6.setCell ⟨w.heap.size,2,none⟩ yU):=(h1.trans (h6.mono (by omega))).setCell (Ad4 _) _
 have o':(w6.setCell ⟨w.heap.size,2,none⟩ yU).ownsRow w1.heap.size 59 3 yU (bs++ [(x,kv)]).length ((bs++ [(x,kv)]).flatMap eP):=by
  have:=eo (u:=yU) (p:=⟨w.heap.size,2,none⟩) o (by simp<;>omega)
  simpa [eP] using this
 have hN:∀k,k=w.heap.size+2->(λk=>w.heap.size<=k) k\/w.heap.size<=k:=λk hk=>Or.inr (by omega)
 obtain⟨bs0,ts,hn⟩:=ai.um (No:=λk=>w.heap.size<=k) hB (λk hk=>by omega)
 refine⟨⟨bs++ [(x,kv)],ts,hn.p.below bW hN,cW.vO o' (λ_=>rfl) (λp hm=>rfl) (λk hk=>by omega),hn.t.below bW hN,by simp[fj,fe],hn.pD,λp hm=>?_,λp hm=>(hn.tp p hm).below bW hN⟩,(kb.below h6 (by omega)).set 2 yU,(kr.below h6 (by omega)).cu (by simp) _,bW,pw o⟩
 rcases Af5.1 hm with hm|hm
 ·exact⟨(ox p hm).1,((ox p hm).2.um (No:=λk=>w.heap.size<=k) hB (λk hk=>by omega)).below bW hN⟩
 ·simp at hm;subst hm
  exact⟨Ib,(Ef.um (No:=λk=>w.heap.size<=k) hB (λk hk=>by omega)).below bW hN⟩
def Zh{w:Abc}{b:ao}{x:bR}{pv bv tv kv:Value}{B:Nat}(hB:B<=w.heap.size)(ai:bg w B b pv bv tv)(Ib:x.name.size<=Aes)(Ef:Row w B 2 Span.R kv x.cM)(h0:dF b=0)(h1:dF (fj b x)=0):
 Aet prog 53 #[.agg #[.int .i64 b.ag,pv,bv,tv],.agg #[.string x.name,.int .i64 x.aH,kv]] w λe w'=>∃ix ia fD,e=.returned (.tuple #[.agg #[.int .i64 b.ag,ix,ia,fD],.int .i64 0])/\bg w' w'.heap.size (fj b x) ix ia fD/\Below w.heap.size w w':=by
 obtain⟨bs,fe,xH⟩:=I1 (R':=λ(p:bR×Value) cs=>cs=eP p/\p.1.name.size<=Aes/\Row w B 2 Span.R p.2 p.1.cM) ai.aF (λx cs ⟨kv,h1,h2,h3⟩=>⟨kv,h1,h2,h3⟩)
 have ox:∀p∈bs,p.1.name.size<=Aes/\Row w B 2 Span.R p.2 p.1.cM:=λp hp=>by obtain⟨cs,h1,h2⟩:=xH.mem p hp;exact h2
 have F4:Hid (Row w B 3 (λp cs=>cs=eP p) bv bs):=Afl (xH.still (Still.refl w) λ_ _ h=>h.1)
 have Dq:∀p∈bs,∀u∈eP p,u.oneCell'=true:=λp hp u hu=>by
  obtain⟨A,c,e,_⟩:=(ox p hp).2;simp[eP] at hu;rcases hu with rfl|rfl|rfl
  ·rfl
  ·rfl
  ·rw[e];rfl
 have fX:bs.length=b.aF.length:=by rw[<-fe,Aib]
 have hv:=iy h0;have Au:bs.length<=3:=by rw[fX];exact hv.nb
 have C2:Hid (∀w',Still B w w'->B<=w'.heap.size->Aet prog 135 #[bv] w' λe bq=>∃v',e=.returned v'/\bq.ownsRow w'.heap.size 59 3 v' bs.length (bs.flatMap eP)/\Below w'.heap.size w' bq):=
  Afl λw' hs hz=>Su (F4.out.still hs λ_ _ h=>h) hz (λ_=>rfl) Dq (by omega)
 have HM:=Afl (Aee ox (Aee fe fX));have bT:=Afl ai;have HH:=Afl (Aee h0 (Aee h1 (Aee Ib Ef)));obtain⟨A1,n1,c1,rfl,-⟩:=ai.pieces.open_;obtain⟨A2,n2,c2,rfl,-⟩:=ai.aF.open_;obtain⟨A3,n3,c3,rfl,-⟩:=ai.aJ.open_;obtain⟨A4,n4,c4,rfl,-⟩:=Ef.open_;obtain⟨i0,cR,cT,aN,ba⟩:=Agy VI;have dv:=Afl (Aee cR (Aee cT (Aee aN ba)));clear ai xH ox Dq fe fX hv h0 h1 Ib Ef cR cT aN ba;go_enter func53,Tryz.ntmps53;go_wp2_with (first
  | (go_at_call 68;refine(ry (bT.out.still ((((Still.refl w).alloc hB _).alloc (by simp<;>omega) _).alloc (by simp<;>omega) _)) (by simp<;>omega) HH.out.1).mono ?_;rintro e w1 ⟨rfl,ae⟩
     have kb:Bk w1 w.heap.size 26 #[.int .i64 b.ag,.slice A1 n1 c1,.slice A2 n2 c2,.slice A3 n3 c3]:=(((Bk.new w _ _).alloc _).alloc _).below ae (by simp<;>omega)
     have kx:Bk w1 (w.heap.size+1) 59 #[.string x.name,.int .i64 x.aH,.slice A4 n4 c4]:=((Bk.cG (by simp<;>omega) _ _).alloc _).below ae (by simp<;>omega)
     have kr:Bk w1 (w.heap.size+2) 26 #[.int .i64 0,.slice none 0 0,.slice none 0 0,.slice none 0 0]:=(Bk.cG (by simp<;>omega) _ _).below ae (by simp)
     have aY:Hid (Below w.heap.size w w1):=Afl (((((Aft _ _).alloc (Ad4 _) _).alloc (by simp) _).alloc (by simp<;>omega) _).trans (ae.mono (by simp<;>omega)))
     have HK:=Afl (Aee kb (Aee kx kr));clear kb kx kr ae))
 have k2: w1.cell? ⟨w.heap.size,2,none⟩=some (.slice A2 n2 c2):=HK.out.1.cell 2;have x0: w1.cell? ⟨w.heap.size+1,0,none⟩=some (.string x.name):=HK.out.2.1.cell 0;have x1: w1.cell? ⟨w.heap.size+1,1,none⟩=some (.int .i64 x.aH):=HK.out.2.1.cell 1;have x2: w1.cell? ⟨w.heap.size+1,2,none⟩=some (.slice A4 n4 c4):=HK.out.2.1.cell 2;have hz:w.heap.size+3<=w1.heap.size:=HK.out.2.2.lt;have jW:w.heap.size<w1.heap.size:=by omega
 have ae3:w.heap.size<=w1.heap.size:=by omega
 have ae4:w.heap.size+1<w1.heap.size:=by omega
 have ae5:w.heap.size+1<=w1.heap.size:=by omega
 have XD:Hid (Below w1.heap.size w1 w1.drew):=Afl (iY (Aft _ _));have XA:Hid (∀o,Below w1.heap.size w1 (w1.drew.alloc o)):=Afl λo=>(iY (Aft _ _)).alloc (Ad4 _) o
 have SB:Hid (∀w',Below w1.heap.size w1 w'->Still B w w'/\B<=w'.heap.size):=Afl λw' h=>⟨Still.aK (aY.out.trans (h.mono (by omega))) hB,by have:=h.size;omega⟩
 refine Code.wp_mono (Q:=dP λa W=>∃mh iq c12 XX wE n19 c19,a={tmps:=#[Value.agg #[.int .i64 b.ag,.slice A1 n1 c1,.slice A2 n2 c2,.slice A3 n3 c3],Value.agg #[.string x.name,.int .i64 x.aH,.slice A4 n4 c4],Value.pointer (some {block:=w.heap.size,off:=0}),Value.pointer (some {block:=w.heap.size+1,off:=0}),Value.pointer (some {block:=w.heap.size+1+1,off:=0}),.int .i64 0,.int .i64 0,Aeq,Value.agg #[.int .i64 b.ag,.slice A1 n1 c1,.slice A2 n2 c2,.slice A3 n3 c3],.int .i64 0,.int .i64 0,.bool false,Aeq,Aeq,Value.pointer (some {block:=w.heap.size,off:=2}),.slice A2 n2 c2,.slice mh iq c12,Value.agg #[.string x.name,.int .i64 x.aH,.slice A4 n4 c4],XX,.slice wE n19 c19,Value.pointer (some {block:=w.heap.size,off:=2}),Aeq,Aeq,Aeq,Aeq,Aeq,Aeq,Aeq,Aeq],defers:=[]}/\Hid ((∃oV qT,pI W (λk=>k=w.heap.size+2) (fj b x) (.slice A1 n1 c1) (.slice wE n19 c19) (.slice A3 n3 c3) oV qT)/\Bk W w.heap.size 26 #[.int .i64 b.ag,.slice A1 n1 c1,.slice wE n19 c19,.slice A3 n3 c3]/\
  Bk W (w.heap.size+2) 26 #[.int .i64 0,.slice none 0 0,.slice none 0 0,.slice none 0 0]/\Below w.heap.size w W)) ?post ?region
 case region=>
  go_region_law (first
   | (go_simp
      go_at_call 135
      refine(C2.out _ ?h1 ?h2).mono ?_
      case h1=>first|exact(SB.out _ XD.out).1|exact(SB.out _ (XA.out _)).1
      case h2=>first|exact(SB.out _ XD.out).2|exact(SB.out _ (XA.out _)).2
      rintro e w3 ⟨v12,rfl,qN,bD⟩;have fw:Hid (Below w1.heap.size w1 w3):=Afl (by first|exact XD.out.trans bD|exact(XA.out _).trans (bD.mono (by simp)))
      have zv:Hid (w3.ownsRow w1.heap.size 59 3 v12 bs.length (bs.flatMap eP)):=Afl (qN.base (by simp))
      have rE:=HK.out.2.1.below fw.out (by omega)
      have x0: w3.cell? ⟨w.heap.size+1,0,none⟩=some (.string x.name):=rE.cell 0;have x1: w3.cell? ⟨w.heap.size+1,1,none⟩=some (.int .i64 x.aH):=rE.cell 1;have x2: w3.cell? ⟨w.heap.size+1,2,none⟩=some (.slice A4 n4 c4):=rE.cell 2;have jB:w1.heap.size<=w3.heap.size:=fw.out.size
      try(have HZ:Hid (∀(j:Nat) (u:Value),[Value.string x.name,.int .i64 x.aH,.slice A4 n4 c4][j]?=some u-> w3.cell? ((⟨w1.heap.size,0,none⟩:Aa5).add j)=some u):=Afl (λj u hu=>by
       rw[nu];have:=((Bk.new w1.drew 59 #[.string x.name,.int .i64 x.aH,.slice A4 n4 c4]).below bD (by simp)).cell j
       simpa using this.trans (by simpa using hu)))
      obtain⟨mh,iq,c12,rfl⟩:=pw qN;clear bD qN rE)
   | (refine ug rfl (.tmp 16) (.tmp 18) 23 rfl w1.heap.size 59 i0 (.agg #[.string {data:=#[]},.int .i64 0,.slice none 0 0]) 3 48 (U Tryz.underlying23) dv.out.1 dv.out.2.1 dv.out.2.2.1 dv.out.2.2.2 rfl (by decide) _ bs.length (bs.flatMap eP) rfl zv.out ⟨w1.heap.size,0,none⟩ 1 1 [.string x.name,.int .i64 x.aH,.slice A4 n4 c4] rfl rfl HZ.out ?c2 ?c3 ?c4 jB ?_
      case c2=>simp[Value.oneCell']
      case c3=>(simp only[Aes];omega)
      case c4=>omega
      intro v' w6 aG dS;have HO:=Afl aG;have xO:Below w1.heap.size w1 w6:=fw.out.grown dS jB (λk hk=>ei zv.out k hk)
      have gU:=Afl xO;have ig:=HK.out.1.below xO (by omega)
      have q2: w6.cell? ⟨w.heap.size,2,none⟩=some (.slice A2 n2 c2):=ig.cell 2;have f2: w6.frozen? ⟨w.heap.size,2,none⟩=false:=ig.frozen 2;obtain⟨wE,n19,c19,rfl⟩:=pw aG;clear aG dS xO ig)
   | (refine ug rfl (.tmp 16) (.tmp 18) 23 rfl w1.heap.size 59 i0 (.agg #[.string {data:=#[]},.int .i64 0,.slice none 0 0]) 3 48 (U Tryz.underlying23) dv.out.1 dv.out.2.1 dv.out.2.2.1 dv.out.2.2.2 rfl (by decide) _ bs.length (bs.flatMap eP) rfl (zv.out.alloc _) ⟨w3.heap.size,0,none⟩ 1 1 [.string x.name,.int .i64 x.aH,.slice A4 n4 c4] rfl rfl ?c1 ?c2 ?c3 ?c4 ?c5 ?_
      case c1=>(intro j u hu;rw[nu];have:=(Bk.new w3 59 #[.string x.name,.int .i64 x.aH,.slice A4 n4 c4]).cell j;simpa using this.trans (by simpa using hu))
      case c2=>simp[Value.oneCell']
      case c3=>(simp only[Aes];omega)
      case c4=>omega
      case c5=>(simp<;>omega)
      intro v' w6 aG dS;have HO:=Afl aG;have xO:Below w1.heap.size w1 w6:=(fw.out.alloc jB _).grown dS (by simp<;>omega) (λk hk=>ei zv.out k hk)
      have gU:=Afl xO;have ig:=HK.out.1.below xO (by omega)
      have q2: w6.cell? ⟨w.heap.size,2,none⟩=some (.slice A2 n2 c2):=ig.cell 2;have f2: w6.frozen? ⟨w.heap.size,2,none⟩=false:=ig.frozen 2;obtain⟨wE,n19,c19,rfl⟩:=pw aG;clear aG dS xO ig))
  all_goals
   have Hq:=Zg hB bT.out HH.out.2.2.1 HH.out.2.2.2 HM.out.1 HM.out.2.1 aY.out gU.out hz HO.out HK.out.1 HK.out.2.2;show ∃_,_
   exact⟨_,_,_,_,_,_,_,rfl,Afl ⟨Hq.1,Hq.2.1,Hq.2.2.1,Hq.2.2.2.1⟩⟩
 case post=>
  clear C2 dv k2 x0 x1 x2 XD XA SB jW ae3 ae4 ae5 hz HK F4 Au;refine dP.imp ?_
  rintro a W ⟨mh,iq,c12,XX,wE,n19,c19,rfl,⟨oV,qT,hp⟩,ig,xS,fX⟩;have k0:=ig.cell 0;have k1:=ig.cell 1;have k2:=ig.cell 2;have k3:=ig.cell 3;have HP:=Afl hp;have HK:=Afl (Aee ig (Aee xS fX));have iM:w.heap.size<W.heap.size:=ig.lt;have TJ:=Afl (ry hp.book (Ad4 _) HH.out.2.1);have vy:(fj b x).ag=b.ag:=rfl;rw[vy] at TJ;clear hp ig xS fX vy;go_wp2_with (first
   | (go_at_call 68
      refine TJ.out.mono ?_
      rintro e w7 ⟨rfl,jx⟩;have DG:=HK.out.1.below jx iM;have k0: w7.cell? ⟨w.heap.size,0,none⟩=some (.int .i64 b.ag):=DG.cell 0;have k1: w7.cell? ⟨w.heap.size,1,none⟩=some (.slice A1 n1 c1):=DG.cell 1;have k2: w7.cell? ⟨w.heap.size,2,none⟩=some (.slice wE n19 c19):=DG.cell 2;have k3: w7.cell? ⟨w.heap.size,3,none⟩=some (.slice A3 n3 c3):=DG.cell 3;have Xc:=Afl (HK.out.2.1.below jx HK.out.2.1.lt);have Zk:=(copied (w:=w7) (HP.out.grown (je jx (Ad4 _) none) nofun) (λk hk=>by have:=Xc.out.lt;omega) (iy HH.out.2.1))
      have vy:(fj b x).ag=b.ag:=rfl;rw[vy] at Zk;have Ym:=Afl Zk;clear Zk vy;have QW:=Afl jx;clear jx DG)
   | (go_at_call 136
      refine Ym.out.mono ?_
      rintro e w8 ⟨p8,b8,t8,bs8,ts8,rfl,MW,Ah⟩;have Ha:=MW.book;have qK:=Xc.out.below Ah Xc.out.lt;have r0:=qK.cell 0;have r1:=qK.cell 1;have r2:=qK.cell 2;have r3:=qK.cell 3;have f0:=qK.frozen 0;have f1:=qK.frozen 1;have f2:=qK.frozen 2;have f3:=qK.frozen 3;have RX:w.heap.size+2<w8.heap.size:=qK.lt;obtain⟨JZ,OY,LG,rfl,-⟩:=Ha.pieces.open_;obtain⟨J0,OZ,LH,rfl,-⟩:=Ha.aF.open_;obtain⟨J1,ER,LI,rfl,-⟩:=Ha.aJ.open_;have Yy:=Afl Ah;have Q0:=Afl (Aee MW qK);clear Ah Ha MW qK))
  have aeL:Bk w8 (w.heap.size+1+1) 26 #[.int .i64 0,.slice none 0 0,.slice none 0 0,.slice none 0 0]:=Q0.out.2;have yh:=((((aeL.set 0 (.int .i64 b.ag)).set 1 (.slice JZ OY LG)).set 2 (.slice J0 OZ LH)).set 3 (.slice J1 ER LI));have y0:=yh.cell 0;have y1:=yh.cell 1;have y2:=yh.cell 2;have y3:=yh.cell 3;have hG:=λ(V:Abc) (i:Nat) (u:Value)=>uV V ⟨w.heap.size+2,i,none⟩ u
  have bj:∀k,some (w.heap.size+2)=some k->(λk=>k=w.heap.size+2) k:=λk e=>by injection e with e;exact e.symm
  have Nj:=((((Q0.out.1.grown (hG _ 0 (.int .i64 b.ag)) bj).grown (hG _ 1 (.slice JZ OY LG)) bj).grown (hG _ 2 (.slice J0 OZ LH)) bj).grown (hG _ 3 (.slice J1 ER LI)) bj);have jS:Below w.heap.size w w8:=(HK.out.2.2.trans (QW.out.mono (Agq iM))).trans (Yy.out.mono (by have:=QW.out.size;omega))
  refine bodyPost_ret (v:=.tuple #[.agg #[.int .i64 b.ag,.slice JZ OY LG,.slice J0 OZ LH,.slice J1 ER LI],.int .i64 0]) (by simp[results,Tryz.results53,go_sem,y0,y1,y2,y3]) rfl ⟨_,_,_,rfl,Nj.book,?_⟩
  exact(((jS.setCell (by simp<;>omega) _).setCell (by simp<;>omega) _).setCell (by simp<;>omega) _).setCell (by simp<;>omega) _
def pY:List Int->List Int->Int
 | [],[]=>0
 | [],_::_=> -1
 |_::_,[]=>1
 |x::xs,y::ys=>if Ain x y=0 then pY xs ys else Ain x y
def zN{w:Abc}{xs ys:List Int}{v u:Value}{B:Nat}(hv:Row w B 1 cH v xs)(hu:Row w B 1 cH u ys)(hB:B<=w.heap.size):
 Aet prog 139 #[v,u] w λe w'=>e=.returned (.int .i64 (pY xs ys))/\w=w':=by
 obtain⟨A1,n1,c1,rfl,e1,h1,eA,r1⟩:=hv.open_;obtain⟨A2,n2,c2,rfl,e2,h2,dW,r2⟩:=hu.open_;unfold Aes at eA dW;have R1:=Afl r1;have R2:=Afl r2;have E:=Afl (Aee e1 e2);clear r1 r2 e1 e2 hv hu;have aB:Hid (∀(x y:Int) (w:Abc),Aet Tw.prog 181 #[.int .i64 x,.int .i64 y] w λe w'=>e=.returned (.int .i64 (Ain x y))/\w'=w):=Afl (λx y w=>Sh.cmp_Compare_int x y w)
 go_enter func139,Tryz.ntmps139;go_wp2;go_loopw [11] (λk wr=>wr=w/\∃i:Nat,i<=n1/\i<=n2/\k=.int .i64 i/\Hid (pY xs ys=pY (xs.drop i) (ys.drop i))) (λk _=>n1 - (Ahb k).toNat)
 case atStart=>exact⟨rfl,0,Agl _,Agl _,rfl,Afl rfl⟩
 case round=>
  obtain⟨rfl,i,hi,vm,rfl,hc⟩:=hrel;by_cases al:i<n1
  ·obtain⟨ad,x,cs,kX,aC,hx,rfl,-,au⟩:=R1.out i al
   subst kX;have g0: wr.cell? (ad.add (i * 1))=some (.int .i64 x):=cC au (Still.refl wr) aC rfl;rw[Ago] at g0;have Dt:xs.drop i=x::xs.drop (i+1):=(Aiw (Af7.1 hx).1).trans (by rw[(Af7.1 hx).2])
   have zm:=Afl Dt;clear Dt hx au;by_cases ae6:i<n2
   ·obtain⟨cI,y,jQ,CO,fV,hy,rfl,-,ie⟩:=R2.out i ae6
    subst CO;have g1: wr.cell? (cI.add (i * 1))=some (.int .i64 y):=cC ie (Still.refl wr) fV rfl;rw[Ago] at g1;have vf:ys.drop i=y::ys.drop (i+1):=(Aiw (Af7.1 hy).1).trans (by rw[(Af7.1 hy).2])
    have uz:=Afl vf;clear vf hy ie;have aoD:((n2:Int)<=(i:Int))=False:=by simp;omega
    obtain⟨c,cX⟩:∃c,c=Ain x y:=⟨_,rfl⟩
    have CL:=Afl (aB.out x y wr);rw[<-cX] at CL;have qZ:=Afl cX;clear cX;by_cases ic:c=0
    ·have hb:(c !=0)=false:=by simp[ic]
     go_wp2_with (first
      | (go_at_call 181;refine CL.out.mono ?_;rintro e w1 ⟨rfl,rfl⟩))
     go_roundw;case rel=>exact⟨trivial,i+1,by omega,by omega,by go_num,Afl (by rw[hc.out,zm.out,uz.out,pY,<-qZ.out,if_pos ic])⟩
     case measure=>simp[Ahb];omega
    ·have hb:(c !=0)=true:=by simp[ic]
     go_wp2_with (first
      | (go_at_call 181;refine CL.out.mono ?_;rintro e w1 ⟨rfl,rfl⟩))
     go_ret;exact⟨aX (by rw[hc.out,zm.out,uz.out,pY,<-qZ.out,if_neg ic]),rfl⟩
   ·obtain rfl:i=n2:=by omega
    have vf:ys.drop i=[]:=Aix (Agn E.out.2);have uz:=Afl vf;clear vf;go_wp2;go_ret;exact⟨aX (by rw[hc.out,zm.out,uz.out,pY]),rfl⟩
  ·obtain rfl:i=n1:=by omega
   have Dt:xs.drop i=[]:=Aix (Agn E.out.1);have zm:=Afl Dt;clear Dt;by_cases hl:i<n2
   ·obtain⟨y,Yh,hy⟩:∃y Yh,ys.drop i=y::Yh:=⟨_,_,Aiw (by rw[E.out.2];exact hl)⟩
    have uz:=Afl hy;clear hy;go_wp2;go_ret;exact⟨aX (by rw[hc.out,zm.out,uz.out,pY]),rfl⟩
   ·have vf:ys.drop i=[]:=Aix (by rw[E.out.2];omega)
    have uz:=Afl vf;clear vf;go_wp2;go_ret;exact⟨aX (by rw[hc.out,zm.out,uz.out,pY]),rfl⟩
end Go.Tw
namespace Go.Tw
variable [Go.Tw.aR]
open Go Go.Proofs Go.RowKit
def Wu{w:Abc}{b1 b2 e1 e2 s1 s2 n1 n2:Nat}{v1 v2:Value}{x1 x2:List Value}(h1:w.ownsRow b1 e1 s1 v1 n1 x1)(h2:w.ownsRow b2 e2 s2 v2 n2 x2)(aw:e1≠e2):∀k,v1.ownBlock=some k->v2.ownBlock≠some k:=by
 intro k hk cP;rcases h1.2 with⟨h0,_⟩ | ⟨g,cap,cur,a1,a2,a3,_⟩
 ·rw[h0] at hk;cases hk
 ·rcases h2.2 with⟨h0,_⟩ | ⟨g',zd,anN,c1,c2,c3,_⟩
  ·rw[h0] at cP;cases cP
  ·rw[a1] at hk;rw[c1] at cP
   injection hk with hk;injection cP with cP
   simp only at hk cP;subst hk;subst cP
   rw[a3] at c3;injection c3 with c3;injection c3 with _ c3
   exact aw c3
def dJ(m:Nat)(n:Nat):List Nat:=(Agj n).filter (λi=>m.testBit i)
def Ie{m n:Nat}(h:m.testBit n=true):dJ m (n+1)=dJ m n++ [n]:=by simp[dJ,Ah5,h]
def Ic{m n:Nat}(h:m.testBit n=false):dJ m (n+1)=dJ m n:=by simp[dJ,Ah5,h]
def fL{α:Type}(l:List α)(m n:Nat):List α:=(dJ m n).filterMap (λi=>l[i]?)
def Wz{α:Type}{l:List α}{m n:Nat}{x:α}(h:m.testBit n=true)(hx:l[n]?=some x):fL l m (n+1)=fL l m n++ [x]:=by
 unfold fL;rw[Ie h,List.filterMap_append];simp[hx]
def Wy{α:Type}{l:List α}{m n:Nat}(h:m.testBit n=false):fL l m (n+1)=fL l m n:=by unfold fL;rw[Ic h]
def mM(b:ao)(m:Nat):ao:={b with aJ:=fL b.aJ m b.aJ.length}
def ajE{α β:Type}(f:α->β)(l:List α)(m n:Nat):fL (l.map f) m n=(fL l m n).map f:=by
 unfold fL;rw[List.map_filterMap];congr 1;funext i;simp
def Pc{α:Type}(l:List α)(m:Nat):∀n,n<=l.length->(fL l m n).length=(dJ m n).length
 |0,_=>by simp[fL,dJ]
 |n+1,h=>by
  have ih:=Pc l m n (by omega)
  cases hb:m.testBit n with
  |true=>rw[Wz hb (Af6 (by omega)),Ie hb];simp[ih]
  |false=>rw[Wy hb,Ic hb];exact ih
def lV(m n:Nat):List Value:=(dJ m n).map λk:Nat=>Afx .i64 (k:Int)
def Ek(m:Nat)(n:Nat):(dJ m n).length<=n:=by
 unfold dJ;refine Ad5 (List.length_filter_le _ _) (by simp)
structure OI(w W:Abc)(g z:Nat)(ag pv bv c7 v6 v7:Value)(el:Array Value)(n6 n7:Nat)(x6 x7:List Value):Prop where
 o6:W.ownsRow (g+3) 3 1 v6 n6 x6
 o7:W.ownsRow (g+3) 95 3 v7 n7 x7
 kr:Bk W (g+1) 117 #[.int .i64 0,.slice none 0 0,.slice none 0 0,.slice none 0 0]
 kk:Bk W (g+2) 117 #[ag,pv,bv,c7]
 ke:Bk W z 95 el
 hb:Below g w W
section
variable {w W W':Abc}{g z n6 n7 m:Nat}{ag pv bv c7 v6 v7 v':Value}{el:Array Value}{x6 x7 ys:List Value}
def OI.alloc(h:OI w W g z ag pv bv c7 v6 v7 el n6 n7 x6 x7)(o:Obj):OI w (W.alloc o) g z ag pv bv c7 v6 v7 el n6 n7 x6 x7:=
 ⟨World.ownsRow.alloc h.o6 o,World.ownsRow.alloc h.o7 o,h.kr.alloc o,h.kk.alloc o,h.ke.alloc o,h.hb.alloc (by have:=h.kr.lt;omega) o⟩
def OI.Rv(h:OI w W g z ag pv bv c7 v6 v7 el n6 n7 x6 x7)(ho:W'.ownsRow (g+3) 3 1 v' m ys)(hg:W.grownBy W' v6.ownBlock):OI w W' g z ag pv bv c7 v' v7 el m n7 ys x7:=by
 have jU:=ei h.o6;refine⟨ho,EJ h.o7 hg (λk hk e=>Wu h.o6 h.o7 (by decide) k e hk),h.kr.grown hg (λe=>by have:=jU _ e.symm;omega),h.kk.grown hg (λe=>by have:=jU _ e.symm;omega),h.ke.grown hg (λe=>?_),h.hb.grown hg (by have:=h.kr.lt;omega) (λk hk=>by have:=jU k hk;omega)⟩
 rcases h.o6.2 with⟨h0,_⟩ | ⟨k,cap,cur,a1,a2,a3,_⟩
 ·rw[h0] at e;cases e
 ·rw[a1] at e;injection e with e
  have tD:=h.ke;unfold Bk at tD;rw[e] at tD;simp only at tD;rw[a3] at tD;injection tD with tD;injection tD with _ tD
  exact absurd tD (by decide)
def OI.Rw(h:OI w W g z ag pv bv c7 v6 v7 el n6 n7 x6 x7)(ho:W'.ownsRow (g+3) 95 3 v' m ys)(hg:W.grownBy W' v7.ownBlock):
 W'.ownsRow (g+3) 3 1 v6 n6 x6/\W'.ownsRow (g+3) 95 3 v' m ys/\Bk W' (g+1) 117 #[.int .i64 0,.slice none 0 0,.slice none 0 0,.slice none 0 0]/\Bk W' (g+2) 117 #[ag,pv,bv,c7]/\Below g w W':=by
 have jU:=ei h.o7;exact⟨EJ h.o6 hg (λk hk e=>Wu h.o6 h.o7 (by decide) k hk e),ho,h.kr.grown hg (λe=>by have:=jU _ e.symm;omega),h.kk.grown hg (λe=>by have:=jU _ e.symm;omega),h.hb.grown hg (by have:=h.kr.lt;omega) (λk hk=>by have:=jU k hk;omega)⟩
def LO{w:Abc}{g t:Nat}{a b c:Value}(h:Bk w g t #[a,b,c]):∀(j:Nat) (u:Value),[a,b,c][j]?=some u-> w.cell? ((⟨g,0,none⟩:Aa5).add j)=some u:=by
 intro j u hu;rw[nu];exact(h.cell j).trans (by simpa using hu)
def LN{w:Abc}{g t:Nat}{a:Value}(h:Bk w g t #[a]):∀(j:Nat) (u:Value),[a][j]?=some u-> w.cell? ((⟨g,0,none⟩:Aa5).add j)=some u:=by
 intro j u hu;rw[nu];exact(h.cell j).trans (by simpa using hu)
def kT{w:Abc}{b e s n g t:Nat}{v:Value}{xs:List Value}{cs:Array Value}(h:Bk w g t cs)(ho:w.ownsRow b e s v n xs)(aw:t≠e)(hk:some g=v.ownBlock):False:=by
 rcases ho.2 with⟨h0,_⟩ | ⟨k,cap,cur,a1,a2,a3,_⟩
 ·rw[h0] at hk;cases hk
 ·rw[a1] at hk;injection hk with hk
  unfold Bk at h;rw[hk] at h;simp only at h;rw[a3] at h;injection h with h;injection h with _ h
  exact aw h.symm
def afX{w V w6:Abc}{g z n6 n7:Nat}{ag pv bv c7 v6 v7 a b c:Value}{el:Array Value}{x6 x7:List Value}{o:Obj}(nZ:OI w V.drew g z ag pv bv c7 v6 v7 el n6 n7 x6 x7)
 (dS:((V.drew.alloc o).alloc (.cells #[a,b,c] 95)).grownBy w6 v6.ownBlock):Bk w6 (V.heap.size+1) 95 #[a,b,c]:=
 (Bk.cG (g:=V.heap.size+1) (w:=V.drew.alloc o) (by simp) 95 #[a,b,c]).grown dS (λe=>kT (Bk.cG (g:=V.heap.size+1) (w:=V.drew.alloc o) (by simp) 95 #[a,b,c]) ((nZ.alloc o).alloc _).o6 (by decide) e)
def afT{w V w6:Abc}{g z n6 n7:Nat}{ag pv bv c7 v6 v7 a b c:Value}{el:Array Value}{x6 x7:List Value}{o:Obj}(nZ:OI w V.drew g z ag pv bv c7 v6 v7 el n6 n7 x6 x7)
 (dS:((V.drew.alloc (.cells #[a,b,c] 95)).alloc o).grownBy w6 v6.ownBlock):Bk w6 V.heap.size 95 #[a,b,c]:=
 ((Bk.new V.drew 95 #[a,b,c]).alloc o).grown dS (λe=>kT ((Bk.new V.drew 95 #[a,b,c]).alloc o) ((nZ.alloc _).alloc o).o6 (by decide) e)
def aja{W:Abc}(h:W.ownsRow (g+3) 3 1 v6 n6 x6/\W.ownsRow (g+3) 95 3 v' m ys/\Bk W (g+1) 117 #[.int .i64 0,.slice none 0 0,.slice none 0 0,.slice none 0 0]/\Bk W (g+2) 117 #[ag,pv,bv,c7]/\Below g w W):
 let V:=W.setCell ⟨g+2,3,none⟩ v'
 V.ownsRow (g+3) 3 1 v6 n6 x6/\V.ownsRow (g+3) 95 3 v' m ys/\Bk V (g+1) 117 #[.int .i64 0,.slice none 0 0,.slice none 0 0,.slice none 0 0]/\Bk V (g+2) 117 #[ag,pv,bv,v']/\Below g w V:=by
 intro V;exact⟨eo h.1 (by simp),eo h.2.1 (by simp),h.2.2.1.cu (by simp) _,h.2.2.2.1.set 3 v',h.2.2.2.2.setCell (by simp) _⟩
end
def ajc{w W:Abc}{b:ao}{pv bv tv v6 v7:Value}{B m n:Nat}{ts:List (Tape×Value)}(hB:B<=w.heap.size)(ai:bg w B b pv bv tv)(rS:∀p∈ts,Row w B 1 cH p.2 p.1.pieces)(il:ts.map Ajg=b.aJ)(hn:n=ts.length)
 (h6:W.ownsRow (w.heap.size+3) 3 1 v6 (dJ m n).length (lV m n))(h7:W.ownsRow (w.heap.size+3) 95 3 v7 (dJ m n).length ((fL ts m n).flatMap eG))(hb:Below w.heap.size w W){x0 x1 x2 x3:Value}:
 let V:=(((W.setCell ⟨w.heap.size+1,0,none⟩ x0).setCell ⟨w.heap.size+1,1,none⟩ x1).setCell ⟨w.heap.size+1,2,none⟩ x2).setCell ⟨w.heap.size+1,3,none⟩ x3
 bg V V.heap.size (mM b m) pv bv v7/\cW V (λk=>k<w.heap.size) 1 cH v6 ((dJ m b.aJ.length).map Aiq)/\Below w.heap.size w V:=by
 intro V;have hl:b.aJ.length=n:=by rw[<-il,Aib,hn]
 have xF:Below w.heap.size w V:=(((hb.setCell (by simp) _).setCell (by simp) _).setCell (by simp) _).setCell (by simp) _
 have st:Still B w V:=Still.aK xF hB;have aI:B<=V.heap.size:=by have:=xF.size;omega
 have o6:V.ownsRow (w.heap.size+3) 3 1 v6 (dJ m n).length (lV m n):=eo (eo (eo (eo h6 (by simp)) (by simp)) (by simp)) (by simp)
 have o7:V.ownsRow (w.heap.size+3) 95 3 v7 (dJ m n).length ((fL ts m n).flatMap eG):=eo (eo (eo (eo h7 (by simp)) (by simp)) (by simp)) (by simp)
 refine⟨⟨(ai.pieces.still st λ_ _ h=>h).more aI,(ai.aF.still st λ_ _ h=>?_).more aI,?_⟩,?_,xF⟩
 ·obtain⟨k,e1,e2,e3⟩:=h.still st
  exact⟨k,e1,e2,e3.more aI⟩
 ·rw[<-Pc ts m n (by omega)] at o7
  have:=lu (R:=λp cs=>cs=eG p) o7 (λ_=>rfl) (λp hm=>rfl)
  have e:(mM b m).aJ=(fL ts m n).map Ajg:=by
   show fL b.aJ m b.aJ.length=_;rw[hl,<-il,ajE]
  rw[e];refine yY this (λp hm cs hc=>⟨p.2,hc,((rS p ?_).still st λ_ _ h=>h).more aI⟩)
  unfold fL at hm;obtain⟨k,_,hk⟩:=List.mem_filterMap.1 hm;exact Agd hk
 ·rw[hl]
  have e:(lV m n)=((dJ m n).map Aiq).flatMap (λk=> [Afx .i64 k]):=by
   unfold lV;rw[Td,List.map_map];rfl
  rw[e] at o6;have hlen:(dJ m n).length=((dJ m n).map Aiq).length:=by simp
  rw[hlen] at o6;exact cW.vO o6 (λ_=>rfl) (λ_ _=>rfl) (λk hk=>by omega)
def ZH:∀(m:Fin 16) (i:Fin 4),(bits BinOp.and Adf ((m.val:Int) / 2 ^ i.val) 1==1)=m.val.testBit i.val:=by decide+kernel
def only{w:Abc}{b:ao}{pv bv tv:Value}{B m:Nat}(hB:B<=w.heap.size)(ai:bg w B b pv bv tv)(hv:b.aJ.length<=4)(hm:m<16):
 Aet prog 138 #[.agg #[.int .i64 b.ag,pv,bv,tv],.int .i64 m] w λe w'=>∃fD iv,e=.returned (.tuple #[.agg #[.int .i64 b.ag,pv,bv,fD],iv])/\bg w' w'.heap.size (mM b m) pv bv fD/\
  cW w' (λk=>k<w.heap.size) 1 cH iv ((dJ m b.aJ.length).map Aiq)/\Below w.heap.size w w':=by
 obtain⟨ts,il,pg⟩:=I1 (R':=λ(p:Tape×Value) cs=>cs=eG p/\Row w B 1 cH p.2 p.1.pieces) ai.aJ (λx cs ⟨kv,h1,h3⟩=>⟨kv,h1,h3⟩)
 have rS:∀p∈ts,Row w B 1 cH p.2 p.1.pieces:=λp hp=>by obtain⟨cs,h1,h2⟩:=pg.mem p hp;exact h2
 have qG:ts.length=b.aJ.length:=by rw[<-il,Aib]
 have HM:=Afl (Aee rS (Aee il qG));have bT:=Afl ai;obtain⟨A1,n1,c1,rfl,-⟩:=ai.pieces.open_;obtain⟨A2,n2,c2,rfl,-⟩:=ai.aF.open_;obtain⟨A3,n3,c3,rfl,e3,h3,rD,r3⟩:=pg.open_;have R3:=Afl r3;have lQ:n3<=4:=by omega
 have E3:=Afl e3;unfold Aes at rD;clear ai pg rS il qG r3 e3 hv;go_enter func138,Tryz.ntmps138;go_wp2;have L0:Hid (Bk (((w.alloc (.cells #[.int .i64 b.ag,.slice A1 n1 c1,.slice A2 n2 c2,.slice A3 n3 c3] 117)).alloc (.cells #[.int .i64 0,.slice none 0 0,.slice none 0 0,.slice none 0 0] 117)).alloc (.cells #[.int .i64 b.ag,.slice A1 n1 c1,.slice A2 n2 c2,.slice none 0 0] 117)) (w.heap.size+2) 117 #[.int .i64 b.ag,.slice A1 n1 c1,.slice A2 n2 c2,.slice none 0 0]):=Afl (Bk.cG (by simp) _ _)
 go_loopw [6,17] (λv6 u wr=>∃(i:Nat) (v7:Value),i<=n3/\u=.int .i64 i/\Hid (wr.ownsRow (w.heap.size+3) 3 1 v6 (dJ m i).length (lV m i))/\Hid (wr.ownsRow (w.heap.size+3) 95 3 v7 (dJ m i).length ((fL ts m i).flatMap eG))/\
  Hid (Bk wr (w.heap.size+1) 117 #[.int .i64 0,.slice none 0 0,.slice none 0 0,.slice none 0 0])/\Hid (Bk wr (w.heap.size+2) 117 #[.int .i64 b.ag,.slice A1 n1 c1,.slice A2 n2 c2,v7])/\Hid (Below w.heap.size w wr)) (λ_ u _=>n3 - (Ahb u).toNat)
 case atStart=>exact⟨0,_,Agl _,rfl,Afl ⟨rfl,.inl ⟨rfl,rfl⟩⟩,Afl ⟨rfl,.inl ⟨rfl,rfl⟩⟩,Afl ((Bk.cG (by simp) _ _).alloc _),L0,Afl ((((Aft _ _).alloc (Ad4 _) _).alloc (by simp) _).alloc (by simp<;>omega) _)⟩
 case round=>
  obtain⟨i,v7,hi,rfl,h6,h7,hr,hk,hb⟩:=hrel;obtain⟨A6,n6,c6,rfl⟩:=pw h6.out;obtain⟨A7,n7,c7,rfl⟩:=pw h7.out;by_cases al:i<n3
  ·obtain⟨ad,x,cs,kX,aC,hx,⟨rfl,Oj⟩,-,au⟩:=R3.out i al
   subst kX;have st:Still B w wr:=Still.aK hb.out hB;obtain⟨x,kv⟩:=x;simp only at Oj;obtain⟨m5,rN⟩:∃k,k=x.pieces.length:=⟨_,rfl⟩
   obtain⟨A5,c5,rfl,-⟩:=id Oj;rw[<-rN] at hx au;clear Oj rN;have g0:=cC au st aC rfl;have g1:=bK au st aC 0 rfl;have g2:=bK au st aC 1 rfl;have aI:=hb.out.size;have xD:(ad.add (i * 3)).block<wr.heap.size:=by rw[cq];omega
   have G9:=ZH ⟨m,hm⟩ ⟨i,by omega⟩
   simp only at G9;have HX:=Afl hx;have sR:=Afl (Aee h6.out (Aee h7.out (Aee hr.out (Aee hk.out hb.out))));clear hx au st;cases vb:m.testBit i with
   |false=>
    rw[vb] at G9;go_wp2;go_roundw;case rel=>exact⟨i+1,_,by omega,by go_num,Afl (by unfold lV;rw[Ic vb];exact h6.out.alloc _),Afl (by rw[Ic vb,Wy vb];exact h7.out.alloc _),Afl (hr.out.alloc _),Afl (hk.out.alloc _),Afl (hb.out.alloc aI _)⟩
    case measure=>simp[Ahb];omega
   |true=>
    rw[vb] at G9;go_wp2;obtain⟨i3,fZ,jB,gQ,bD⟩:=Agy VG;obtain⟨i9,DC,Vu,N7,oZ⟩:=Agy Oq;have nW:=Afl (Aee fZ (Aee jB (Aee gQ bD)));have nX:=Afl (Aee DC (Aee Vu (Aee N7 oZ)));clear fZ jB gQ bD DC Vu N7 oZ h6 h7 hr hk hb g0 g1 g2 xD G9;have yS:OI w (wr.alloc (.cells #[.slice A5 m5 c5,.int .i64 x.sum.lo,.int .i64 x.sum.hi] 95)) w.heap.size wr.heap.size (.int .i64 b.ag) (.slice A1 n1 c1) (.slice A2 n2 c2) (.slice A7 n7 c7) (.slice A6 n6 c6) (.slice A7 n7 c7) #[.slice A5 m5 c5,.int .i64 x.sum.lo,.int .i64 x.sum.hi] (dJ m i).length (dJ m i).length (lV m i) ((fL ts m i).flatMap eG):=
     ⟨sR.out.1.alloc _,sR.out.2.1.alloc _,sR.out.2.2.1.alloc _,sR.out.2.2.2.1.alloc _,Bk.new wr _ _,sR.out.2.2.2.2.alloc aI _⟩
    have Vv:(wr.alloc (.cells #[.slice A5 m5 c5,.int .i64 x.sum.lo,.int .i64 x.sum.hi] 95)).heap.size=wr.heap.size+1:=by simp
    generalize (wr.alloc (.cells #[.slice A5 m5 c5,.int .i64 x.sum.lo,.int .i64 x.sum.hi] 95))=V at yS Vv |-
    have nZ:Hid (OI w V.drew w.heap.size wr.heap.size (.int .i64 b.ag) (.slice A1 n1 c1) (.slice A2 n2 c2) (.slice A7 n7 c7) (.slice A6 n6 c6) (.slice A7 n7 c7) #[.slice A5 m5 c5,.int .i64 x.sum.lo,.int .i64 x.sum.hi] (dJ m i).length (dJ m i).length (lV m i) ((fL ts m i).flatMap eG)):=Afl ⟨yS.o6,yS.o7,yS.kr,yS.kk,yS.ke,iY yS.hb⟩;have q7: V.cell? ⟨w.heap.size+2,3,none⟩=some (.slice A7 n7 c7):=yS.kk.cell 3;have e0: V.cell? ⟨wr.heap.size,0,none⟩=some (.slice A5 m5 c5):=yS.ke.cell 0;have e1: V.cell? ⟨wr.heap.size,1,none⟩=some (.int .i64 x.sum.lo):=yS.ke.cell 1;have e2: V.cell? ⟨wr.heap.size,2,none⟩=some (.int .i64 x.sum.hi):=yS.ke.cell 2;have xR:=yS.kk.lt;have aeO:w.heap.size+2<=V.heap.size:=by omega
    have aeP:w.heap.size+2<V.heap.size+1:=by omega
    have aeQ:w.heap.size+2<=V.heap.size+1:=by omega
    have Ng:wr.heap.size<V.heap.size:=by omega
    have aep:wr.heap.size<=V.heap.size:=by omega
    have aer:wr.heap.size<V.heap.size+1:=by omega
    have aes:wr.heap.size<=V.heap.size+1:=by omega
    have afZ:w.heap.size+3<=V.heap.size:=xR;have rJ:(dJ m i).length<=4:=by have:=Ek m i;omega
    obtain⟨nl,Az⟩:∃k,k=(dJ m i).length:=⟨_,rfl⟩
    rw[<-Az] at nZ rJ;have Q8:=Afl Az;clear yS sR Vv aI Az;refine Code.wp_mono (Q:=dP λa W=>∃BT n61 Nh BU Ez CJ XY XZ,a={tmps:=#[Value.agg #[Afx Adf b.ag,Value.slice A1 n1 c1,Value.slice A2 n2 c2,Value.slice (some ad) n3 c3],Afx Adf (m:Int),Value.pointer (some {block:=w.heap.size,off:=0}),Aeq,Value.pointer (some {block:=w.heap.size+1,off:=0}),Value.slice none 0 0,Value.slice BT n61 Nh,Value.pointer (some {block:=w.heap.size+1+1,off:=0}),Afx Adf (i:Int),Value.pointer (some {block:=wr.heap.size,off:=0}),Value.agg #[Afx Adf b.ag,Value.slice A1 n1 c1,Value.slice A2 n2 c2,Value.slice (some ad) n3 c3],Value.pointer (some {block:=w.heap.size+1+1,off:=0}),Value.pointer (some {block:=w.heap.size+1+1,off:=3}),Value.pointer (some {block:=w.heap.size,off:=0}),Value.pointer (some {block:=w.heap.size,off:=3}),Value.slice (some ad) n3 c3,Afx Adf (n3:Int),Afx Adf (i:Int),Value.bool true,Afx Adf (i:Int),Value.pointer (some (ad.add (i * 3))),Value.agg #[Value.slice A5 m5 c5,Afx Adf x.sum.lo,Afx Adf x.sum.hi],Afx Adf (m:Int),Afx Adf (i:Int),Afx Adf ((m:Int) / 2 ^ i),Afx Adf (bits BinOp.and Adf ((m:Int) / 2 ^ i) 1),Value.bool true,Value.slice A6 n6 c6,Afx Adf (i:Int),XY,Value.slice BT n61 Nh,Value.pointer (some {block:=w.heap.size+1+1,off:=0}),Value.pointer (some {block:=w.heap.size+1+1,off:=3}),Value.slice A7 n7 c7,Value.agg #[Value.slice A5 m5 c5,Afx Adf x.sum.lo,Afx Adf x.sum.hi],XZ,Value.slice BU Ez CJ,Value.pointer (some {block:=w.heap.size+1+1,off:=0}),Value.pointer (some {block:=w.heap.size+1+1,off:=3}),u39,Aeq,Aeq],defers:=[]}/\
     Hid (W.ownsRow (w.heap.size+3) 3 1 (.slice BT n61 Nh) (nl+1) (lV m i++ [.int .i64 i])/\W.ownsRow (w.heap.size+3) 95 3 (.slice BU Ez CJ) (nl+1) ((fL ts m i).flatMap eG++ [.slice A5 m5 c5,.int .i64 x.sum.lo,.int .i64 x.sum.hi])/\
      Bk W (w.heap.size+1) 117 #[.int .i64 0,.slice none 0 0,.slice none 0 0,.slice none 0 0]/\Bk W (w.heap.size+2) 117 #[.int .i64 b.ag,.slice A1 n1 c1,.slice A2 n2 c2,.slice BU Ez CJ]/\Below w.heap.size w W)) ?post ?region
    case region=>
     go_region_law (first
      | (first
              |refine ug rfl (.tmp 27) (.tmp 29) 33 rfl (w.heap.size+3) 3 i3 (.int .i64 0) 1 8 (U Tryz.underlying33) nW.out.1 nW.out.2.1 nW.out.2.2.1 nW.out.2.2.2 rfl (by decide) _ nl (lV m i) rfl (nZ.out.alloc _).o6 ⟨V.heap.size,0,none⟩ 1 1 [.int .i64 i] rfl rfl ?c1 ?c2 ?c3 ?c4 ?c5 ?_
              |refine ug rfl (.tmp 27) (.tmp 29) 33 rfl (w.heap.size+3) 3 i3 (.int .i64 0) 1 8 (U Tryz.underlying33) nW.out.1 nW.out.2.1 nW.out.2.2.1 nW.out.2.2.2 rfl (by decide) _ nl (lV m i) rfl ((nZ.out.alloc _).alloc _).o6 ⟨V.heap.size,0,none⟩ 1 1 [.int .i64 i] rfl rfl ?c1 ?c2 ?c3 ?c4 ?c5 ?_
              |refine ug rfl (.tmp 27) (.tmp 29) 33 rfl (w.heap.size+3) 3 i3 (.int .i64 0) 1 8 (U Tryz.underlying33) nW.out.1 nW.out.2.1 nW.out.2.2.1 nW.out.2.2.2 rfl (by decide) _ nl (lV m i) rfl ((nZ.out.alloc _).alloc _).o6 ⟨V.heap.size+1,0,none⟩ 1 1 [.int .i64 i] rfl rfl ?c1 ?c2 ?c3 ?c4 ?c5 ?_
         case c1=>first|exact LN (Bk.new V.drew 3 _) |exact LN ((Bk.new V.drew 3 _).alloc _) |exact LN (Bk.cG (w:=V.drew.alloc _) (by simp) 3 _)
         case c2=>simp[Value.oneCell']
         case c3=>(simp only[Aes];omega)
         case c4=>omega
         case c5=>first| (simp;done) | (simp;omega)
         intro v6 w6 aG dS;have jM:Hid (OI w w6 w.heap.size wr.heap.size (.int .i64 b.ag) (.slice A1 n1 c1) (.slice A2 n2 c2) (.slice A7 n7 c7) v6 (.slice A7 n7 c7) #[.slice A5 m5 c5,.int .i64 x.sum.lo,.int .i64 x.sum.hi] (nl+1) nl (lV m i++ [.int .i64 i]) ((fL ts m i).flatMap eG)):=Afl (by first|exact(nZ.out.alloc _).Rv aG dS|exact((nZ.out.alloc _).alloc _).Rv aG dS)
         have q7: w6.cell? ⟨w.heap.size+2,3,none⟩=some (.slice A7 n7 c7):=jM.out.kk.cell 3;have e0: w6.cell? ⟨wr.heap.size,0,none⟩=some (.slice A5 m5 c5):=jM.out.ke.cell 0;have e1: w6.cell? ⟨wr.heap.size,1,none⟩=some (.int .i64 x.sum.lo):=jM.out.ke.cell 1;have e2: w6.cell? ⟨wr.heap.size,2,none⟩=some (.int .i64 x.sum.hi):=jM.out.ke.cell 2;have jV:w.heap.size+2<w6.heap.size:=jM.out.kk.lt;have he6:wr.heap.size<w6.heap.size:=jM.out.ke.lt;have aoo:w.heap.size+2<=w6.heap.size:=by omega
         have aoc:wr.heap.size<=w6.heap.size:=by omega
         try(have HZ:Hid (Bk w6 (V.heap.size+1) 95 #[.slice A5 m5 c5,.int .i64 x.sum.lo,.int .i64 x.sum.hi]):=Afl (afX nZ.out dS))
         try(have HY:Hid (Bk w6 V.heap.size 95 #[.slice A5 m5 c5,.int .i64 x.sum.lo,.int .i64 x.sum.hi]):=Afl (afT nZ.out dS))
         obtain⟨BT,n61,Nh,rfl⟩:=pw aG;clear aG dS)
      | (first
              |refine ug rfl (.tmp 33) (.tmp 35) 24 rfl (w.heap.size+3) 95 i9 (.agg #[.slice none 0 0,.int .i64 0,.int .i64 0]) 3 40 (U Tryz.underlying24) nX.out.1 nX.out.2.1 nX.out.2.2.1 nX.out.2.2.2 rfl (by decide) _ nl ((fL ts m i).flatMap eG) rfl (jM.out.alloc _).o7 ⟨w6.heap.size,0,none⟩ 1 1 [.slice A5 m5 c5,.int .i64 x.sum.lo,.int .i64 x.sum.hi] rfl rfl ?c1 ?c2 ?c3 ?c4 ?c5 ?_
              |refine ug rfl (.tmp 33) (.tmp 35) 24 rfl (w.heap.size+3) 95 i9 (.agg #[.slice none 0 0,.int .i64 0,.int .i64 0]) 3 40 (U Tryz.underlying24) nX.out.1 nX.out.2.1 nX.out.2.2.1 nX.out.2.2.2 rfl (by decide) _ nl ((fL ts m i).flatMap eG) rfl jM.out.o7 ⟨V.heap.size+1,0,none⟩ 1 1 [.slice A5 m5 c5,.int .i64 x.sum.lo,.int .i64 x.sum.hi] rfl rfl ?c1 ?c2 ?c3 ?c4 ?c5 ?_
              |refine ug rfl (.tmp 33) (.tmp 35) 24 rfl (w.heap.size+3) 95 i9 (.agg #[.slice none 0 0,.int .i64 0,.int .i64 0]) 3 40 (U Tryz.underlying24) nX.out.1 nX.out.2.1 nX.out.2.2.1 nX.out.2.2.2 rfl (by decide) _ nl ((fL ts m i).flatMap eG) rfl jM.out.o7 ⟨V.heap.size,0,none⟩ 1 1 [.slice A5 m5 c5,.int .i64 x.sum.lo,.int .i64 x.sum.hi] rfl rfl ?c1 ?c2 ?c3 ?c4 ?c5 ?_
         case c1=>first|exact LO (Bk.new w6 95 _) |exact LO HZ.out|exact LO HY.out
         case c2=>simp[Value.oneCell']
         case c3=>(simp only[Aes];omega)
         case c4=>omega
         case c5=>first|omega| (simp;omega)
         intro v7 w7 aG dS;have KV:Hid (w7.ownsRow (w.heap.size+3) 3 1 _ (nl+1) (lV m i++ [.int .i64 i])/\w7.ownsRow (w.heap.size+3) 95 3 v7 (nl+1) ((fL ts m i).flatMap eG++ [.slice A5 m5 c5,.int .i64 x.sum.lo,.int .i64 x.sum.hi])/\Bk w7 (w.heap.size+1) 117 #[.int .i64 0,.slice none 0 0,.slice none 0 0,.slice none 0 0]/\Bk w7 (w.heap.size+2) 117 #[.int .i64 b.ag,.slice A1 n1 c1,.slice A2 n2 c2,.slice A7 n7 c7]/\Below w.heap.size w w7):=Afl (by first|exact(jM.out.alloc _).Rw aG dS|exact jM.out.Rw aG dS)
         have q3: w7.cell? ⟨w.heap.size+2,3,none⟩=some (.slice A7 n7 c7):=KV.out.2.2.2.1.cell 3;have f3: w7.frozen? ⟨w.heap.size+2,3,none⟩=false:=KV.out.2.2.2.1.frozen 3;obtain⟨BU,Ez,CJ,rfl⟩:=pw aG;clear aG dS))
     all_goals
      show ∃_,_
      exact⟨_,_,_,_,_,_,_,_,rfl,Afl (aja KV.out)⟩
    case post=>
     clear nZ q7 e0 e1 e2 xR aeO aeP aeQ Ng aep aer aes afZ nW nX;refine dP.imp ?_
     rintro a W ⟨BT,n61,Nh,BU,Ez,CJ,XY,XZ,rfl,hW⟩;have HW:=Afl hW;clear hW;go_wp2;go_roundw;case rel=>exact⟨i+1,_,by omega,by go_num,Afl (by unfold lV;rw[Ie vb];have:=HW.out.1;rw[Q8.out] at this;simpa [lV] using this),Afl (by rw[Ie vb,Wz vb HX.out];have:=HW.out.2.1;rw[Q8.out] at this;simpa [eG] using this),Afl HW.out.2.2.1,Afl HW.out.2.2.2.1,Afl HW.out.2.2.2.2⟩
     case measure=>simp[Ahb];omega
  ·obtain rfl:i=n3:=by omega
   have q0:=hk.out.cell 0;have q1:=hk.out.cell 1;have q2:=hk.out.cell 2;have q3:=hk.out.cell 3;have p0:=hr.out.cell 0;have p1:=hr.out.cell 1;have p2:=hr.out.cell 2;have p3:=hr.out.cell 3;have f0:=hr.out.frozen 0;have f1:=hr.out.frozen 1;have f2:=hr.out.frozen 2;have f3:=hr.out.frozen 3;have rV:w.heap.size+1<wr.heap.size:=hr.out.lt;have qz:=((((hr.out.set 0 (.int .i64 b.ag)).set 1 (.slice A1 n1 c1)).set 2 (.slice A2 n2 c2)).set 3 (.slice A7 n7 c7));have y0:=qz.cell 0;have y1:=qz.cell 1;have y2:=qz.cell 2;have y3:=qz.cell 3;clear qz;go_wp2;refine bodyPost_ret (v:=.tuple #[.agg #[.int .i64 b.ag,.slice A1 n1 c1,.slice A2 n2 c2,.slice A7 n7 c7],.slice A6 n6 c6]) (by simp[results,Tryz.results138,go_sem,y0,y1,y2,y3]) rfl ⟨_,_,rfl,?_⟩
   exact ajc hB bT.out HM.out.1 HM.out.2.1 (by rw[E3.out]) h6.out h7.out hb.out
end Go.Tw
namespace Go.Tw
variable [Go.Tw.aR]
open Go Go.Proofs Go.RowKit
def wW(b:ao)(m:Nat)(cur:List Int):Bool:=
 let l:=(dJ m b.aJ.length).map Aiq
 (decide (l.length<cur.length) || (decide (l.length=cur.length) && decide (pY l cur<0))) && decide ((aD (mM b m)).length=0)
def ju(b:ao):Nat->List Int
 |0=>(dJ (2 ^ b.aJ.length - 1) b.aJ.length).map Aiq
 |m+1=>if wW b m (ju b m) then(dJ m b.aJ.length).map Aiq else ju b m
def zM(b:ao):List Int:=if(aD b).length=0 then ju b (2 ^ b.aJ.length) else []
def yK{b:ao}{m:Nat}(h:Valid b):Valid (mM b m):=by
 have mB:∀t∈(mM b m).aJ,t∈b.aJ:=λt ht=>by
  have:t∈fL b.aJ m b.aJ.length:=ht;unfold fL at this;obtain⟨k,_,hk⟩:=List.mem_filterMap.1 this;exact Agd hk
 refine⟨h.ag,h.np,h.piece,h.nb,h.bp,?_,λt ht=>h.tape t (mB t ht)⟩
 have:(mM b m).aJ.length=(dJ m b.aJ.length).length:=Pc b.aJ m _ (Ad4 _);rw[this];exact Ad5 (Ek _ _) h.nt
def agu{K:Act->Abc->Prop}{a:Act}{w:Abc}(F:Abc->Prop)(h:∀W,F W->K a W)(hw:F w):K a w:=h w hw
def Ss{b:ao}{m:Nat}(h:wW b m (ju b m)=true):ju b (m+1)=(dJ m b.aJ.length).map Aiq:=by
 show(if wW b m (ju b m) then(dJ m b.aJ.length).map Aiq else ju b m)=_
 rw[if_pos h]
def GA{b:ao}{m:Nat}(h:wW b m (ju b m)=false):ju b (m+1)=ju b m:=by
 show(if wW b m (ju b m) then(dJ m b.aJ.length).map Aiq else ju b m)=_
 rw[h];rfl
def Sr(b:ao):∀m,(ju b m).length<=b.aJ.length
 |0=>by simp[ju];exact Ek _ _
 |m+1=>by
  unfold ju;split
  ·simp;exact Ek _ _
  ·exact Sr b m
def aaq{w:Abc}{b:ao}{pv bv tv:Value}{B:Nat}(hB:B<=w.heap.size)(ai:bg w B b pv bv tv)(h0:dF b=0):
 Aet prog 56 #[.agg #[.int .i64 b.ag,pv,bv,tv]] w λe w'=>∃v,e=.returned (.tuple #[v,.int .i64 0])/\Row w' w'.heap.size 1 cH v (zM b)/\Below w.heap.size w w':=by
 have st:Still B w (w.alloc (.cells #[.int .i64 b.ag,pv,bv,tv] 26)):=(Still.refl w).alloc hB _;have aB:=Afl (ry (ai.still st) (by simp<;>omega) h0)
 have bT:=Afl ai;have hv:=iy h0;have HV:=Afl hv;have adV:=Ct hv;have xZ:=hv.nt;obtain⟨A1,n1,c1,rfl,-⟩:=ai.pieces.open_;obtain⟨A2,n2,c2,rfl,-⟩:=ai.aF.open_;obtain⟨A3,n3,c3,rfl,e3,h3,rD,-⟩:=ai.aJ.open_;rw[e3] at xZ;have E3:=Afl e3;unfold Aes at rD;obtain⟨na,vr⟩:∃n,n=(aD b).length:=⟨_,rfl⟩
 rw[<-vr] at adV;by_cases rP:0<na
 ·have Ot:=Afl vr
  have fY:zM b=[]:=by unfold zM;rw[if_neg (by have:=Ot.out;omega)]
  have uy:=Afl fY;clear vr fY;go_enter func56,Tryz.ntmps56;go_wp2_with (first
   | (go_at_call 68;refine aB.out.mono ?_;rintro e w1 ⟨rfl,ae⟩
      have kb:Bk w1 w.heap.size 26 #[.int .i64 b.ag,.slice A1 n1 c1,.slice A2 n2 c2,.slice A3 n3 c3]:=(Bk.new w _ _).below ae (by simp)
      have k0:=kb.cell 0;have k1:=kb.cell 1;have k2:=kb.cell 2;have k3:=kb.cell 3;have aY:Hid (Below w.heap.size w w1):=Afl ((((Aft _ _).alloc (Ad4 _) _)).trans (ae.mono (by simp)))
      have KB:=Afl kb;have aN:w.heap.size<w1.heap.size:=kb.lt;have Kg:Hid (∀w',Below w1.heap.size w1 w'->Aet prog 96 #[.agg #[.int .i64 b.ag,.slice A1 n1 c1,.slice A2 n2 c2,.slice A3 n3 c3]] w' λe bq=>∃v,e=.returned v/\qQ bq w'.heap.size v (aD b)/\Below w'.heap.size w' bq):=Afl λw' hw=>by
       have st:Still B w w':=Still.aK (aY.out.trans (hw.mono (by omega))) hB
       exact all (by have:=hw.size;omega) (bT.out.still st) HV.out
      clear kb ae)
   | (go_at_call 96
      refine(Kg.out _ ((Aft _ _).alloc (Ad4 _) _)).mono ?_
      rintro e w2 ⟨sv,rfl,aG,ak⟩;obtain⟨A9,n9,c9,rfl,cY,nG,py,iN⟩:=aG.row.open_;have e9:n9=na:=by rw[<-cY];exact Ot.out.symm
      subst e9;have dV:=Afl ak;clear ak aG cY iN))
  go_ret2
  exact⟨_,rfl,by rw[uy.out];exact Row.nil,aY.out.trans ((((Aft _ _).alloc (Ad4 _) _).trans (dV.out.mono (by simp))).mono (by omega))⟩
 obtain rfl:na=0:=by omega
 have Ot:=Afl vr;clear ai st hv h0 vr e3;obtain⟨mp,rO⟩:∃mp,2 ^ n3=mp+1:=⟨2 ^ n3 - 1,by have:0<2 ^ n3:=Nat.two_pow_pos n3;omega⟩
 have hp:((2:Int) ^ n3)=(mp:Int)+1:=by
  have h1:((2:Int) ^ n3)=((2 ^ n3:Nat):Int):=by simp
  rw[h1,rO];simp
 have ae9:mp<16:=by
  have:2 ^ n3<=2 ^ 4:=Nat.pow_le_pow_right (by omega) xZ
  omega
 have yo:Adf.wrap ((mp:Int)+1)=(mp:Int)+1:=by rw[IntWalk.i64_left];exact IntWalk.wrap64_in _ (by omega)
 have eC:Adf.wrap (mp:Int)=(mp:Int):=by rw[IntWalk.i64_left];exact IntWalk.wrap64_in _ (by omega)
 have Sn:Adf.wrap ((mp:Int)+1 - 1)=(mp:Int):=by rw[Int.add_sub_cancel];exact eC
 have Q7:=Afl rO;clear rO;go_enter func56,Tryz.ntmps56;go_wp2_with (first
  | (go_at_call 68;refine aB.out.mono ?_;rintro e w1 ⟨rfl,ae⟩
     have kb:Bk w1 w.heap.size 26 #[.int .i64 b.ag,.slice A1 n1 c1,.slice A2 n2 c2,.slice A3 n3 c3]:=(Bk.new w _ _).below ae (by simp)
     have k0:=kb.cell 0;have k1:=kb.cell 1;have k2:=kb.cell 2;have k3:=kb.cell 3;have aY:Hid (Below w.heap.size w w1):=Afl ((((Aft _ _).alloc (Ad4 _) _)).trans (ae.mono (by simp)))
     have KB:=Afl kb;have aN:w.heap.size<w1.heap.size:=kb.lt;have Kg:Hid (∀w',Below w1.heap.size w1 w'->Aet prog 96 #[.agg #[.int .i64 b.ag,.slice A1 n1 c1,.slice A2 n2 c2,.slice A3 n3 c3]] w' λe bq=>∃v,e=.returned v/\qQ bq w'.heap.size v (aD b)/\Below w'.heap.size w' bq):=Afl λw' hw=>by
      have st:Still B w w':=Still.aK (aY.out.trans (hw.mono (by omega))) hB
      exact all (by have:=hw.size;omega) (bT.out.still st) HV.out
     clear kb ae)
  | (go_at_call 96
     refine(Kg.out _ ((Aft _ _).alloc (Ad4 _) _)).mono ?_
     rintro e w2 ⟨sv,rfl,aG,ak⟩;obtain⟨A9,n9,c9,rfl,cY,nG,py,iN⟩:=aG.row.open_;have e9:n9=0:=by rw[<-cY,<-Ot.out]
     subst e9;have dV:=Afl ak;have mH:Bk w2 w.heap.size 26 #[.int .i64 b.ag,.slice A1 n1 c1,.slice A2 n2 c2,.slice A3 n3 c3]:=(KB.out.alloc _).below ak (by simp<;>omega)
     have rY:Bk w2 w1.heap.size 117 #[.int .i64 b.ag,.slice A1 n1 c1,.slice A2 n2 c2,.slice A3 n3 c3]:=(Bk.new _ _ _).below ak (by simp)
     have q3: w2.cell? ⟨w.heap.size,3,none⟩=some (.slice A3 n3 c3):=mH.cell 3;have k0:=rY.cell 0;have k1:=rY.cell 1;have k2:=rY.cell 2;have k3:=rY.cell 3;have wS:=Afl (Aee mH rY);clear ak aG cY iN mH rY))
 have KS:∀w',Hid (Below w2.heap.size w2 w')-> w'.cell? ⟨w.heap.size,3,none⟩=some (.slice A3 n3 c3)/\ w'.cell? ⟨w1.heap.size,0,none⟩=some (.int .i64 b.ag)/\ w'.cell? ⟨w1.heap.size,1,none⟩=some (.slice A1 n1 c1)/\ w'.cell? ⟨w1.heap.size,2,none⟩=some (.slice A2 n2 c2)/\ w'.cell? ⟨w1.heap.size,3,none⟩=some (.slice A3 n3 c3)/\Hid (Below w2.heap.size w2 w'):=λw' h=>
  ⟨(h.out.cell wS.out.1.lt).trans q3,(h.out.cell wS.out.2.lt).trans k0,(h.out.cell wS.out.2.lt).trans k1,(h.out.cell wS.out.2.lt).trans k2,(h.out.cell wS.out.2.lt).trans k3,h⟩
 have HD:Hid (Below w2.heap.size w2 w2.drew):=Afl (iY (Aft _ _));have QG:Hid (∀(m:Nat) (w':Abc),m<16->Below w2.heap.size w2 w'->Aet prog 138 #[.agg #[.int .i64 b.ag,.slice A1 n1 c1,.slice A2 n2 c2,.slice A3 n3 c3],.int .i64 m] w' λe bq=>∃fD iv,e=.returned (.tuple #[.agg #[.int .i64 b.ag,.slice A1 n1 c1,.slice A2 n2 c2,fD],iv])/\bg bq bq.heap.size (mM b m) (.slice A1 n1 c1) (.slice A2 n2 c2) fD/\
  cW bq (λk=>k<w'.heap.size) 1 cH iv ((dJ m b.aJ.length).map Aiq)/\Below w'.heap.size w' bq):=Afl λm w' hm hw=>by
  have st:Still B w w':=Still.aK ((aY.out.trans ((((Aft _ _).alloc (Ad4 _) _).trans (dV.out.mono (by simp))).mono (by omega))).trans (hw.mono (by have:=wS.out.1.lt;omega))) hB
  exact only (by have:=hw.size;have:=dV.out.size;have:=aY.out.size;simp at *;omega) (bT.out.still st) HV.out.nt hm
 clear q3 k0 k1 k2 k3;go_region_held3 (λw'=> w'.cell? ⟨w.heap.size,3,none⟩=some (.slice A3 n3 c3)/\ w'.cell? ⟨w1.heap.size,0,none⟩=some (.int .i64 b.ag)/\ w'.cell? ⟨w1.heap.size,1,none⟩=some (.slice A1 n1 c1)/\ w'.cell? ⟨w1.heap.size,2,none⟩=some (.slice A2 n2 c2)/\ w'.cell? ⟨w1.heap.size,3,none⟩=some (.slice A3 n3 c3)/\Hid (Below w2.heap.size w2 w'))
  (first
    |exact KS _ HD|exact KS _ (Afl (HD.out.alloc (Ad4 _) _)) |exact KS _ nY|exact KS _ (Afl (nY.out.alloc (nY.out.size) _))
    |exact KS _ (Afl ((((nY.out.setCell (Ad4 _) _).setCell (Ad4 _) _).setCell (Ad4 _) _).setCell (Ad4 _) _))
    |exact KS _ (Afl (((((nY.out.alloc (nY.out.size) _).setCell nY.out.size _).setCell nY.out.size _).setCell nY.out.size _).setCell nY.out.size _)))
  (first
    | (go_at_call 138
       refine(QG.out mp _ ae9 ?hx).mono ?_
       case hx=>first|exact HD.out|exact HD.out.alloc (Ad4 _) _
       rintro e w3 ⟨t6v,i7v,rfl,bD,AG,Hd⟩;have nY:Hid (Below w2.heap.size w2 w3):=Afl (by first|exact HD.out.trans Hd|exact(HD.out.alloc (Ad4 _) _).trans (Hd.mono (by simp)))
       obtain⟨iW,n31,iZ,rfl,-⟩:=bD.aJ.open_;obtain⟨QD,n32,Sg,rfl,-⟩:=id AG.row.open_
       try(
        have rU:Bk w3 w2.heap.size 117 #[.int .i64 0,.slice none 0 0,.slice none 0 0,.slice none 0 0]:=(Bk.new w2.drew _ _).below Hd (by simp)
        have z0: w3.cell? ⟨w2.heap.size,0,none⟩=some (.int .i64 0):=rU.cell 0;have z1: w3.cell? ⟨w2.heap.size,1,none⟩=some (.slice none 0 0):=rU.cell 1;have z2: w3.cell? ⟨w2.heap.size,2,none⟩=some (.slice none 0 0):=rU.cell 2;have z3: w3.cell? ⟨w2.heap.size,3,none⟩=some (.slice none 0 0):=rU.cell 3;have y0:=rU.frozen 0;have y1:=rU.frozen 1;have y2:=rU.frozen 2;have y3:=rU.frozen 3;have YV:Hid (cW w3 (λk=>k=w2.heap.size) 1 cH (.slice QD n32 Sg) ((dJ mp b.aJ.length).map Aiq)):=Afl (AG.weaken (λk hk=>by subst hk;simp))
        have y9:w2.heap.size<w3.heap.size:=rU.lt;clear rU)
       have YT:=Afl AG.row;clear bD AG Hd))
 all_goals
  have ic:ju b 0=(dJ mp b.aJ.length).map Aiq:=by
   show(dJ (2 ^ b.aJ.length - 1) b.aJ.length).map Aiq=_;rw[E3.out,Q7.out,Nat.add_sub_cancel]
  have Kt:=Afl ic;clear ic;simp only[Exit.then];refine agu (λW=>Hid (Below w2.heap.size w2 W)/\Hid (Row W W.heap.size 1 cH (.slice QD n32 Sg) (ju b 0))) ?_ ?_
  rotate_left 1
  ·rw[Kt.out]
   first
    |exact⟨Afl (nY.out.alloc nY.out.size _),Afl ((YT.out.still (Still.aK ((Aft w3.heap.size w3).alloc (Ad4 _) _) (Ad4 _)) λ_ _ h=>h).more (by simp))⟩
    |exact⟨Afl ((((nY.out.setCell (Ad4 _) _).setCell (Ad4 _) _).setCell (Ad4 _) _).setCell (Ad4 _) _),
       Afl ((((YV.out.grown (uV _ _ _) (λk e=>by injection e with e;exact e.symm)).grown (uV _ _ _) (λk e=>by injection e with e;exact e.symm)).grown (uV _ _ _) (λk e=>by injection e with e;exact e.symm)).grown (uV _ _ _) (λk e=>by injection e with e;exact e.symm)).row⟩
  rintro W ⟨HW,HR⟩;have⟨s3,s0,s1,s2,s4,_⟩:=KS W HW;go_wp2;go_loopw [7,36] (λv7 u wr=>∃m:Nat,m<=mp+1/\u=.int .i64 m/\Hid (Below w2.heap.size w2 wr)/\Hid (Row wr wr.heap.size 1 cH v7 (ju b m))) (λ_ u _=>mp+1 - (Ahb u).toNat)
  case atStart=>exact⟨0,Agl _,rfl,HW,HR⟩
  case round=>
   clear s3 s0 s1 s2 s4;obtain⟨m,hm,rfl,iX,oa⟩:=hrel;obtain⟨wq,rfl⟩:∃wq:Abc,wq=wr:=⟨_,rfl⟩
   have⟨s3,s0,s1,s2,s4,_⟩:=KS wq iX;obtain⟨A7,n7,c7,rfl,e7,h7,Fl,-⟩:=oa.out.open_;unfold Aes at Fl;by_cases al:m<mp+1
   ·have wG:=Afl (QG.out m wq (by omega) iX.out)
    obtain⟨L,hL⟩:∃L,L=(dJ m b.aJ.length).map Aiq:=⟨_,rfl⟩
    rw[<-hL] at wG;obtain⟨cur,tB⟩:∃l,l=ju b m:=⟨_,rfl⟩
    rw[<-tB] at oa e7;obtain⟨l,hl⟩:∃l,l=L.length:=⟨_,rfl⟩
    have hl4:l<=4:=by rw[hl,hL,Aib];have:=Ek m b.aJ.length;have:=E3.out;omega
    have hc4:n7<=4:=by rw[<-e7,tB];have:=Sr b m;have:=E3.out;omega
    obtain⟨cm,kZ⟩:∃c,c=pY L cur:=⟨_,rfl⟩
    obtain⟨nb,gy⟩:∃n,n=(aD (mM b m)).length:=⟨_,rfl⟩
    have aoA:nb<=27:=by rw[gy];exact Ct (yK HV.out)
    have TY:wW b m cur=((decide (l<n7) || (decide (l=n7) && decide (cm<0))) && decide (nb=0)):=by
     unfold wW;rw[<-hL];simp only[<-hl,<-kZ,<-gy,e7]
    have HE:=Afl (Aee hL (Aee tB (Aee hl (Aee kZ (Aee gy (Aee e7 TY))))));clear hL tB hl kZ gy e7 TY;have hwm:m+1<=mp+1:=al;by_cases h1:l<n7
    ·by_cases hE:nb=0
     ·have uY:((nb:Int)==0)=true:=by simp;omega
      go_wp2_with (first
       | (go_at_call 138
          refine wG.out.mono ?_
          rintro e w4 ⟨qU,qJ,rfl,cO,cV,eB⟩;have pK:Hid (∀w',Below w4.heap.size w4 w'->Aet prog 96 #[.agg #[.int .i64 b.ag,.slice A1 n1 c1,.slice A2 n2 c2,qU]] w' λe bq=>∃v,e=.returned v/\qQ bq w'.heap.size v (aD (mM b m))/\Below w'.heap.size w' bq):=Afl λw' hw=>all hw.size (cO.still (Still.aK hw (Ad4 _))) (yK HV.out)
          have pJ:Hid (∀w',Below w4.heap.size w4 w'->Aet prog 139 #[qJ,.slice A7 n7 c7] w' λe bq=>e=.returned (.int .i64 cm)/\w'=bq):=Afl λw' hw=>by
             have st:Still wq.heap.size wq w':=Still.aK (eB.trans (hw.mono eB.size)) (Ad4 _);rw[HE.out.2.2.2.1];exact zN ((cV.row.still (Still.aK hw (Ad4 _)) λ_ _ h=>h)) ((oa.out.still st λ_ _ h=>h).more eB.size) hw.size
          obtain⟨uu,n41,uM,rfl,-⟩:=cO.aJ.open_;obtain⟨J2,n42,CG,rfl,kW,-⟩:=cV.row.open_;have pZ:n42=l:=by rw[<-kW,<-HE.out.2.2.1]
          subst pZ;have wT:=Afl cV.row;have fx:Hid (Below wq.heap.size wq w4):=Afl eB;clear cO cV eB kW)
       | (go_at_call 139
          refine(pJ.out _ ((Aft _ _).alloc (Ad4 _) _)).mono ?_
          rintro e w5 ⟨rfl,rfl⟩)
       | (go_at_call 96
          refine(pK.out _ ((Aft _ _).alloc (Ad4 _) _)).mono ?_
          rintro e w6 ⟨sv,rfl,aG,fI⟩;obtain⟨A9,n9,c9,rfl,cY,nG,py,-⟩:=aG.row.open_;have e9:n9=nb:=by rw[<-cY];exact HE.out.2.2.2.2.1.symm
          subst e9;have gU:=Afl fI;clear fI aG cY))
      go_roundw;case rel=>exact⟨m+1,by omega,by go_num,Afl ((iX.out.trans (fx.out.mono iX.out.size)).trans ((((Aft w4.heap.size w4).alloc (Ad4 _) _).trans (gU.out.mono (by simp))).mono (by have:=fx.out.size;have:=iX.out.size;omega))),Afl (by
       rw[Ss (by rw[<-HE.out.2.1,HE.out.2.2.2.2.2.2];simp;omega),<-HE.out.1]
       exact((wT.out.still (Still.aK (((Aft w4.heap.size w4).alloc (Ad4 _) _).trans (gU.out.mono (by simp))) (Ad4 _)) λ_ _ h=>h).more (by have:=gU.out.size;simp at this;omega)))⟩
      case measure=>simp[Ahb];omega
     ·have uY:((nb:Int)==0)=false:=by simp;omega
      go_wp2_with (first
       | (go_at_call 138
          refine wG.out.mono ?_
          rintro e w4 ⟨qU,qJ,rfl,cO,cV,eB⟩;have pK:Hid (∀w',Below w4.heap.size w4 w'->Aet prog 96 #[.agg #[.int .i64 b.ag,.slice A1 n1 c1,.slice A2 n2 c2,qU]] w' λe bq=>∃v,e=.returned v/\qQ bq w'.heap.size v (aD (mM b m))/\Below w'.heap.size w' bq):=Afl λw' hw=>all hw.size (cO.still (Still.aK hw (Ad4 _))) (yK HV.out)
          have pJ:Hid (∀w',Below w4.heap.size w4 w'->Aet prog 139 #[qJ,.slice A7 n7 c7] w' λe bq=>e=.returned (.int .i64 cm)/\w'=bq):=Afl λw' hw=>by
             have st:Still wq.heap.size wq w':=Still.aK (eB.trans (hw.mono eB.size)) (Ad4 _);rw[HE.out.2.2.2.1];exact zN ((cV.row.still (Still.aK hw (Ad4 _)) λ_ _ h=>h)) ((oa.out.still st λ_ _ h=>h).more eB.size) hw.size
          obtain⟨uu,n41,uM,rfl,-⟩:=cO.aJ.open_;obtain⟨J2,n42,CG,rfl,kW,-⟩:=cV.row.open_;have pZ:n42=l:=by rw[<-kW,<-HE.out.2.2.1]
          subst pZ;have wT:=Afl cV.row;have fx:Hid (Below wq.heap.size wq w4):=Afl eB;clear cO cV eB kW)
       | (go_at_call 139
          refine(pJ.out _ ((Aft _ _).alloc (Ad4 _) _)).mono ?_
          rintro e w5 ⟨rfl,rfl⟩)
       | (go_at_call 96
          refine(pK.out _ ((Aft _ _).alloc (Ad4 _) _)).mono ?_
          rintro e w6 ⟨sv,rfl,aG,fI⟩;obtain⟨A9,n9,c9,rfl,cY,nG,py,-⟩:=aG.row.open_;have e9:n9=nb:=by rw[<-cY];exact HE.out.2.2.2.2.1.symm
          subst e9;have gU:=Afl fI;clear fI aG cY))
      go_roundw;case rel=>exact⟨m+1,by omega,by go_num,Afl ((iX.out.trans (fx.out.mono iX.out.size)).trans ((((Aft w4.heap.size w4).alloc (Ad4 _) _).trans (gU.out.mono (by simp))).mono (by have:=fx.out.size;have:=iX.out.size;omega))),Afl (by
       rw[GA (by rw[<-HE.out.2.1,HE.out.2.2.2.2.2.2];simp;omega),<-HE.out.2.1]
       exact((oa.out.still (Still.aK (fx.out.trans ((((Aft w4.heap.size w4).alloc (Ad4 _) _).trans (gU.out.mono (by simp))).mono fx.out.size)) (Ad4 _)) λ_ _ h=>h).more (by have:=gU.out.size;have:=fx.out.size;simp at *;omega)))⟩
      case measure=>simp[Ahb];omega
    ·by_cases h2:l=n7
     ·have dW:((l:Int)==(n7:Int))=true:=by simp;omega
      by_cases h3:cm<0
      ·by_cases hE:nb=0
       ·have uY:((nb:Int)==0)=true:=by simp;omega
        go_wp2_with (first
            | (go_at_call 138
               refine wG.out.mono ?_
               rintro e w4 ⟨qU,qJ,rfl,cO,cV,eB⟩;have pK:Hid (∀w',Below w4.heap.size w4 w'->Aet prog 96 #[.agg #[.int .i64 b.ag,.slice A1 n1 c1,.slice A2 n2 c2,qU]] w' λe bq=>∃v,e=.returned v/\qQ bq w'.heap.size v (aD (mM b m))/\Below w'.heap.size w' bq):=Afl λw' hw=>all hw.size (cO.still (Still.aK hw (Ad4 _))) (yK HV.out)
               have pJ:Hid (∀w',Below w4.heap.size w4 w'->Aet prog 139 #[qJ,.slice A7 n7 c7] w' λe bq=>e=.returned (.int .i64 cm)/\w'=bq):=Afl λw' hw=>by
                have st:Still wq.heap.size wq w':=Still.aK (eB.trans (hw.mono eB.size)) (Ad4 _);rw[HE.out.2.2.2.1];exact zN ((cV.row.still (Still.aK hw (Ad4 _)) λ_ _ h=>h)) ((oa.out.still st λ_ _ h=>h).more eB.size) hw.size
               obtain⟨uu,n41,uM,rfl,-⟩:=cO.aJ.open_;obtain⟨J2,n42,CG,rfl,kW,-⟩:=cV.row.open_;have pZ:n42=l:=by rw[<-kW,<-HE.out.2.2.1]
               subst pZ;have wT:=Afl cV.row;have fx:Hid (Below wq.heap.size wq w4):=Afl eB;clear cO cV eB kW)
            | (go_at_call 139
               have py:=pJ.out (w4.alloc (Obj.cells #[Afx Adf b.ag,Value.slice A1 n1 c1,Value.slice A2 n2 c2,Value.slice uu n41 uM] 117)) ((Aft _ _).alloc (Ad4 _) _);rw[h2] at py;refine py.mono ?_
               clear py;rintro e w5 ⟨rfl,rfl⟩)
            | (go_at_call 96
               refine(pK.out _ ((Aft _ _).alloc (Ad4 _) _)).mono ?_
               rintro e w6 ⟨sv,rfl,aG,fI⟩;obtain⟨A9,n9,c9,rfl,cY,nG,py,-⟩:=aG.row.open_;have e9:n9=nb:=by rw[<-cY];exact HE.out.2.2.2.2.1.symm
               subst e9;have gU:=Afl fI;clear fI aG cY))
        go_roundw;case rel=>exact⟨m+1,by omega,by go_num,Afl ((iX.out.trans (fx.out.mono iX.out.size)).trans ((((Aft w4.heap.size w4).alloc (Ad4 _) _).trans (gU.out.mono (by simp))).mono (by have:=fx.out.size;have:=iX.out.size;omega))),Afl (by
            rw[Ss (by rw[<-HE.out.2.1,HE.out.2.2.2.2.2.2];simp;omega),<-HE.out.1]
            have Ro:=wT.out;rw[h2] at Ro;exact((Ro.still (Still.aK (((Aft w4.heap.size w4).alloc (Ad4 _) _).trans (gU.out.mono (by simp))) (Ad4 _)) λ_ _ h=>h).more (by have:=gU.out.size;simp at this;omega)))⟩
        case measure=>simp[Ahb];omega
       ·have uY:((nb:Int)==0)=false:=by simp;omega
        go_wp2_with (first
            | (go_at_call 138
               refine wG.out.mono ?_
               rintro e w4 ⟨qU,qJ,rfl,cO,cV,eB⟩;have pK:Hid (∀w',Below w4.heap.size w4 w'->Aet prog 96 #[.agg #[.int .i64 b.ag,.slice A1 n1 c1,.slice A2 n2 c2,qU]] w' λe bq=>∃v,e=.returned v/\qQ bq w'.heap.size v (aD (mM b m))/\Below w'.heap.size w' bq):=Afl λw' hw=>all hw.size (cO.still (Still.aK hw (Ad4 _))) (yK HV.out)
               have pJ:Hid (∀w',Below w4.heap.size w4 w'->Aet prog 139 #[qJ,.slice A7 n7 c7] w' λe bq=>e=.returned (.int .i64 cm)/\w'=bq):=Afl λw' hw=>by
                have st:Still wq.heap.size wq w':=Still.aK (eB.trans (hw.mono eB.size)) (Ad4 _);rw[HE.out.2.2.2.1];exact zN ((cV.row.still (Still.aK hw (Ad4 _)) λ_ _ h=>h)) ((oa.out.still st λ_ _ h=>h).more eB.size) hw.size
               obtain⟨uu,n41,uM,rfl,-⟩:=cO.aJ.open_;obtain⟨J2,n42,CG,rfl,kW,-⟩:=cV.row.open_;have pZ:n42=l:=by rw[<-kW,<-HE.out.2.2.1]
               subst pZ;have wT:=Afl cV.row;have fx:Hid (Below wq.heap.size wq w4):=Afl eB;clear cO cV eB kW)
            | (go_at_call 139
               have py:=pJ.out (w4.alloc (Obj.cells #[Afx Adf b.ag,Value.slice A1 n1 c1,Value.slice A2 n2 c2,Value.slice uu n41 uM] 117)) ((Aft _ _).alloc (Ad4 _) _);rw[h2] at py;refine py.mono ?_
               clear py;rintro e w5 ⟨rfl,rfl⟩)
            | (go_at_call 96
               refine(pK.out _ ((Aft _ _).alloc (Ad4 _) _)).mono ?_
               rintro e w6 ⟨sv,rfl,aG,fI⟩;obtain⟨A9,n9,c9,rfl,cY,nG,py,-⟩:=aG.row.open_;have e9:n9=nb:=by rw[<-cY];exact HE.out.2.2.2.2.1.symm
               subst e9;have gU:=Afl fI;clear fI aG cY))
        go_roundw;case rel=>exact⟨m+1,by omega,by go_num,Afl ((iX.out.trans (fx.out.mono iX.out.size)).trans ((((Aft w4.heap.size w4).alloc (Ad4 _) _).trans (gU.out.mono (by simp))).mono (by have:=fx.out.size;have:=iX.out.size;omega))),Afl (by
            rw[GA (by rw[<-HE.out.2.1,HE.out.2.2.2.2.2.2];simp;omega),<-HE.out.2.1]
            exact((oa.out.still (Still.aK (fx.out.trans ((((Aft w4.heap.size w4).alloc (Ad4 _) _).trans (gU.out.mono (by simp))).mono fx.out.size)) (Ad4 _)) λ_ _ h=>h).more (by have:=gU.out.size;have:=fx.out.size;simp at *;omega)))⟩
        case measure=>simp[Ahb];omega
      ·go_wp2_with (first
        | (go_at_call 138
           refine wG.out.mono ?_
           rintro e w4 ⟨qU,qJ,rfl,cO,cV,eB⟩;have pK:Hid (∀w',Below w4.heap.size w4 w'->Aet prog 96 #[.agg #[.int .i64 b.ag,.slice A1 n1 c1,.slice A2 n2 c2,qU]] w' λe bq=>∃v,e=.returned v/\qQ bq w'.heap.size v (aD (mM b m))/\Below w'.heap.size w' bq):=Afl λw' hw=>all hw.size (cO.still (Still.aK hw (Ad4 _))) (yK HV.out)
           have pJ:Hid (∀w',Below w4.heap.size w4 w'->Aet prog 139 #[qJ,.slice A7 n7 c7] w' λe bq=>e=.returned (.int .i64 cm)/\w'=bq):=Afl λw' hw=>by
             have st:Still wq.heap.size wq w':=Still.aK (eB.trans (hw.mono eB.size)) (Ad4 _);rw[HE.out.2.2.2.1];exact zN ((cV.row.still (Still.aK hw (Ad4 _)) λ_ _ h=>h)) ((oa.out.still st λ_ _ h=>h).more eB.size) hw.size
           obtain⟨uu,n41,uM,rfl,-⟩:=cO.aJ.open_;obtain⟨J2,n42,CG,rfl,kW,-⟩:=cV.row.open_;have pZ:n42=l:=by rw[<-kW,<-HE.out.2.2.1]
           subst pZ;have wT:=Afl cV.row;have fx:Hid (Below wq.heap.size wq w4):=Afl eB;clear cO cV eB kW)
        | (go_at_call 139
           have py:=pJ.out (w4.alloc (Obj.cells #[Afx Adf b.ag,Value.slice A1 n1 c1,Value.slice A2 n2 c2,Value.slice uu n41 uM] 117)) ((Aft _ _).alloc (Ad4 _) _);rw[h2] at py;refine py.mono ?_
           clear py;rintro e w5 ⟨rfl,rfl⟩)
        | (go_at_call 96
           refine(pK.out _ ((Aft _ _).alloc (Ad4 _) _)).mono ?_
           rintro e w6 ⟨sv,rfl,aG,fI⟩;obtain⟨A9,n9,c9,rfl,cY,nG,py,-⟩:=aG.row.open_;have e9:n9=nb:=by rw[<-cY];exact HE.out.2.2.2.2.1.symm
           subst e9;have gU:=Afl fI;clear fI aG cY))
       go_roundw;case rel=>exact⟨m+1,by omega,by go_num,Afl ((iX.out.trans (fx.out.mono iX.out.size)).trans (((Aft w4.heap.size w4).alloc (Ad4 _) _).mono (by have:=fx.out.size;have:=iX.out.size;omega))),Afl (by
        rw[GA (by rw[<-HE.out.2.1,HE.out.2.2.2.2.2.2];simp;omega),<-HE.out.2.1]
        exact((oa.out.still (Still.aK (fx.out.trans (((Aft w4.heap.size w4).alloc (Ad4 _) _).mono fx.out.size)) (Ad4 _)) λ_ _ h=>h).more (by have:=fx.out.size;simp;omega)))⟩
       case measure=>simp[Ahb];omega
     ·have dW:((l:Int)==(n7:Int))=false:=by simp;omega
      go_wp2_with (first
       | (go_at_call 138
          refine wG.out.mono ?_
          rintro e w4 ⟨qU,qJ,rfl,cO,cV,eB⟩;have pK:Hid (∀w',Below w4.heap.size w4 w'->Aet prog 96 #[.agg #[.int .i64 b.ag,.slice A1 n1 c1,.slice A2 n2 c2,qU]] w' λe bq=>∃v,e=.returned v/\qQ bq w'.heap.size v (aD (mM b m))/\Below w'.heap.size w' bq):=Afl λw' hw=>all hw.size (cO.still (Still.aK hw (Ad4 _))) (yK HV.out)
          have pJ:Hid (∀w',Below w4.heap.size w4 w'->Aet prog 139 #[qJ,.slice A7 n7 c7] w' λe bq=>e=.returned (.int .i64 cm)/\w'=bq):=Afl λw' hw=>by
             have st:Still wq.heap.size wq w':=Still.aK (eB.trans (hw.mono eB.size)) (Ad4 _);rw[HE.out.2.2.2.1];exact zN ((cV.row.still (Still.aK hw (Ad4 _)) λ_ _ h=>h)) ((oa.out.still st λ_ _ h=>h).more eB.size) hw.size
          obtain⟨uu,n41,uM,rfl,-⟩:=cO.aJ.open_;obtain⟨J2,n42,CG,rfl,kW,-⟩:=cV.row.open_;have pZ:n42=l:=by rw[<-kW,<-HE.out.2.2.1]
          subst pZ;have wT:=Afl cV.row;have fx:Hid (Below wq.heap.size wq w4):=Afl eB;clear cO cV eB kW)
       | (go_at_call 139
          refine(pJ.out _ ((Aft _ _).alloc (Ad4 _) _)).mono ?_
          rintro e w5 ⟨rfl,rfl⟩)
       | (go_at_call 96
          refine(pK.out _ ((Aft _ _).alloc (Ad4 _) _)).mono ?_
          rintro e w6 ⟨sv,rfl,aG,fI⟩;obtain⟨A9,n9,c9,rfl,cY,nG,py,-⟩:=aG.row.open_;have e9:n9=nb:=by rw[<-cY];exact HE.out.2.2.2.2.1.symm
          subst e9;have gU:=Afl fI;clear fI aG cY))
      go_roundw;case rel=>exact⟨m+1,by omega,by go_num,Afl ((iX.out.trans (fx.out.mono iX.out.size)).trans (((Aft w4.heap.size w4).alloc (Ad4 _) _).mono (by have:=fx.out.size;have:=iX.out.size;omega))),Afl (by
       rw[GA (by rw[<-HE.out.2.1,HE.out.2.2.2.2.2.2];simp;omega),<-HE.out.2.1]
       exact((oa.out.still (Still.aK (fx.out.trans (((Aft w4.heap.size w4).alloc (Ad4 _) _).mono fx.out.size)) (Ad4 _)) λ_ _ h=>h).more (by have:=fx.out.size;simp;omega)))⟩
      case measure=>simp[Ahb];omega
   ·obtain rfl:m=mp+1:=by omega
    have fY:zM b=ju b (mp+1):=by unfold zM;rw[if_pos Ot.out.symm,E3.out,Q7.out]
    have uy:=Afl fY;clear fY;have jS:Below w.heap.size w wq:=(aY.out.trans ((((Aft _ _).alloc (Ad4 _) _).trans (dV.out.mono (by simp))).mono (by omega))).trans (iX.out.mono (by have:=wS.out.1.lt;omega))
    have wO:=Afl jS;clear jS;go_wp2
    go_ret2
    exact⟨_,rfl,by rw[uy.out];exact oa.out,wO.out⟩
def uS:List Cut:=[⟨1,0⟩,⟨0,0⟩,⟨0,6⟩]
def te:bR:=⟨EA,8,[⟨3,3⟩]⟩
def xh:dF aW=0:=by decide+kernel
def PH:cj aW 0=0:=by decide+kernel
def abZ:GB te=[⟨0,2⟩,⟨4,7⟩]:=by decide+kernel
def ab7:Im te 0=4:=by decide+kernel
def ab8:Im te 1=8:=by decide+kernel
def acd:scan (λ_ s=>s) [] [qL aW [4,3,3],ez aW dQ]=0:=by decide+kernel
def ace:scan (λ_ s=>s) [] [qL aW [4,3,3],ez aW uS]=0:=by decide+kernel
def ab4:fp aW (fK [4,3,3]) dQ=true:=by decide+kernel
def ab5:fp aW (fK [4,3,3]) uS=false:=by decide+kernel
def abX:Gt aW=2:=by decide+kernel
def ack:oK (aD aW)=⟨10,10⟩:=by decide+kernel
def aca:cj aW (Bh aW 0)=0:=by decide+kernel
def ab0:(aD aW).map (·.at 0)=[4,5]:=by decide+kernel
def aeR:cj aW (ez aW dQ)=0:=by decide+kernel
def S3:cj aW (ez aW uS)=0:=by decide+kernel
def ab1:za (iI (λL=>fp aW L dQ) (aD aW)) (aD aW).length=1:=by decide+kernel
def ab2:za (iI (λL=>fp aW L uS) (aD aW)) (aD aW).length=0:=by decide+kernel
def ach:FJ aW (aD aW) dQ=true:=by decide+kernel
def aci:FJ aW (aD aW) uS=false:=by decide+kernel
def acg:BB aW dQ=[1,1]:=by decide+kernel
def Fy{xs ys:List Int}(hp:xs.Perm ys)(hs:ys.Pairwise (λx y=>decide (x<=y)=true)):ga xs=ys:=by
 have h1:(ga xs).Perm ys:=(Aiy _ _).trans hp;refine h1.eq_of_pairwise (le:=λx y=>decide (x<=y)=true) (λa c _ _ h k=>by simp only[decide_eq_true_eq] at h k;omega) ?_ hs
 exact Aiz (λa b c h k=>by simp only[decide_eq_true_eq] at *;omega) (λa b=>by simp;omega) _
def adY(mI:List Cut->Int):fA aW mI=some (dQ,mI dQ):=by
 have s0:search aW (cz (aD aW)) (jf 0) aW.pieces.length []=none:=by decide+kernel
 have s1:search aW (cz (aD aW)) (jf 1) aW.pieces.length []=none:=by decide+kernel
 have s2:search aW (cz (aD aW)) (jf 2) aW.pieces.length []=none:=by decide+kernel
 have s3:search aW (cz (aD aW)) (jf 3) aW.pieces.length []=some dQ:=by decide+kernel
 unfold fA;rw[if_pos PH];show iG aW (cz (aD aW)) mI 4=_;rw[kS,kS,kS,kS];simp only[iG,List.range_zero,Ai0,sY,s0,s1,s2,s3,nw]
def adD:ga (dQ.map (·.bp))=[0,0,1]:=Fy (by decide) (by decide)
def ab3:fA aW j6=some (dQ,2):=by
 rw[adY];unfold j6 jG;rw[adD];rfl
def acf:fA aW (qM aW)=some (dQ,14):=by
 rw[adY];unfold qM jG;rw[adD]
 have:lY aW (Lib.compact [0,0,1])=14:=by decide+kernel
 rw[this]
def abW:Cu aW=(0,1):=by decide+kernel
def O1:ByteArray:={data:=#[97,115,104]}
def gh:bR:=⟨O1,13,[]⟩
def abU:dF (fj aW gh)=0:=by decide+kernel
def mr:List Cut:=[⟨2,0⟩,⟨2,6⟩,⟨2,10⟩]
def abV:fA (fj aW gh) j6=some (mr,1):=by
 have s0:search (fj aW gh) (cz (aD (fj aW gh))) (jf 0) 3 []=none:=by decide+kernel
 have s1:search (fj aW gh) (cz (aD (fj aW gh))) (jf 1) 3 []=none:=by decide+kernel
 have s2:search (fj aW gh) (cz (aD (fj aW gh))) (jf 2) 3 []=none:=by decide+kernel
 have s3:search (fj aW gh) (cz (aD (fj aW gh))) (jf 3) 3 []=some dQ:=by decide+kernel
 have s4:search (fj aW gh) (cz (aD (fj aW gh))) (jf 4) 3 []=some mr:=by decide+kernel
 have s5:search (fj aW gh) (cz (aD (fj aW gh))) (jf 5) 3 []=some [⟨2,0⟩,⟨0,0⟩,⟨0,4⟩]:=by decide+kernel
 have s6:search (fj aW gh) (cz (aD (fj aW gh))) (jf 6) 3 []=some [⟨1,0⟩,⟨2,0⟩,⟨2,4⟩]:=by decide+kernel
 have s7:search (fj aW gh) (cz (aD (fj aW gh))) (jf 7) 3 []=some dQ:=by decide+kernel
 have m3:j6 dQ=2:=by unfold j6 jG;rw[adD];rfl
 have m4:j6 mr=1:=by unfold j6 jG;rw[Fy (ys:=[2,2,2]) (by decide) (by decide)];rfl
 have m5:j6 [⟨2,0⟩,⟨0,0⟩,⟨0,4⟩]=2:=by unfold j6 jG;rw[Fy (ys:=[0,0,2]) (by decide) (by decide)];rfl
 have m6:j6 [⟨1,0⟩,⟨2,0⟩,⟨2,4⟩]=2:=by unfold j6 jG;rw[Fy (ys:=[1,2,2]) (by decide) (by decide)];rfl
 have ho:cj (fj aW gh) 0=0:=by decide+kernel
 unfold fA;rw[if_pos ho];show iG (fj aW gh) (cz (aD (fj aW gh))) j6 8=_;have hl:(fj aW gh).pieces.length=3:=rfl;rw[kS,kS,kS,kS,kS,kS,kS,kS];simp only[iG,List.range_zero,Ai0,sY,hl,s0,s1,s2,s3,s4,s5,s6,s7,nw,m3,m4,m5,m6]
 decide
def ab6:Il aW 0=[4,5]:=by
 unfold Il;rw[ab0,Fy (ys:=[4,5]) (by decide) (by decide)];rfl
def zS:ao:={aW with aJ:=aW.aJ++ [⟨[0],⟨4,4⟩⟩,⟨[2],⟨2,2⟩⟩]}
def acj:dF zS=0:=by decide+kernel
def tZ{b:ao}{n:an}{out:Nat->Bool}:∀(f:Nat) (cs full:List Cut),search b n out f cs=some full->full.length=cs.length+f/\∀j,j<=f->search b n out (f - j) (full.take (cs.length+j))=some full
 |0,cs,full,h=>by
  have h':=h;unfold search at h;cases h
  refine⟨rfl,λj hj=>?_⟩
  obtain rfl:j=0:=by omega
  simpa using h'
 |f+1,cs,full,h=>by
  have h':=h;unfold search at h;obtain⟨k,hk,h⟩:=Ah4 h
  unfold pC at h;split at h
  ·cases h
  ·obtain⟨fr,b7,h⟩:=Ah4 h
   unfold kj at h;split at h
   ·obtain⟨h1,h2⟩:=tZ f (cs++ [⟨k,fr⟩]) full h
    have hl:full.length=cs.length+(f+1):=by rw[h1];simp;omega
    have h0:=h2 0 (Agl _);refine⟨hl,λj hj=>?_⟩
    cases j with
    |zero=>
     have e:full.take (cs.length+0)=cs:=by
      obtain⟨g1,g2⟩:=Bn f (cs++ [⟨k,fr⟩]) full h;rw[<-g2];simp
     rw[e];exact h'
    |succ j=>
     have:=h2 j (by omega)
     simp only[List.length_append,List.length_singleton] at this;rw[show f+1 - (j+1)=f - j by omega,show cs.length+(j+1)=cs.length+1+j by omega]
     exact this
   ·cases h
where
 Bn {b:ao} {n:an} {out:Nat->Bool}:∀(f:Nat) (cs full:List Cut),search b n out f cs=some full->∃r,cs++r=full
  |0,cs,full,h=>by unfold search at h;cases h;exact⟨[],by simp⟩
  |f+1,cs,full,h=>by
   unfold search at h;obtain⟨k,hk,h⟩:=Ah4 h
   unfold pC at h;split at h
   ·cases h
   ·obtain⟨fr,b7,h⟩:=Ah4 h
    unfold kj at h;split at h
    ·obtain⟨r,hr⟩:=Bn f _ full h
     exact⟨⟨k,fr⟩::r,by rw[<-hr];simp⟩
    ·cases h
def X2{b:ao}{n:an}{out:Nat->Bool}{f:Nat}{cs full:List Cut}(h:search b n out (f+1) cs=some full):
 ∃k fr:Nat,k<b.aF.length/\out k=false/\fr<mJ b k/\tT b n cs ⟨k,fr⟩=true/\full[cs.length]?=some ⟨k,fr⟩/\search b n out f (cs++ [⟨k,fr⟩])=some full/\
  ∀g,g<fr->kj b n (search b n out f) cs k g=none:=by
 unfold search at h;obtain⟨l1,k,l2,e1,hk,-⟩:=Ai1.1 h
 have hkm:k∈Agj b.aF.length:=by rw[e1];simp
 have xR:k<b.aF.length:=by simpa using hkm
 unfold pC at hk;split at hk
 ·cases hk
 ·rename_i ho
  obtain⟨m1,fr,m2,e2,hf,bj⟩:=Ai1.1 hk
  have hfm:fr∈Agj (mJ b k):=by rw[e2];simp
  have ql:fr<mJ b k:=by simpa using hfm
  have MR:∀g,g<fr->kj b n (search b n out f) cs k g=none:=by
   intro g hg;refine bj g ?_
   have e3:m1=Agj fr:=by
    have h1:=congrArg (List.take m1.length) e2;rw[List.take_range,List.take_left] at h1;have h2:m1.length<=mJ b k:=by have:=congrArg List.length e2;simp at this;omega
    rw[Nat.min_eq_left h2] at h1;have h3:=congrArg (λl=>l[m1.length]?) e2
    simp only[Ah1 (Ad4 _),Nat.sub_self,List.getElem?_cons_zero] at h3
    have h4:m1.length<mJ b k:=by have:=congrArg List.length e2;simp at this;omega
    rw[List.getElem?_range h4] at h3
    cases h3;exact h1.symm
   rw[e3];simpa using hg
  unfold kj at hf;split at hf
  ·rename_i dh
   obtain⟨r,hr⟩:=tZ.Bn f _ full hf;refine⟨k,fr,xR,by simpa using ho,ql,dh,?_,hf,MR⟩
   rw[<-hr];simp
  ·cases hf
def Fh{b:ao}{n:an}{out:Nat->Bool}{l:List Cut}(hk:∀(j:Nat) (c:Cut),l[j]?=some c->∃k fr:Nat,c=⟨k,fr⟩/\k<b.aF.length/\out k=false/\fr<mJ b k/\tT b n (l.take j) c=true):
 ∀(f j:Nat),l.length=j+f->search b n out f (l.take j)≠none
 |0,j,_=>by unfold search;simp
 |f+1,j,hl=>by
  have hj:j<l.length:=by omega
  obtain⟨k,fr,hc,h1,h2,h3,h4⟩:=hk j l[j] (Af6 hj)
  have ih:=Fh hk f (j+1) (by omega)
  intro bj;unfold search at bj;have bj:=C6.1 bj k h1;unfold pC at bj;rw[h2] at bj;simp only[Aay,if_false] at bj;have bj:=C6.1 bj fr h3;unfold kj at bj;rw[<-hc,h4] at bj;simp only[if_true] at bj;rw[Ait,Af6 hj] at ih
  exact ih (by simpa using bj)
def Lw{b:ao}(hv:Valid b):∀(f i:Nat) (n:an),i+f=b.pieces.length->(∀k,k<i->1<=n.at k)->∀L∈eu b f i n,∀k,k<b.pieces.length->1<=L.at k
 |0,i,n,hi,hn,L,hL=>by
  unfold eu at hL;split at hL
  ·simp at hL;subst hL;intro k hk;exact hn k (by omega)
  ·cases hL
 |f+1,i,n,hi,hn,L,hL=>by
  unfold eu at hL;split at hL
  ·rename_i p hp
   obtain⟨k,hk,hL⟩:=List.mem_flatMap.1 hL;unfold mR at hk;obtain⟨j,hj,rfl⟩:=Ah2.1 hk;have nI:=hv.piece p (Agd hp);have:=nI.lo;refine Lw hv f (i+1) _ (by omega) (λq hq=>?_) L hL
   have fZ:i<3:=by have:=hv.np.2;omega
   by_cases e:q=i
   ·subst e
    have:(n.set q (p.len.lo+(j:Int))).at q=p.len.lo+j:=by
     unfold an.set an.at;have:q=0\/q=1\/q=2:=by omega
     rcases this with rfl|rfl|rfl<;>simp
    rw[this];omega
   ·have mD:=hn q (by omega)
    have:(n.set i (p.len.lo+(j:Int))).at q=n.at q:=by
     unfold an.set an.at;have Uo:i=0\/i=1\/i=2:=by omega
     have ahs:q=0\/q=1\/q=2:=by omega
     rcases Uo with rfl|rfl|rfl<;>rcases ahs with rfl|rfl|rfl<;>simp at e |-
    rw[this];exact mD
  ·cases hL
def wF{b:ao}(hv:Valid b){L:an}(hL:L∈aD b){k:Nat}(hk:k<b.pieces.length):1<=L.at k:=Lw hv _ 0 _ (by omega) (λk hk=>absurd hk (Nat.not_lt_zero _)) L hL k hk
def afo{k:Nat}:∀(n:Nat) (l:List an),l.length=n->(∀L∈l,0<=L.at k)->l≠ []->∃L∈l,L.at k=(cz l).at k:=by
 intro n;induction n with
 |zero=>intro l hl _ h;exact absurd (List.eq_nil_of_length_eq_zero hl) h
 |succ n En=>
  intro l' dC h0 aw;obtain⟨l,x,rfl⟩:∃l x,l'=l++ [x]:=⟨l'.dropLast,l'.getLast aw,(List.dropLast_concat_getLast aw).symm⟩
  have ih:=En l (by simpa using dC)
  rw[TF];have hx:=h0 x (by simp)
  by_cases hl:l=[]
  ·subst hl
   refine⟨x,by simp,?_⟩
   unfold cz mU an.at;unfold an.at at hx;simp only[Ai0];split
   ·rename_i h;simp only[h,if_true] at hx;simp;omega
   ·split
    ·rename_i h h';simp only[h,h',if_true,if_false] at hx;simp;omega
    ·rename_i h h';simp only[h,h',if_false] at hx;simp;omega
  ·obtain⟨L,hL,e⟩:=ih (λL hL=>h0 L (by simp[hL])) hl
   have hu:(mU (cz l) x 3).at k=if(cz l).at k<x.at k then x.at k else(cz l).at k:=by
    unfold mU an.at;simp only[show 0<3 by omega,show 1<3 by omega,show 2<3 by omega,if_true]
    split
    ·rfl
    ·split<;>rfl
   rw[hu];split
   ·exact⟨x,by simp,rfl⟩
   ·exact⟨L,by simp[hL],e⟩
def afg{k:Nat}(l:List an)(h0:∀L∈l,0<=L.at k)(aw:l≠ []):∃L∈l,L.at k=(cz l).at k:=afo _ l rfl h0 aw
def adP{s:Int}{c d:Cut}{n m n' m':Int}(hs:0<=s)(hn:1<=n')(hm:1<=m')(h1:nv s c d n m'=true)(h2:nv s c d n' m=true)(jX:1<=n)(DN:1<=m):nv s c d n m=true:=by
 unfold nv at *;cases hb:(c.bp==d.bp) with
 |false=>simp
 |true=>
  simp only[hb,Bool.not_true,Bool.false_or,Aii,decide_eq_true_eq] at *;omega
def aeG{b:ao}(hv:Valid b)(aw:aD b≠ []){l:List Cut}(hl:l.length=b.pieces.length)(h:∀L∈aD b,fp b L l=true):fp b (cz (aD b)) l=true:=by
 have hg:∀k,k<b.pieces.length->∃L∈aD b,L.at k=(cz (aD b)).at k:=λk hk=>afg _ (λL hL=>by have:=wF hv hL hk;omega) aw
 refine oi.2 λi hi=>?_
 unfold td;rw[Af6 hi]
 simp only[Aaz];obtain⟨L,hL,e⟩:=hg i (by omega)
 have yc:=oi.1 (h L hL) i hi;unfold td at yc;rw[Af6 hi] at yc
 simp only[Aaz] at yc;refine⟨by rw[<-e];exact yc.1,oi.2 λk hk=>?_⟩
 have dg:=oi.1 yc.2 k hk;obtain⟨L2,nB,e2⟩:=hg k (by omega)
 have yR:=oi.1 (h L2 nB) i hi;unfold td at yR;rw[Af6 hi] at yR
 simp only[Aaz] at yR;have cP:=oi.1 yR.2 k hk;have xR:k<l.length:=by omega
 unfold rm at dg cP |-
 rw[Af6 xR] at dg cP |-
 simp only at dg cP |-
 rw[e] at dg;rw[e2] at cP;have a1:=wF hv hL (k:=i) (by omega)
 have a2:=wF hv hL (k:=k) (by omega)
 have a3:=wF hv nB (k:=i) (by omega)
 have a4:=wF hv nB (k:=k) (by omega)
 exact adP hv.ag.1 a3 a2 dg cP (by omega) (by omega)
def aeH{b:ao}{n:an}{l:List Cut}(h:fp b n l=true){j:Nat}{c:Cut}(hj:l[j]?=some c):tT b n (l.take j) c=true:=by
 have hl:=(Af7.1 hj).1
 have h1:=oi.1 h j hl;unfold td at h1;rw[hj] at h1;simp only[Aaz] at h1;have hlen:(l.take j).length=j:=by rw[Ai2];omega
 unfold tT;rw[hlen,Aaz];refine⟨h1.1,oi.2 λk hk=>?_⟩
 have:=oi.1 h1.2 k hk;unfold rm at this |-
 rw[Ai3 hk]
 exact this
def anu{b:ao}(hv:Valid b){n:an}{cs:List Cut}{k fr:Nat}(hn:1<=n.at cs.length)(h:tT b n cs ⟨k,fr⟩=true):fr<mJ b k:=by
 unfold tT at h;rw[Aaz] at h;have h:=h.1;unfold AW at h;simp only[Int.toNat_natCast] at h;unfold mJ;split at h
 ·rename_i p x h1 h2
  rw[h2];simp only;unfold tR at h;simp only[Aaz,decide_eq_true_eq] at h;omega
 ·cases h
def Bt{b:ao}{n:an}{mI:List Cut->Int}:∀(M:Nat) (c:List Cut) (m:Int),iG b n mI M=some (c,m)->∃k,search b n (jf k) b.pieces.length []=some c
 |0,c,m,h=>by simp[iG] at h
 |M+1,c,m,h=>by
  rw[kS] at h;unfold sY at h;split at h
  ·exact Bt M c m h
  ·rename_i l hl
   unfold nw at h;split at h
   ·simp at h;rw[<-h.1];exact⟨M,hl⟩
   ·split at h
    ·simp at h;rw[<-h.1];exact⟨M,hl⟩
    ·rename_i c' m' heq _
     simp at h;rw[<-h.1];exact Bt M c' m' heq
def M9{b:ao}:∀(l dw:List Cut),(∀q∈l,oO b q)->scan (λ_ c=>fO b.aF.length c) dw l=0
 | [],dw,_=>rfl
 |a::l,dw,hq=>by
  obtain⟨⟨k,dg,cP⟩,fh⟩:=hq a (by simp)
  have ha:fO b.aF.length a=0:=by
   unfold fO;rw[if_pos (by unfold bX;simp;omega),if_pos (by unfold bX;simp;omega)]
  unfold scan;rw[if_neg (by simp[ha])]
  exact M9 l _ λq mD=>hq q (by simp[mD])
def Bj(c:Cut):po c c=0:=by unfold po;simp
def B5(l:List Cut):oj l l=0:=by
 induction l with
 |nil=>rfl
 |cons a l ih=>unfold oj;rw[if_neg (by simp[Bj])];exact ih
def aij{a c d:Cut}(h1:po a c<0)(h2:po c d<0):po a d<0:=by
 unfold po at *;split at h1<;>split at h2<;>split<;>omega
def Bl{a c:Cut}(h:po a c=0):a=c:=by
 obtain⟨x,y⟩:=a;obtain⟨z,t⟩:=c;unfold po at h;simp only at h;split at h
 ·omega
 ·rename_i hn
  have hn:x=z:=by simpa using hn
  subst hn;have:y=t:=by omega
  subst this;rfl
def B6:∀ {l m k:List Cut},l.length=m.length->m.length=k.length->oj l m<0->oj m k<0->oj l k<0
 | [],[],_,_,_,h,_=>by simp[oj] at h
 |a::l,b::m,[],_,h,_,_=>by simp at h
 |a::l,b::m,c::k,h1,h2,ha,hb=>by
  unfold oj at ha hb |-
  by_cases e1:po a b=0
  ·have:=Bl e1
   subst this;rw[if_neg (by simp[Bj])] at ha
   by_cases e2:po a c=0
   ·have:=Bl e2
    subst this;rw[if_neg (by simp[Bj])] at hb |-
    exact B6 (by simpa using h1) (by simpa using h2) ha hb
   ·rw[if_pos e2] at hb |-;exact hb
  ·rw[if_pos e1] at ha
   by_cases e2:po b c=0
   ·have:=Bl e2
    subst this;rw[if_pos e1];exact ha
   ·rw[if_pos e2] at hb
    have:=aij ha hb;rw[if_pos (by omega)];exact this
def aeA{l m:List Cut}{j:Nat}{c d:Cut}(ht:l.take j=m.take j)(hc:l[j]?=some c)(hd:m[j]?=some d)(h:0<po c d):¬oj l m<0:=by
 rw[Sx hc hd (λi c d hi h1 h2=>by
  have e1:=Ai3 (l:=l) hi
  have e2:=Ai3 (l:=m) hi
  rw[ht,e2,h2,h1] at e1;cases e1;exact Bj _) (by omega)]
 omega
def B7{α:Type}{F:Nat->Option α}{x:α}:∀ {n:Nat},(Agj n).findSome? F=some x->∃k,k<n/\F k=some x/\∀i,i<k->F i=none
 |0,h=>by simp at h
 |n+1,h=>by
  rw[Ah5,List.findSome?_append] at h
  cases e:(Agj n).findSome? F with
  |some y=>
   rw[e] at h;simp at h;subst h;obtain⟨k,hk,h1,h2⟩:=B7 e;exact⟨k,by omega,h1,h2⟩
  |none=>
   rw[e] at h;exact⟨n,by omega,by simpa using h,C6.1 e⟩
def aog{b:ao}{n:an}{out:Nat->Bool}{f:Nat}{cs full:List Cut}(h:search b n out (f+1) cs=some full){k0 dp:Nat}(g1:k0<b.aF.length)(g2:out k0=false)(g3:dp<mJ b k0)(g4:tT b n cs ⟨k0,dp⟩=true)
 (found:search b n out f (cs++ [⟨k0,dp⟩])≠none):∃k fr:Nat,search b n out f (cs++ [⟨k,fr⟩])=some full/\(k<k0\/k=k0/\fr<=dp)/\out k=false:=by
 unfold search at h;obtain⟨k,hk,h1,h2⟩:=B7 h;have t0:kj b n (search b n out f) cs k0 dp≠none:=by unfold kj;rw[if_pos g4];exact found
 have iM:k<=k0:=by
  apply Aa1;intro hn;have:=h2 k0 (by omega)
  unfold pC at this;rw[g2] at this;simp only[Aay,if_false] at this;exact t0 (C6.1 this dp g3)
 unfold pC at h1;cases ho:out k with
 |true=>rw[ho] at h1;simp at h1
 |false=>
  rw[ho] at h1;simp only[Aay,if_false] at h1;obtain⟨fr,b7,h3,h4⟩:=B7 h1;have h5:=h3;unfold kj at h5;split at h5
  ·refine⟨k,fr,h5,?_,ho⟩
   rcases Nat.lt_or_ge k k0 with h'|h'
   ·exact .inl h'
   ·obtain rfl:k=k0:=by omega
    refine .inr ⟨rfl,?_⟩
    apply Aa1;intro hn;exact t0 (h4 dp (by omega))
  ·cases h5
def V9{b:ao}{n:an}{out:Nat->Bool}{l:List Cut}(hk:∀(j:Nat) (c:Cut),l[j]?=some c->∃k fr:Nat,c=⟨k,fr⟩/\k<b.aF.length/\out k=false/\fr<mJ b k/\tT b n (l.take j) c=true):
 ∀(f j:Nat),l.length=j+f->∃full,search b n out f (l.take j)=some full/\¬oj l full<0
 |0,j,hl=>by
  refine⟨l.take j,by unfold search;rfl,?_⟩
  rw[List.take_of_length_le (by omega),B5]
  omega
 |f+1,j,hl=>by
  have hj:j<l.length:=by omega
  have aw:=Fh hk (f+1) j hl;obtain⟨full,hs⟩:=Option.ne_none_iff_exists'.1 aw;refine⟨full,hs,?_⟩
  obtain⟨k0,dp,ic,g1,g2,g3,g4⟩:=hk j l[j] (Af6 hj)
  have hlen:(l.take j).length=j:=by rw[Ai2];omega
  have xV:l.take (j+1)=l.take j++ [⟨k0,dp⟩]:=by rw[Ait,Af6 hj,ic];rfl
  have found:=Fh hk f (j+1) (by omega)
  rw[xV] at found;rw[ic] at g4;obtain⟨k,fr,RL,hle,-⟩:=aog hs g1 g2 g3 g4 found;obtain⟨r,hr⟩:=tZ.Bn f _ full RL;have lT:l.take j=full.take j:=by
   rw[<-hr,List.append_assoc,List.take_append_of_le_length (by omega),List.take_take,Nat.min_self]
  have ou:full[j]?=some ⟨k,fr⟩:=by
   rw[<-hr,List.append_assoc,Ah1 (by omega),hlen,Nat.sub_self];rfl
  by_cases e:k=k0/\fr=dp
  ·obtain⟨rfl,rfl⟩:=e
   obtain⟨ac8,cD,agX⟩:=V9 hk f (j+1) (by omega)
   rw[xV,RL] at cD;cases cD;exact agX
  ·refine aeA lT (by rw[Af6 hj,ic]) ou ?_
   unfold po;simp only;split
   ·omega
   ·omega
def V7{b:ao}{n:an}{out:Nat->Bool}:∀(f:Nat) (cs full:List Cut),(∀c∈cs,∃k:Nat,c.bp=k/\out k=false)->search b n out f cs=some full->∀c∈full,∃k:Nat,c.bp=k/\out k=false
 |0,cs,full,h,hs=>by unfold search at hs;cases hs;exact h
 |f+1,cs,full,h,hs=>by
  obtain⟨k,fr,-,ho,-,-,-,hr,-⟩:=X2 hs;exact V7 f _ full (λc hc=>(Af5.1 hc).elim (h c) λhc=>by simp at hc;subst hc;exact⟨k,rfl,ho⟩) hr
def B0{b:ao}{n:an}{mI:List Cut->Int}:∀(M k:Nat) (l:List Cut),k<M->search b n (jf k) b.pieces.length []=some l->∃c m,iG b n mI M=some (c,m)/\c.length=b.pieces.length/\m=mI c/\(m<mI l\/m=mI l/\¬oj l c<0)
 |0,k,l,hk,_=>by omega
 |M+1,k,l,hk,hl=>by
  rw[kS];have hlen:∀ {q:Nat} {l:List Cut},search b n (jf q) b.pieces.length []=some l->l.length=b.pieces.length:=λh=>by have:=(tZ _ _ _ h).1;simpa using this
  have C8:∀ {c:List Cut} {m:Int},iG b n mI M=some (c,m)->c.length=b.pieces.length/\m=mI c:=λh=>yO M _ _ h
  unfold sY;by_cases e:k=M
  ·subst e
   rw[hl];simp only;unfold nw;cases hb:iG b n mI k with
   |none=>exact⟨l,mI l,rfl,hlen hl,rfl,.inr ⟨rfl,by rw[B5];omega⟩⟩
   |some p=>
    obtain⟨c,m⟩:=p;obtain⟨h1,h2⟩:=C8 hb;simp only;split
    ·exact⟨l,mI l,rfl,hlen hl,rfl,.inr ⟨rfl,by rw[B5];omega⟩⟩
    ·rename_i bj
     refine⟨c,m,rfl,h1,h2,?_⟩
     rcases Int.lt_or_le m (mI l) with h'|h'
     ·exact .inl h'
     ·exact .inr ⟨by omega,λhc=>bj (by omega)⟩
  ·obtain⟨c,m,hb,h1,h2,h3⟩:=B0 M k l (by omega) hl
   rw[hb];cases hs:search b n (jf M) b.pieces.length [] with
   |none=>exact⟨c,m,rfl,h1,h2,h3⟩
   |some l2=>
    have g1:=hlen hs;have g0:=hlen hl;simp only;unfold nw;simp only;split
    ·rename_i Vr
     refine⟨l2,mI l2,rfl,g1,rfl,?_⟩
     rcases Vr with hy| ⟨hy,qH⟩
     ·left;rcases h3 with h3| ⟨h3,-⟩<;>omega
     ·rcases h3 with h3| ⟨h3,h4⟩
      ·left;omega
      ·exact .inr ⟨by omega,λhc=>h4 (B6 (by omega) (by omega) hc qH)⟩
    ·exact⟨c,m,rfl,h1,h2,h3⟩
where
 yO {b:ao} {n:an} {mI:List Cut->Int}:∀(M:Nat) (c:List Cut) (m:Int),iG b n mI M=some (c,m)->c.length=b.pieces.length/\m=mI c
  |0,c,m,h=>by simp[iG] at h
  |M+1,c,m,h=>by
   rw[kS] at h;unfold sY at h;split at h
   ·exact yO M c m h
   ·rename_i l hl
    have hg:=(tZ _ _ _ hl).1;simp at hg;unfold nw at h;split at h
    ·simp at h;rw[<-h.1,<-h.2];exact⟨hg,rfl⟩
    ·rename_i c0 m0 hb
     split at h
     ·simp at h;rw[<-h.1,<-h.2];exact⟨hg,rfl⟩
     ·simp at h;rw[<-h.1,<-h.2];exact yO M _ _ hb
def aoK(M x:an)(k:Nat):M.at k<=(mU M x 3).at k/\x.at k<=(mU M x 3).at k:=by
 have hu:(mU M x 3).at k=if M.at k<x.at k then x.at k else M.at k:=by
  unfold mU an.at;simp only[show 0<3 by omega,show 1<3 by omega,show 2<3 by omega,if_true]
  split
  ·rfl
  ·split<;>rfl
 rw[hu];split<;>omega
def RY(k:Nat)(l:List an):∀L∈l,L.at k<=(cz l).at k:=by
 have key:∀(l:List an) (M:an),M.at k<=(l.foldl (λM x=>mU M x 3) M).at k/\∀L∈l,L.at k<=(l.foldl (λM x=>mU M x 3) M).at k:=by
  intro l;induction l with
  |nil=>intro M;exact⟨Int.le_refl _,by simp⟩
  |cons a l ih=>
   intro M;obtain⟨h1,h2⟩:=ih (mU M a 3);have:=aoK M a k;refine⟨Air this.1 h1,λL hL=>?_⟩
   rcases Af2.1 hL with rfl|hL
   ·exact Air this.2 h1
   ·exact h2 L hL
 exact(key l _).2
def filter_le{α:Type}{p q:α->Bool}:∀(l:List α),(∀x∈l,p x=true->q x=true)->(l.filter p).length<=(l.filter q).length
 | [],_=>Ad4 _
 |a::l,h=>by
  have ih:=filter_le l λx hx=>h x (by simp[hx])
  have ha:=h a (by simp)
  cases hp:p a with
  |true=>rw[Ai4 hp,Ai4 (ha hp)];simpa using ih
  |false=>
   rw[Ai5 (by simp[hp])]
   cases hq:q a with
   |true=>rw[Ai4 hq];simp;omega
   |false=>rw[Ai5 (by simp[hq])];exact ih
def aeF{b:ao}{G L:an}{l:List Cut}(h:fp b G l=true)(hL:∀k,k<l.length->L.at k<=G.at k):fp b L l=true:=by
 refine oi.2 λi hi=>?_
 have h0:=oi.1 h i hi;unfold td at h0 |-
 rw[Af6 hi] at h0 |-
 simp only[Aaz] at h0 |-
 have e1:=hL i hi;refine⟨?_,oi.2 λk hk=>?_⟩
 ·have h1:=h0.1
  unfold AW at h1 |-
  split
  ·rename_i p x e2 e3
   rw[e2,e3] at h1;simp only at h1;unfold tR at h1 |-
   simp only[Aaz,decide_eq_true_eq] at h1 |-
   refine⟨by omega,Air ?_ h1.2⟩
   unfold lh;have:=filter_le (p:=Ex l[i].from_ (l[i].from_+L.at i - 1)) (q:=Ex l[i].from_ (l[i].from_+G.at i - 1)) x.cM λy _ hy=>by
    unfold Ex at hy |-
    simp at hy |-
    omega
   omega
  ·rename_i bj
   split at h1
   ·rename_i p x e2 e3;exact absurd e3 (bj p x e2)
   ·cases h1
 ·have h1:=oi.1 h0.2 k hk
  have e2:=hL k (by omega)
  unfold rm at h1 |-
  rw[Af6 (show k<l.length by omega)] at h1 |-
  simp only at h1 |-
  unfold nv at h1 |-
  cases hb:(l[i].bp==l[k].bp) with
  |false=>simp
  |true=>
   simp only[hb,Bool.not_true,Bool.false_or,Aii,decide_eq_true_eq] at *;omega
def aod{b:ao}{n:an}{out:Nat->Bool}{full:List Cut}{f:Nat}(hs:search b n out f []=some full):fp b n full=true:=by
 obtain⟨hl,hj⟩:=tZ f [] full hs;refine oi.2 λi hi=>?_
 have h1:=hj i (by simp at hl;omega)
 have hf:f - i=(f - i - 1)+1:=by simp at hl;omega
 rw[hf] at h1;obtain⟨k,fr,-,-,-,dh,ou,-,-⟩:=X2 h1;simp only[List.length_nil,Ajf] at dh ou;have hlen:(full.take i).length=i:=by rw[Ai2];omega
 rw[hlen] at ou;unfold td;rw[ou];unfold tT at dh;rw[hlen,Aaz] at dh;simp only[Aaz];refine⟨dh.1,oi.2 λq hq=>?_⟩
 have:=oi.1 dh.2 q hq;unfold rm at this |-
 rwa[Ai3 hq] at this
def O7(l m:List Int):Prop:=l.Pairwise (· < ·)/\∀x,x∈l↔x∈m
def af3{zs:List Int}(hs:zs.Pairwise (· <= ·)):O7 (Lib.compact zs) zs:=by
 have key:∀m,m<=zs.length->(Aio zs.toArray m).Pairwise (· < ·)/\(∀x,x∈Aio zs.toArray m↔x∈zs.take m):=by
  intro m;induction m with
  |zero=>intro _;simp[Aio]
  |succ m ih=>
   intro hm;obtain⟨h1,h2⟩:=ih (by omega)
   have al:m<zs.length:=by omega
   have eg:zs.toArray[m]! =zs[m]:=by simp[al]
   have et:zs.take (m+1)=zs.take m++ [zs[m]]:=by rw[Ait,Af6 al];rfl
   rw[Lib.compactUpTo_succ,et];have le:∀x∈zs.take m,x<=zs[m]:=by
    intro x hx;obtain⟨j,hj,rfl⟩:=Ai6 hx;have U2:j<m:=by simp at hj;omega
    rw[List.getElem_take];exact Ai7.1 hs j m (by omega) al U2
   by_cases hk:Lib.keeps zs.toArray m=true
   ·rw[if_pos hk,eg]
    have ne:∀x∈zs.take m,x≠zs[m]:=by
     intro x hx hxe;have DN:m≠0:=by rintro rfl;simp at hx
     simp only[Lib.keeps,decide_eq_true_eq] at hk;rcases hk with hk|hk
     ·exact DN hk
     ·rw[eg] at hk
      have e1:zs.toArray[m - 1]! =zs[m - 1]:=by simp[show m - 1<zs.length by omega]
      rw[e1] at hk;obtain⟨j,hj,rfl⟩:=Ai6 hx;have U2:j<m:=by simp at hj;omega
      rw[List.getElem_take] at hxe;have a1:zs[m - 1]<=zs[m]:=Ai7.1 hs (m - 1) m (by omega) al (by omega)
      have a2:zs[j]<=zs[m - 1]:=by
        rcases Nat.lt_or_ge j (m - 1) with h'|h'
        ·exact Ai7.1 hs j (m - 1) (by omega) (by omega) h'
        ·have:j=m - 1:=by omega
         subst this;exact Int.le_refl _
      omega
    refine⟨List.pairwise_append.2 ⟨h1,List.pairwise_singleton _ _,λx hx y hy=>?_⟩,λx=>by rw[Af5,Af5,h2]⟩
    rw[List.mem_singleton] at hy;subst hy;have jz:=(h2 x).1 hx;have:=le x jz;have:=ne x jz;omega
   ·rw[if_neg hk,List.append_nil]
    refine⟨h1,λx=>?_⟩
    rw[h2,Af5,List.mem_singleton];refine⟨.inl,?_⟩
    rintro(h|rfl)
    ·exact h
    ·simp only[Lib.keeps,decide_eq_true_eq,not_or,Classical.not_not] at hk
     obtain⟨DN,hk⟩:=hk;rw[eg] at hk;have e1:zs.toArray[m - 1]! =zs[m - 1]:=by simp[show m - 1<zs.length by omega]
     rw[e1] at hk;rw[hk];exact List.mem_take_iff_getElem.2 ⟨m - 1,by omega,rfl⟩
 have:=key zs.length (Ad4 _);rwa[List.take_length] at this
def vW(l:List Cut):O7 (jG l) (l.map (·.bp)):=by
 have hs:(ga (l.map (·.bp))).Pairwise (· <= ·):=by
  have:=Aiz (le:=λx y:Int=>decide (x<=y)) (λa b c h1 h2=>by simp at *;omega) (λa b=>by simp;omega) (l.map (·.bp))
  exact this.imp λh=>by simpa using h
 obtain⟨h1,h2⟩:=af3 hs;exact⟨h1,λx=>(h2 x).trans (by unfold ga;exact(Aiy _ _).mem_iff)⟩
def V3:∀ {l m:List Int},l.Pairwise (· < ·)->m.Pairwise (· < ·)->(∀x∈l,x∈m)->l.Sublist m
 | [],m,_,_,_=>List.nil_sublist _
 |a::l,[],_,_,h=>by have:=h a (by simp);simp at this
 |a::l,b::m,hl,hm,h=>by
  rw[List.pairwise_cons] at hl hm;rcases Af2.1 (h a (by simp)) with rfl|ha
  ·refine(V3 hl.2 hm.2 λx hx=>?_).cons₂ a
   rcases Af2.1 (h x (by simp[hx])) with rfl|h'
   ·have:=hl.1 x hx;omega
   ·exact h'
  ·refine(V3 (List.pairwise_cons.2 hl) hm.2 λx hx=>?_).cons b
   rcases Af2.1 (h x hx) with rfl|h'
   ·have h1:=hm.1 a ha
    rcases Af2.1 hx with rfl|hx
    ·omega
    ·have:=hl.1 x hx;omega
   ·exact h'
def EP{b:ao}(h:∀k,0<=yC b k):∀ {l m:List Int},l.Sublist m->lY b l<=lY b m
 |_,_,.slnil=>Int.le_refl _
 |_,_,.cons a hs=>by
  have:=EP h hs;have e:∀l,lY b (a::l)=yC b a+lY b l:=λl=>by simp[lY]
  rw[e];have:=h a;omega
 |_,_,.cons₂ a hs=>by
  have:=EP h hs;have e:∀l,lY b (a::l)=yC b a+lY b l:=λl=>by simp[lY]
  rw[e,e];omega
def ai0{b:ao}(h:∀k,0<=yC b k){l m:List Cut}(hs:∀c∈l,∃d∈m,c.bp=d.bp):j6 l<=j6 m/\qM b l<=qM b m:=by
 obtain⟨a1,a2⟩:=vW l;obtain⟨b1,b2⟩:=vW m;have Am:=V3 a1 b1 λx hx=>by
  obtain⟨c,hc,rfl⟩:=Ah2.1 ((a2 x).1 hx);obtain⟨d,hd,e⟩:=hs c hc;exact(b2 _).2 (Ah2.2 ⟨d,hd,e.symm⟩)
 exact⟨by unfold j6;exact_mod_cast Am.length_le,EP h Am⟩
def aii(a c:Cut):po a c= - po c a:=by
 unfold po;by_cases h:a.bp=c.bp
 ·rw[if_neg (by simp[h]),if_neg (by simp[h])];omega
 ·rw[if_pos h,if_pos (λe=>h e.symm)];omega
def M8:∀ {l m:List Cut},l.length=m.length->oj l m= - oj m l
 | [],[],_=>rfl
 | [],_::_,h=>by simp at h
 |_::_,[],h=>by simp at h
 |a::l,c::m,h=>by
  unfold oj;rw[aii a c];by_cases e:po c a=0
  ·rw[if_neg (by omega),if_neg (by omega)];exact M8 (by simpa using h)
  ·rw[if_pos (by omega),if_pos e]
def LC:∀ {l m:List Cut},l.length=m.length->oj l m=0->l=m
 | [],[],_,_=>rfl
 | [],_::_,h,_=>by simp at h
 |_::_,[],h,_=>by simp at h
 |a::l,c::m,h,e=>by
  unfold oj at e;by_cases e1:po a c=0
  ·rw[if_neg (by omega)] at e
   rw[Bl e1,LC (by simpa using h) e]
  ·rw[if_pos e1] at e;exact absurd e e1
def aiI(p:Nat->Bool):∀n,n<=3->∃k,k<2 ^ n/\∀i,i<n->k.testBit i=p i
 |0,_=>⟨0,by decide,λi hi=>by omega⟩
 |1,_=>by
  refine⟨(p 0).toNat,by cases p 0<;>decide,λi hi=>?_⟩
  obtain rfl:i=0:=by omega
  cases p 0<;>decide
 |2,_=>by
  refine⟨(p 0).toNat+2 * (p 1).toNat,by cases p 0<;>cases p 1<;>decide,λi hi=>?_⟩
  have:i=0\/i=1:=by omega
  rcases this with rfl|rfl<;>cases p 0<;>cases p 1<;>decide
 |3,_=>by
  refine⟨(p 0).toNat+2 * (p 1).toNat+4 * (p 2).toNat,by cases p 0<;>cases p 1<;>cases p 2<;>decide,λi hi=>?_⟩
  have:i=0\/i=1\/i=2:=by omega
  rcases this with rfl|rfl|rfl<;>cases p 0<;>cases p 1<;>cases p 2<;>decide
 |n+4,h=>by omega
def sc(mI:List Cut->Int):Prop:=∀l m:List Cut,(∀c∈l,∃d∈m,c.bp=d.bp)->mI l<=mI m
def ad3{b:ao}(hv:Valid b){mI:List Cut->Int}(hm:sc mI)(aw:aD b≠ []){c:List Cut}(hc:wH b c)(hd:∀L∈aD b,fp b L c=true):
 ∃x m,iG b (cz (aD b)) mI (2 ^ b.aF.length)=some (x,m)/\m<=mI c/\(m=mI c->¬oj c x<0):=by
 have hG:=aeG hv aw hc.1 hd;obtain⟨k,hk,ig⟩:=aiI (λi=>c.any λd=>d.bp==i) b.aF.length hv.nb
 have afG:∀(j:Nat) (d:Cut),c[j]?=some d->∃q fr:Nat,d=⟨q,fr⟩/\q<b.aF.length/\jf k q=false/\fr<mJ b q/\tT b (cz (aD b)) (c.take j) d=true:=by
  intro j d hj;have nE:=(Af7.1 hj).1
  have dh:=hc.2 d (Agd hj);obtain⟨q,hq,z7⟩:=dh.bp;have hf:=dh.from_;have e:d=⟨(q:Nat),(d.from_.toNat:Nat)⟩:=by
   obtain⟨x,y⟩:=d;simp only at hq hf |-
   rw[hq,Int.toNat_of_nonneg hf.1]
  have ho:=aeH hG hj;refine⟨q,d.from_.toNat,e,z7,?_,?_,ho⟩
  ·unfold jf
   rw[ig q z7];simp only[Bool.not_eq_false',Ai8];exact⟨d,Agd hj,by simp[hq]⟩
  ·rw[e] at ho
   refine anu hv ?_ ho
   obtain⟨L,hL⟩:=List.exists_mem_of_ne_nil _ aw;have h1:=wF hv hL (k:=(c.take j).length) (by rw[Ai2];have:=hc.1;omega)
   have h2:=RY (c.take j).length (aD b) L hL;omega
 obtain⟨full,hs,hle⟩:=V9 afG b.pieces.length 0 (by rw[hc.1];omega)
 rw[Agg] at hs;have ql:full.length=b.pieces.length:=by have:=(tZ _ _ _ hs).1;simpa using this
 have dL:=V7 _ [] full (by simp) hs
 have o5:=PI hv _ [] full (by simp) hs
 have hmf:mI full<=mI c:=hm full c λd Ud=>by
  obtain⟨q,hq,ho⟩:=dL d Ud;obtain⟨q',mD,z7⟩:=(o5.2 d Ud).bp;have:q=q':=by omega
  subst this;unfold jf at ho;rw[ig q z7] at ho;simp only[Bool.not_eq_false',Ai8] at ho;obtain⟨d2,h1,h2⟩:=ho;exact⟨d2,h1,by rw[hq];simpa using(by simpa using h2:d2.bp=q).symm⟩
 obtain⟨x,m,hb,Eg,hxm,h3⟩:=B0 (mI:=mI) _ k full hk hs;refine⟨x,m,hb,by rcases h3 with h3|h3<;>omega,λhe al=>?_⟩
 have h4:m=mI full/\¬oj full x<0:=by
  rcases h3 with h3|h3
  ·omega
  ·exact h3
 have fY:=hc.1;by_cases e0:oj c full=0
 ·have:=LC (by omega) e0
  subst this;exact h4.2 al
 ·have h5:oj full c<0:=by have:=M8 (l:=full) (m:=c) (by omega);omega
  exact h4.2 (B6 (by omega) (by omega) h5 al)
def adQ{b:ao}{mI:List Cut->Int}{M:Nat}{x:List Cut}{m:Int}(hb:iG b (cz (aD b)) mI M=some (x,m)):(∀L∈aD b,fp b L x=true)/\m=mI x:=by
 obtain⟨k,hk⟩:=Bt M x m hb;refine⟨λL hL=>aeF (aod hk) λq _=>RY q _ L hL,(B0.yO M x m hb).2⟩
def SI:sc j6:=λl m h=>by
 obtain⟨a1,a2⟩:=vW l;obtain⟨b1,b2⟩:=vW m;have Am:=V3 a1 b1 λx hx=>by
  obtain⟨c,hc,rfl⟩:=Ah2.1 ((a2 x).1 hx);obtain⟨d,hd,e⟩:=h c hc;exact(b2 _).2 (Ah2.2 ⟨d,hd,e.symm⟩)
 unfold j6;exact_mod_cast Am.length_le
def SP{b:ao}(hv:Valid b):sc (qM b):=λl m h=>(ai0 (λk=>by
 unfold yC;cases e:b.aF[k.toNat]? with
 |none=>simp
 |some x=>have:=(hv.bp x (Agd e)).aH;simp only;omega) h).2
end Go.Tw
namespace Go.Tw
variable [Go.Tw.aR]
open Go Go.Proofs Go.RowKit
end Go.Tw
namespace Go.Tw
variable [Go.Tw.aR]
open Go Go.Proofs Go.RowKit
end Go.Tw
namespace Go.Tw
variable [Go.Tw.aR]
open Go Go.Proofs Go.RowKit
def sd(k:Nat)(cs:List Value):Prop:=cs=[.int .u16 k]/\k<65536
def oC(ps:List Nat)(k:Nat):Nat:=(ps[k]?).getD 0
def aex{ps:List Nat}{pv:Value}{w:Abc}{B:Nat}(hp:Row w B 1 sd pv ps){k:Int}(h0:0<=k)(hk:k<=3000):
 Aet prog 42 #[pv,.int .i64 k] w λe w'=>e=.returned (.int .i64 (oC ps k.toNat:Nat))/\w=w':=by
 obtain⟨kn,rfl⟩:=Int.eq_ofNat_of_zero_le h0;obtain⟨A,n,c,rfl,e1,h1,eA,r1⟩:=hp.open_;unfold Aes at eA;have HE:=Afl e1;clear hp e1;by_cases al:kn<n
 ·obtain⟨ad,x,cs,rfl,aC,hx,⟨rfl,Ia⟩,-,au⟩:=r1 kn al
  have g0: w.cell? (ad.add kn)=some (.int .u16 x):=by have:=au 0 _ rfl;simpa using this
  have NA:(kn:Int)<n:=by omega
  have HX:=Afl hx;clear au r1 hx;go_enter func42,Tryz.ntmps42;go_wp2;go_ret;exact⟨aX (by unfold oC;simp[HX.out]),rfl⟩
 ·have jU:¬ (kn:Int)<n:=by omega
  have HN:Hid (ps[kn]?=none):=Afl (List.getElem?_eq_none (by have:=HE.out;omega))
  clear r1;go_enter func42,Tryz.ntmps42;go_wp2;go_ret;exact⟨aX (by unfold oC;simp[HN.out]),rfl⟩
def cutAt(nb:Nat)(ps:List Nat)(i:Nat):Cut:=⟨(oC ps (3+2 * i) % nb:Nat),(oC ps (4+2 * i) % 41:Nat)⟩
def eM(b:ao)(ps:List Nat):List Cut:=(Agj b.pieces.length).map (cutAt b.aF.length ps)
def aeD{b:ao}{ps:List Nat}{pv bv tv kv:Value}{w:Abc}{B:Nat}(ai:bg w B b pv bv tv)(hp:Row w B 1 sd kv ps)(hB:B<=w.heap.size)(kH:b.pieces.length<=1000)(gy:0<b.aF.length)(ahp:b.aF.length<=1000):
 Aet prog 41 #[.agg #[.int .i64 b.ag,pv,bv,tv],kv] w λe w'=>∃u,e=.returned u/\w'.ownsRow w.heap.size 56 2 u b.pieces.length ((eM b ps).flatMap Cut.vs)/\Below w.heap.size w w':=by
 obtain⟨i0,cR,cT,aN,ba⟩:=Agy VH;obtain⟨A1,n1,c1,rfl,e1,h1,eA,-⟩:=ai.pieces.open_;obtain⟨A2,n2,c2,rfl,e2,h2,dW,r2⟩:=ai.aF.open_;obtain⟨A3,n3,c3,rfl,-⟩:=ai.aJ.open_;obtain⟨A4,n4,c4,rfl,-⟩:=hp.open_;unfold Aes at eA dW;have qx:n1<=1000:=by omega
 have dM:0<n2:=by omega
 have apG:n2<=1000:=by omega
 have hz:n2≠0:=by omega
 have E:=Afl (Aee e1 e2);have HP:=Afl hp;have HI:=Afl (Aee cR (Aee cT (Aee aN ba)));clear ai hp e1 e2 r2 cR cT aN ba kH gy ahp;go_enter func41,Tryz.ntmps41;go_wp2;have kk:=Afl (Bk.new w 26 #[.int .i64 b.ag,.slice A1 n1 c1,.slice A2 n2 c2,.slice A3 n3 c3]);go_loopw [5,6] (λo u wr=>∃i:Nat,i<=n1/\u=.int .i64 i/\wr.ownsRow (w.heap.size+1) 56 2 o i (((Agj i).map (cutAt n2 ps)).flatMap Cut.vs)/\Below (w.heap.size+1) (w.alloc (.cells #[.int .i64 b.ag,.slice A1 n1 c1,.slice A2 n2 c2,.slice A3 n3 c3] 26)) wr) (λ_ u _=>n1 - (Ahb u).toNat)
 case atStart=>exact⟨0,Agl _,rfl,⟨by simp,.inl ⟨rfl,rfl⟩⟩,Aft _ _⟩
 case round=>
  obtain⟨i,hi,rfl,aG,hb⟩:=hrel;have HO:=Afl aG;have HB:=Afl hb;have dY:=hb.size;have aI:w.heap.size+1<=wr.heap.size:=by simpa using dY
  have kb:=kk.out.below hb (by simp)
  have p1: wr.cell? ⟨w.heap.size,1,none⟩=some (.slice A1 n1 c1):=kb.cell 1;have p2: wr.cell? ⟨w.heap.size,2,none⟩=some (.slice A2 n2 c2):=kb.cell 2;by_cases al:i<n1
  ·have st:Still B w wr:=((Still.refl w).alloc hB _).trans (Still.aK hb (by omega))
   have HPD:Hid (Row wr.drew B 1 sd (.slice A4 n4 c4) ps):=Afl (HP.out.still (st.trans (Still.aK (iY (Aft _ _)) (Ad4 _))) λ_ _ h=>h)
   have CH:Hid (∀k:Int,0<=k->k<=3000->Aet prog 42 #[.slice A4 n4 c4,.int .i64 k] wr.drew λe w'=>e=.returned (.int .i64 (oC ps k.toNat:Nat))/\wr.drew=w'):=Afl λk h0 hk=>aex HPD.out h0 hk
   have v1:Adf.wrap (2 * (i:Int))=2 * i:=IntWalk.i64_in _ (by omega)
   have v2:Adf.wrap (3+2 * (i:Int))=3+2 * i:=IntWalk.i64_in _ (by omega)
   have v3:Adf.wrap (4+2 * (i:Int))=4+2 * i:=IntWalk.i64_in _ (by omega)
   obtain⟨x,hx⟩:∃x,x=cutAt n2 ps i:=⟨_,rfl⟩
   have t1:((oC ps (3+2 * (i:Int)).toNat:Nat):Int).tmod n2=x.bp:=by
    rw[hx,show(3+2 * (i:Int)).toNat=3+2 * i by omega,Ais (by omega)];unfold cutAt;simp
   have t2:((oC ps (4+2 * (i:Int)).toNat:Nat):Int).tmod 41=x.from_:=by
    rw[hx,show(4+2 * (i:Int)).toNat=4+2 * i by omega,Ais (by omega)];unfold cutAt;simp
   have HX:=Afl hx;clear hb kb aG st dY hx;go_wp2;go_region_law (first
    | (go_simp;go_at_call 42;refine(CH.out _ (by omega) (by omega)).mono ?_;rintro e w' ⟨rfl,rfl⟩)
    | (go_simp;go_at_call 66;refine(di _ _ _).mono ?_;rintro e w' ⟨rfl,rfl⟩)
    | (refine ug rfl (.tmp 14) (.tmp 31) 27 rfl (w.heap.size+1) 56 i0 (.agg #[.int .i64 0,.int .i64 0]) 2 16 (U Tryz.underlying27) HI.out.1 HI.out.2.1 HI.out.2.2.1 HI.out.2.2.2 rfl (by decide) _ i _ rfl (show World.ownsRow _ _ _ _ _ _ _ from(HO.out.alloc _).alloc _) ⟨wr.heap.size+1,0,none⟩ 1 1 [.int .i64 x.bp,.int .i64 x.from_] rfl rfl ?c1 ?c2 ?c3 ?c4 ?c5 ?_
       case c1=>(intro j u hu;match j,hu with|0,hu=>(simp at hu;subst hu;simp[go_sem,Addr.add]) |1,hu=>(simp at hu;subst hu;simp[go_sem,Addr.add]))
       case c2=>simp[Value.oneCell']
       case c3=>(simp only[Aes];omega)
       case c4=>omega
       case c5=>(simp;omega)
       intro v' w1 cK dT;have gW:=Afl cK;have gV:=Afl dT;clear cK dT))
   all_goals
    go_wp2;go_roundw;case rel=>exact⟨i+1,by omega,by go_num,by
     have e:List.flatMap Cut.vs (List.map (cutAt n2 ps) [i])=[.int .i64 x.bp,.int .i64 x.from_]:=by rw[HX.out];rfl
     rw[Ah5,List.map_append,List.flatMap_append,e];exact gW.out,(HB.out.trans (show RowKit.Below (w.heap.size+1) wr _ from iY (((Aft _ _).alloc aI _).alloc (by simp;omega) _))).grown gV.out (by simp;omega) (λk hk=>ei HO.out k hk)⟩
    case measure=>simp[Ahb];omega
  ·obtain rfl:i=n1:=by omega
   clear hb kb dY;go_wp2;go_ret;refine⟨_,rfl,?_,iH HB.out⟩
   unfold eM;rw[E.out.1,E.out.2];exact HO.out.base (by omega)
end Go.Tw
namespace Go.Tw
variable [Go.Tw.aR]
open Go Go.Proofs Go.RowKit
end Go.Tw
namespace Go.Tw
variable [Go.Tw.aR]
open Go Go.Proofs Go.RowKit
end Go.Tw
namespace Go.Tw
variable [Go.Tw.aR]
open Go Go.Proofs Go.RowKit
def tb(c:Int):Bool:=decide (48<=c) && decide (c<=57)
def digit(c:Int)(w:Abc):Aet prog 207 #[.int .u8 c] w λe w'=>e=.returned (.bool (tb c))/\w=w':=by
 go_enter func207,Tryz.ntmps207;go_wp2;all_goals go_ret
 all_goals (refine⟨b9 ?_,rfl⟩;unfold tb;first| (simp;done) | (simp[*];done) | (simp;omega))
def IY{s:ByteArray}(hs:s.size<=Aes)(w:Abc):
 Aet prog 186 #[.string s] w λe w'=>e=.returned (.bool (mK s.data.toList))/\w=w':=by
 unfold Aes at hs;by_cases h1:s.size<1
 ·go_enter func186,Tryz.ntmps186
  go_wp2;go_ret;refine⟨b9 ?_,rfl⟩
  have e:bX s.data.toList.length 1 10=false:=by unfold bX;simp;omega
  unfold mK;rw[e,Bool.and_false]
 by_cases h2:10<s.size
 ·go_enter func186,Tryz.ntmps186
  go_wp2;go_ret;refine⟨b9 ?_,rfl⟩
  have e:bX s.data.toList.length 1 10=false:=by unfold bX;simp;omega
  unfold mK;rw[e,Bool.and_false]
 have hlen:bX s.data.toList.length 1 10=true:=by unfold bX;simp;omega
 have UF:bX (s.size:Int) 1 10=true:=by simpa using hlen
 have HL:=Afl UF;clear UF;have h0:0<s.size:=by omega
 cases hd:tb s[0].toNat with
 |true=>
  go_enter func186,Tryz.ntmps186;go_wp2_with (first
   | (go_at_call 207;refine(digit _ _).mono ?_;rintro e w' ⟨rfl,rfl⟩;try rw[hd]))
  go_ret;refine⟨b9 (Eq.symm (O2 (CF h0) ?_)),rfl⟩
  simp only[tb,Aaz,decide_eq_true_eq] at hd;simp only[jr,Aij,Aik,decide_eq_false_iff_not];omega
 |false=>
  go_enter func186,Tryz.ntmps186;go_wp2_with (first
   | (go_at_call 207;refine(digit _ _).mono ?_;rintro e w' ⟨rfl,rfl⟩;try rw[hd]))
  go_loop [3] (λk=>∃n:Nat,n<=s.size/\k=.int .i64 n/\∀j c,j<n->s.data.toList[j]?=some c->jr j c.toNat=true) (λk=>s.size - (Ahb k).toNat)
  case atStart=>exact⟨0,Agl _,rfl,λj _ hj=>by omega⟩
  case round=>
   obtain⟨n,hn,rfl,bt⟩:=hrel;have HA:=Afl bt;clear bt;by_cases al:n<s.size
   ·have bad:jr n s[n].toNat=false->Ending.returned (.bool false)=.returned (.bool (mK s.data.toList)):=λh=>b9 (Eq.symm (O2 (CF al) h))
    have fG:=Afl bad;have hz:n=0->tb s[n].toNat=false:=λe=>by subst e;exact hd
    have HZ:=Afl hz;clear bad hz;have C8:jr n s[n].toNat=true->∀j c,j<n+1->s.data.toList[j]?=some c->jr j c.toNat=true:=λh j c hj o8=>by
     rcases Agm.1 hj with h'|rfl
     ·exact HA.out j c h' o8
     ·have e:c=s[j]:=by simpa using((CF al).symm.trans o8).symm
      subst e;exact h
    have QV:=Afl C8;clear C8;cases ve:tb s[n].toNat with
    |true=>
     have hc:jr n s[n].toNat=true:=by
      have jX:n≠0:=λe=>by have:=HZ.out e;rw[ve] at this;cases this
      simp only[tb,Aaz,decide_eq_true_eq] at ve;simp only[jr,Aii,Aaz,decide_eq_true_eq];omega
     have HC:=Afl hc;clear hc;go_wp2_with (first
      | (go_at_call 207;refine(digit _ _).mono ?_;rintro e w' ⟨rfl,rfl⟩;try rw[ve]))
     go_round
     case rel=>exact⟨n+1,by omega,by go_num,QV.out HC.out⟩
     case measure=>simp[Ahb];omega
    |false=>
     have nH:¬ (48<=s[n].toNat/\s[n].toNat<=57):=by
      intro h;have:tb s[n].toNat=true:=by simp only[tb,Aaz,decide_eq_true_eq];omega
      rw[this] at ve;cases ve
     by_cases ha:s[n].toNat<97
     ·have hc:jr n s[n].toNat=false:=by
       simp only[jr,Aij,Aik,decide_eq_false_iff_not];omega
      have R:=Afl (fG.out hc);clear hc;go_wp2_with (first
       | (go_at_call 207;refine(digit _ _).mono ?_;rintro e w' ⟨rfl,rfl⟩;try rw[ve]))
      go_ret;exact⟨R.out,rfl⟩
     by_cases hb:122<s[n].toNat
     ·have hc:jr n s[n].toNat=false:=by
       simp only[jr,Aij,Aik,decide_eq_false_iff_not];omega
      have R:=Afl (fG.out hc);clear hc;go_wp2_with (first
       | (go_at_call 207;refine(digit _ _).mono ?_;rintro e w' ⟨rfl,rfl⟩;try rw[ve]))
      go_ret;exact⟨R.out,rfl⟩
     have hc:jr n s[n].toNat=true:=by
      simp only[jr,Aii,Aaz,decide_eq_true_eq];omega
     have HC:=Afl hc;clear hc;go_wp2_with (first
      | (go_at_call 207;refine(digit _ _).mono ?_;rintro e w' ⟨rfl,rfl⟩;try rw[ve]))
     go_round
     case rel=>exact⟨n+1,by omega,by go_num,QV.out HC.out⟩
     case measure=>simp[Ahb];omega
   ·obtain rfl:n=s.size:=by omega
    go_wp2;go_ret;refine⟨b9 ?_,rfl⟩
    simp[mK,HL.out,LR s.data.toList 0 (λk c hk=>by
     have:=HA.out k c (by have:=(Af7.1 hk).1;simpa using this) hk;simpa using this)]
def rising{np:Nat}{l:List Int}{v:Value}{w:Abc}{B:Nat}(hv:Row w B 1 cH v l)(hB:B<=w.heap.size)(kH:np<=Aes):
 Aet prog 57 #[v,.int .i64 np] w λe w'=>e=.returned (.int .i64 (eE np none l))/\Below w.heap.size w w':=by
 obtain⟨A,n,c,rfl,hl,dX,hc,hr⟩:=hv.open_;unfold Aes at hc kH;have KR:=Afl hr;have KL:=Afl hl;clear hv hr hl;go_enter func57,Tryz.ntmps57;go_wp2;go_loopw [4,5] (λr k wr=>∃j:Nat,j<=n/\k=.int .i64 j/\r=.int .i64 0/\eE np none l=eE np (l8 l j) (l.drop j)/\Below w.heap.size w wr) (λ_ k _=>n - (Ahb k).toNat)
 case atStart=>exact⟨0,Agl _,rfl,rfl,rfl,Aft _ _⟩
 case round=>
  obtain⟨j,hj,rfl,rfl,vx,hb⟩:=hrel;have RE:=Afl vx;have HB:=Afl hb;clear vx;by_cases nE:j<n
  ·obtain⟨kd,y,cs,rfl,qt,hy,rfl,-,au⟩:=KR.out j nE
   have st:Still B w wr:=Still.aK hb hB;have ST:=Afl st;have q0:kd.block<wr.heap.size:=by have:=hb.size;omega
   have g1:=cC au st qt rfl;rw[Ago] at g1;have HY:=Afl hy;clear hy au st hb;cases dL:bX y 0 (np - 1) with
   |false=>
    go_wp2_with (first
     | (go_at_call 62;refine(lg _ _ _ _).mono ?_;rintro e w' ⟨rfl,rfl⟩))
    go_ret;refine⟨aX ?_,HB.out⟩
    rw[RE.out,drop_cons HY.out];cases l8 l j<;>simp[eE,dL]
   |true=>
    rcases Nat.eq_zero_or_pos j with uW|uW
    ·subst uW
     rw[show kd.add 0=kd from rfl] at g1
     go_wp2_with (first
      | (go_at_call 62;refine(lg _ _ _ _).mono ?_;rintro e w' ⟨rfl,rfl⟩))
     go_quiet (fail);go_wp2;have hrel:eE np none l=eE np (l8 l 1) (l.drop 1):=by rw[RE.out,drop_cons HY.out];simp[l8,eE,dL,HY.out]
     go_roundw;case rel=>exact⟨1,nE,by go_num,rfl,hrel,by first|exact HB.out|exact jq HB.out _⟩
     case measure=>simp[Ahb];omega
    ·obtain⟨q,rfl⟩:∃q,j=q+1:=⟨j - 1,by omega⟩
     obtain⟨eT,z,SF,CQ,Uv,hz,rfl,-,vd⟩:=KR.out q (by omega)
     cases CQ;rw[show kd.add (q+1)=⟨kd.block,kd.off+(q+1),none⟩ from rfl] at g1
     have g3:=cC vd ST.out qt rfl;rw[Ago] at g3;have HZ:=Afl hz;clear hz vd;have gx:decide ((0:Int)<((q+1:Nat):Int))=true:=by simp<;>omega
     by_cases qI:y<=z
     ·have hd:decide (y<=z)=true:=by simpa using qI
      go_wp2_with (first
          | (go_at_call 62;refine(lg _ _ _ _).mono ?_;rintro e w' ⟨rfl,rfl⟩))
      go_quiet (fail);go_wp2;go_ret;refine⟨aX ?_,by first|exact HB.out|exact jq HB.out _⟩
      rw[RE.out,drop_cons HY.out];simp[l8,HZ.out,eE,dL,qI]
     ·have hd:decide (y<=z)=false:=by simpa using qI
      have hrel:eE np none l=eE np (l8 l (q+2)) (l.drop (q+2)):=by rw[RE.out,drop_cons HY.out];simp[l8,HZ.out,HY.out,eE,dL];omega
      have HR:=Afl hrel;clear hrel;go_wp2_with (first
          | (go_at_call 62;refine(lg _ _ _ _).mono ?_;rintro e w' ⟨rfl,rfl⟩))
      go_quiet (fail);go_wp2;go_roundw;case rel=>exact⟨q+2,by omega,by go_num,rfl,HR.out,by first|exact HB.out|exact jq HB.out _⟩
      case measure=>simp[Ahb];omega
  ·obtain rfl:j=n:=by omega
   go_wp2;go_ret;refine⟨aX ?_,HB.out⟩
   rw[RE.out,Aix (by rw[KL.out];exact Ad4 _)]
   cases l8 l j<;>rfl
def Fz{a b lo hi m:Int}:ma a b lo hi m=(mV a b lo hi && decide (b - a<m)):=by
 unfold ma mV;cases decide (lo<=a)<;>cases decide (a<=b)<;>cases decide (b<=hi)<;>rfl
def ajZ{pv:Value}{w:Abc}{B:Nat}{l:List Piece}(hv:Row w B 4 Piece.R pv l)(hB:B<=w.heap.size):
 Aet prog 145 #[pv] w λe w'=>e=.returned (.int .i64 (iw l))/\Below w.heap.size w w':=by
 obtain⟨A,m,c,rfl,hl,dX,hc,hr⟩:=hv.open_;have dC:=Afl hl;unfold Aes at hc;have H2:=Afl hr;clear hl hr hv;cases hlen:bX m 1 3 with
 |false=>
  go_enter func145,Tryz.ntmps145;go_wp2_with (first
   | (go_at_call 62;refine(lg _ _ _ _).mono ?_;rintro e w' ⟨rfl,rfl⟩))
  go_ret;exact⟨aX (by unfold iw;rw[dC.out,hlen];rfl),Aft _ _⟩
 |true=>
  have QM:m<=3:=by have:=nJ hlen;omega
  go_enter func145,Tryz.ntmps145;go_wp2_with (first
   | (go_at_call 62;refine(lg _ _ _ _).mono ?_;rintro e w' ⟨rfl,rfl⟩))
  go_loopw [2,3,4,5] (λr k u v wr=>∃i:Nat,i<=m/\k=.int .i64 i/\(∀(j:Nat) (x:Piece),j<i->l[j]?=some x->kJ (l.take j) x=0)/\Below w.heap.size w wr) (λ_ k _ _ _=>m - (Ahb k).toNat)
  case atStart=>exact⟨0,Agl _,rfl,λj _ hj=>by omega,Aft _ _⟩
  case round=>
   obtain⟨i,hi,rfl,bt,hb⟩:=hrel;have HH:=Afl (Aee bt hb);have tL:w.heap.size<=wr.heap.size:=hb.size;by_cases al:i<m
   ·obtain⟨ad,x,cs,rfl,aC,hx,⟨rfl,dH⟩,-,au⟩:=H2.out i al
    have st:Still B w wr:=Still.aK hb hB;have ST:=Afl st;have h0:=cC au st aC rfl;have h1:=bK au st aC 0 rfl;have h2:=bK au st aC 1 rfl;have h3:=bK au st aC 2 rfl;have qb:(ad.add (i * 4)).block<wr.heap.size:=by rw[cq];omega
    have HX:=Afl hx;have uy:=Afl au;clear bt hb hx au st;have bad:∀s:Int,kJ (l.take i) x=s->s≠0->s=iw l:=λs hs h0=>by
     unfold iw;rw[dC.out,hlen,if_pos rfl,sf HX.out HH.out.1 (by rw[hs];exact h0),hs]
    have fG:=Afl bad;clear bad;cases ea:mK x.name.data.toList with
    |false=>
     go_wp2_with (first
      | (go_at_call 186;refine(IY dH _).mono ?_;rintro e w1 ⟨rfl,rfl⟩;try rw[ea]))
     go_ret;exact⟨aX (fG.out 4 (by unfold kJ;rw[ea];rfl) (by omega)),HH.out.2⟩
    |true=>
     go_wp2_with (first
      | (go_at_call 186;refine(IY dH _).mono ?_;rintro e w1 ⟨rfl,rfl⟩;try rw[ea]))
     clear h0;have HN:=Afl dH;go_loopw [4] (λk wq=>∃j:Nat,j<=i/\k=.int .i64 j/\(∀(q:Nat) (y:Piece),q<j->l[q]?=some y->jF y.name x.name=false)/\Below w.heap.size w wq) (λk _=>i - (Ahb k).toNat)
     case atStart=>exact⟨0,Agl _,rfl,λq _ hq=>by omega,HH.out.2⟩
     case round=>
      obtain⟨j,hj,rfl,bj,Hc⟩:=hrel;have HO:=Afl (Aee bj Hc);have D2:w.heap.size<=wr.heap.size:=Hc.size;have BC:Still B w wr:=Still.aK Hc hB;have Ze:=Afl BC;have h0:=cC uy.out BC aC rfl;have h1:=bK uy.out BC aC 0 rfl;have h2:=bK uy.out BC aC 1 rfl;have h3:=bK uy.out BC aC 2 rfl;have qb':(ad.add (i * 4)).block<wr.heap.size:=by rw[cq];omega
      clear bj Hc BC;by_cases pa:j<i
      ·obtain⟨Cs,y,bh,e',adT,hy,⟨rfl,NK⟩,-,Ak⟩:=H2.out j (by omega)
       cases e';have g0:=cC Ak Ze.out aC rfl;have qc:(ad.add (j * 4)).block<wr.heap.size:=by rw[cq];omega
       have HY:=Afl hy;clear hy Ak NK;cases hs:jF y.name x.name with
       |true=>
        have cD:(y.name.toList==x.name.toList)=true:=hs;go_wp2;go_quiet (fail);go_wp2;go_ret;refine⟨aX (fG.out 5 ?_ (by omega)),by first|exact HO.out.2|exact jq HO.out.2 _⟩
        unfold kJ;rw[ea,if_pos rfl,if_pos];rw[Ai8];exact⟨y,Agd (i:=j) (by rw[Ai9,if_pos pa];exact HY.out),hs⟩
       |false=>
        have cD:(y.name.toList==x.name.toList)=false:=hs;go_wp2;go_quiet (fail);go_wp2;go_roundw;case rel=>exact⟨j+1,by omega,by go_num,λq z hq hz=>by
            rcases Agm.1 hq with h|rfl
            ·exact HO.out.1 q z h hz
            ·rw[HY.out] at hz;cases hz;exact hs,by first|exact HO.out.2|exact jq HO.out.2 _⟩
        case measure=>simp[Ahb];omega
      ·obtain rfl:j=i:=by omega
       have Dl:(l.take j).any (λq=>jF q.name x.name)=false:=by
           rw[Aja];intro z hz;obtain⟨q,hq⟩:=Aiu hz
           rw[Ai9] at hq
           split at hq
           ·rename_i yd;simpa using HO.out.1 q z yd hq
           ·cases hq
       have uw:=Afl Dl;clear Dl;cases hw:mV x.len.lo x.len.hi 1 40 with
       |false=>
        go_wp2_with (first
            | (go_at_call 49;refine(within _).mono ?_;rintro e w2 ⟨rfl,ak⟩;try rw[hw]))
        go_ret;refine⟨aX (fG.out 1 (by unfold kJ;rw[ea,uw.out,Fz,hw];rfl) (by omega)),cU HO.out.2 ak D2⟩
       |true=>
        have AN:1<=x.len.lo/\x.len.lo<=x.len.hi/\x.len.hi<=40:=by
            simp only[mV,Aaz,decide_eq_true_eq] at hw;exact hw
        obtain⟨b1,b2,b3⟩:=AN;by_cases Ao:3<=x.len.hi - x.len.lo
        ·go_wp2_with (first
             | (go_at_call 49;refine(within _).mono ?_;rintro e w2 ⟨rfl,ak⟩;obtain⟨ef,nD⟩:=fy ak rfl;have ba:wr.heap.size<w2.heap.size:=oE ak;have dI:=Afl (cU HO.out.2 ak D2);clear ak;try rw[hw]))
         go_ret;refine⟨aX (fG.out 1 (by unfold kJ;rw[ea,uw.out,Fz,hw];simp;omega) (by omega)),dI.out⟩
        ·have rR:ma x.len.lo x.len.hi 1 40 3=true:=by rw[Fz,hw];simp;omega
         have Re:=Afl rR;clear rR;cases yb:bX x.bears 0 2 with
         |false=>
          go_wp2_with (first
             | (go_at_call 49;refine(within _).mono ?_;rintro e w2 ⟨rfl,ak⟩;obtain⟨ef,nD⟩:=fy ak rfl;have ba:wr.heap.size<w2.heap.size:=oE ak;have dI:=Afl (cU HO.out.2 ak D2);clear ak;try rw[hw])
             | (go_at_call 62;refine(lg _ _ _ _).mono ?_;rintro e w' ⟨rfl,rfl⟩;try rw[yb]))
          go_ret;refine⟨aX (fG.out 1 (by unfold kJ;rw[ea,uw.out,Re.out,yb];rfl) (by omega)),dI.out⟩
         |true=>
          go_wp2_with (first
             | (go_at_call 49;refine(within _).mono ?_;rintro e w2 ⟨rfl,ak⟩;obtain⟨ef,nD⟩:=fy ak rfl;have ba:wr.heap.size<w2.heap.size:=oE ak;have dI:=Afl (cU HO.out.2 ak D2);clear ak;try rw[hw])
             | (go_at_call 62;refine(lg _ _ _ _).mono ?_;rintro e w' ⟨rfl,rfl⟩;try rw[yb]))
          go_roundw;case rel=>exact⟨j+1,by omega,by go_num,λq y hq hy=>by
             rcases Agm.1 hq with h|rfl
             ·exact HH.out.1 q y h hy
             ·rw[HX.out] at hy;cases hy;unfold kJ;rw[ea,uw.out,Re.out,yb];rfl,dI.out⟩
          case measure=>simp[Ahb];omega
   ·obtain rfl:i=m:=by omega
    go_wp2;go_ret;refine⟨aX ?_,HH.out.2⟩
    unfold iw;rw[dC.out,hlen,if_pos rfl,se (λj x hj=>HH.out.1 j x (by have:=(Af7.1 hj).1;have:=dC.out;omega) hj)]
def tQ(l:List Span)(i:Nat):Int:=if i=0 then -1 else match l[i - 1]? with
 |some k=>k.hi
 |none=>0
def Ij{aH last:Int}{k:Span}{l:List Span}:lX aH last (k::l)=if ma k.lo k.hi 0 (aH - 1) aH then if k.lo<=last then 7 else lX aH k.hi l else 1:=rfl
def Ik{a b aH:Int}:ma a b 0 (aH - 1) aH=mV a b 0 (aH - 1):=by
 rw[Fz];by_cases h:mV a b 0 (aH - 1)=true
 ·rw[h]
  simp only[mV,Aaz,decide_eq_true_eq] at h;simp;omega
 ·simp only[Bool.not_eq_true] at h;rw[h];rfl
def ajX{x:bR}{kv v:Value}{w:Abc}{B:Nat}{l:List bR}(dH:x.name.size<=Aes)(hk:Row w B 2 Span.R kv x.cM)(hv:Row w B 3 (bR.R w B) v l)(hB:B<=w.heap.size):
 Aet prog 146 #[v,.agg #[.string x.name,.int .i64 x.aH,kv]] w λe w'=>e=.returned (.int .i64 (gJ l x))/\Below w.heap.size w w':=by
 obtain⟨A0,m0,c0,rfl,Uz,aoC,ic,U8⟩:=hv.open_;obtain⟨A,m,c,rfl,hl,dX,hc,hr⟩:=hk.open_;have dC:=Afl hl;have YK:=Afl Uz;have H0:=Afl U8;unfold Aes at hc ic;have H2:=Afl hr;clear hl hr hk hv Uz U8;have kb:Bk (w.alloc (.cells #[.string x.name,.int .i64 x.aH,.slice A m c] 59)) w.heap.size 59 #[.string x.name,.int .i64 x.aH,.slice A m c]:=Bk.new _ _ _;have KB:=Afl kb;have qh:Below w.heap.size w (w.alloc (.cells #[.string x.name,.int .i64 x.aH,.slice A m c] 59)):=(Aft _ _).alloc (Ad4 _) _;have fS:=Afl qh;clear kb qh;cases ea:mK x.name.data.toList with
 |false=>
  go_enter func146,Tryz.ntmps146;go_wp2_with (first
   | (go_at_call 186;refine(IY dH _).mono ?_;rintro e w1 ⟨rfl,rfl⟩;try rw[ea]))
  go_ret;exact⟨aX (by unfold gJ;rw[ea];rfl),fS.out⟩
 |true=>
  go_enter func146,Tryz.ntmps146;go_wp2_with (first
   | (go_at_call 186;refine(IY dH _).mono ?_;rintro e w1 ⟨rfl,rfl⟩;try rw[ea]))
  go_loopw [5] (λk wr=>∃i:Nat,i<=m0/\k=.int .i64 i/\(∀(q:Nat) (y:bR),q<i->l[q]?=some y->jF y.name x.name=false)/\Below (w.heap.size+1) (w.alloc (.cells #[.string x.name,.int .i64 x.aH,.slice A m c] 59)) wr) (λk _=>m0 - (Ahb k).toNat)
  case atStart=>exact⟨0,Agl _,rfl,λq _ hq=>by omega,Aft _ _⟩
  case round=>
   obtain⟨i,hi,rfl,bj,hb⟩:=hrel;have HO:=Afl (Aee bj hb);have fN:Below w.heap.size w wr:=fS.out.trans (hb.mono (by omega))
   have BW:=Afl fN;have aI:w.heap.size<wr.heap.size:=by have:=hb.size;simp at this;omega
   have kr:=KB.out.below hb (by omega)
   have r0:=kr.cell 0;have r1:=kr.cell 1;have r2:=kr.cell 2;have st:Still B w wr:=Still.aK fN hB;have ST:=Afl st;have KR:=Afl kr;clear bj hb fN kr;by_cases al:i<m0
   ·obtain⟨ad,y,cs,rfl,aC,hy,⟨jC,rfl,NK,-⟩,-,au⟩:=H0.out i al
    have g0:=cC au st aC rfl;have qc:(ad.add (i * 3)).block<wr.heap.size:=by rw[cq];omega
    have HY:=Afl hy;clear hy au st NK;cases hs:jF y.name x.name with
    |true=>
     have cD:(y.name.toList==x.name.toList)=true:=hs;go_wp2;go_quiet (fail);go_wp2;go_ret;refine⟨aX ?_,by first|exact BW.out|exact jq BW.out _⟩
     unfold gJ;rw[ea,if_pos rfl,if_pos];rw[Ai8];exact⟨y,Agd HY.out,hs⟩
    |false=>
     have cD:(y.name.toList==x.name.toList)=false:=hs;go_wp2;go_quiet (fail);go_wp2;go_roundw;case rel=>exact⟨i+1,by omega,by go_num,λq z hq hz=>by
      rcases Agm.1 hq with h|rfl
      ·exact HO.out.1 q z h hz
      ·rw[HY.out] at hz;cases hz;exact hs,by first|exact HO.out.2|exact jq HO.out.2 _⟩
     case measure=>simp[Ahb];omega
   ·obtain rfl:i=m0:=by omega
    have Dl:l.any (λq=>jF q.name x.name)=false:=by
     rw[Aja];intro z hz;obtain⟨q,hq⟩:=Aiu hz
     simpa using HO.out.1 q z (by have:=(Af7.1 hq).1;have:=YK.out;omega) hq
    have uw:=Afl Dl;clear Dl st;cases ij:bX x.aH 1 40 with
    |false=>
     go_wp2_with (first
      | (go_at_call 62;refine(lg _ _ _ _).mono ?_;rintro e w' ⟨rfl,rfl⟩;try rw[ij]))
     go_ret;exact⟨aX (by unfold gJ;rw[ea,uw.out,ij];rfl),BW.out⟩
    |true=>
     obtain⟨pb,Un⟩:=nJ ij;by_cases h3:3<m
     ·go_wp2_with (first
       | (go_at_call 62;refine(lg _ _ _ _).mono ?_;rintro e w' ⟨rfl,rfl⟩;try rw[ij]))
      go_ret;exact⟨aX (by unfold gJ;rw[ea,uw.out,ij,dC.out];simp[h3]),BW.out⟩
     ·go_wp2_with (first
       | (go_at_call 62;refine(lg _ _ _ _).mono ?_;rintro e w' ⟨rfl,rfl⟩;try rw[ij]))
      have fe:gJ l x=lX x.aH (-1) x.cM:=by unfold gJ;rw[ea,uw.out,ij,dC.out];simp[h3]
      have MA:=Afl fe;clear fe;clear r0 r1 r2;go_loopw [6] (λk wq=>∃j:Nat,j<=m/\k=.int .i64 j/\lX x.aH (-1) x.cM=lX x.aH (tQ x.cM j) (x.cM.drop j)/\Below (w.heap.size+1) (w.alloc (.cells #[.string x.name,.int .i64 x.aH,.slice A m c] 59)) wq) (λk _=>m - (Ahb k).toNat)
      case atStart=>exact⟨0,Agl _,rfl,rfl,HO.out.2⟩
      case round=>
       obtain⟨j,hj,rfl,vx,hb⟩:=hrel;have RE:=Afl vx;have HQ:=Afl hb;have fN:Below w.heap.size w wr:=fS.out.trans (hb.mono (by omega))
       have BQ:=Afl fN;have aI:w.heap.size<wr.heap.size:=by have:=hb.size;simp at this;omega
       have hle:w.heap.size+1<=wr.heap.size:=by omega
       have kr:=KB.out.below hb (by omega)
       have r0:=kr.cell 0;have r1:=kr.cell 1;have r2:=kr.cell 2;have KQ:=Afl kr;have st:Still B w wr:=Still.aK fN hB;have ST:=Afl st;clear vx hb fN kr;by_cases nE:j<m
       ·obtain⟨ad,y,cs,rfl,aC,hy,rfl,-,au⟩:=H2.out j nE
        have h0:=cC au st aC rfl;have h1:=bK au st aC 0 rfl;have qc:(ad.add (j * 2)).block<wr.heap.size:=by rw[cq];omega
        have HY:=Afl hy;have HC:=Afl au;clear hy au st;go_wp2;refine ua 8 (by kernel_rfl) (by kernel_rfl) ?_
        simp only[Agf,Agg,Agh,List.drop_zero];repeat still_step
        refine wpStill_nil ?_
        cases hw:mV y.lo y.hi 0 (x.aH - 1) with
        |false=>
         go_wp2_with (first
             | (go_at_call 49;refine(within _).mono ?_;rintro e w2 ⟨rfl,ak⟩;try rw[hw]))
         go_ret;refine⟨aX ?_,chain BQ.out (iU ak) (by omega)⟩
         rw[MA.out,RE.out,drop_cons HY.out];rw[Ij,Ik,hw];rfl
        |true=>
         rcases Nat.eq_zero_or_pos j with uW|uW
         ·subst uW
          have hrel:lX x.aH (-1) x.cM=lX x.aH (tQ x.cM 1) (x.cM.drop 1):=by
             rw[RE.out,drop_cons HY.out];have pb:0<=y.lo:=by simp only[mV,Aaz,decide_eq_true_eq] at hw;exact hw.1
             have hn:¬ (y.lo<=tQ x.cM 0):=by simp[tQ];omega
             rw[Ij,Ik,hw,if_pos rfl,if_neg hn];simp[tQ,HY.out]
          have HR:=Afl hrel;clear hrel;go_wp2
          go_at_call 49
          refine(within _).mono ?_
          rintro e w2 ⟨rfl,ak⟩;have b2:Below wr.heap.size wr w2:=iU ak;have k2:=KQ.out.below b2 aI;have s0:=k2.cell 0;have s1:=k2.cell 1;have s2:=k2.cell 2;have ba:w.heap.size<w2.heap.size:=by have:=b2.size;omega
          have mT:Still B w w2:=ST.out.trans (Still.aK b2 (by omega))
          have t0:=cC HC.out mT aC rfl;have t1:=bK HC.out mT aC 0 rfl;have q2:(ad.add (0 * 2)).block<w2.heap.size:=by rw[cq];omega
          have dI:=Afl (HQ.out.trans (b2.mono hle));have FX:=Afl (BQ.out.trans (b2.mono (by omega)))
          clear ak b2 k2 mT
          try rw[hw]
          go_wp2;go_quiet (fail);go_wp2;go_roundw;case rel=>exact⟨1,nE,by go_num,HR.out,by first|exact dI.out|exact jq dI.out _⟩
          case measure=>simp[Ahb];omega
         ·obtain⟨q,rfl⟩:∃q,j=q+1:=⟨j - 1,by omega⟩
          obtain⟨Cs,z,SF,CQ,Uv,hz,rfl,-,vd⟩:=H2.out q (by omega)
          cases CQ;have HZ:=Afl hz;have QX:=Afl vd;clear hz vd;have UD:tQ x.cM (q+1)=z.hi:=by simp[tQ,HZ.out]
          have Q2:=Afl UD;clear UD;have gx:decide ((0:Int)<((q+1:Nat):Int))=true:=by simp<;>omega
          by_cases qI:y.lo<=z.hi
          ·have hd:decide (y.lo<=z.hi)=true:=by simpa using qI
           go_wp2
           go_at_call 49
           refine(within _).mono ?_
           rintro e w2 ⟨rfl,ak⟩;have b2:Below wr.heap.size wr w2:=iU ak;have k2:=KQ.out.below b2 aI;have s0:=k2.cell 0;have s1:=k2.cell 1;have s2:=k2.cell 2;have ba:w.heap.size<w2.heap.size:=by have:=b2.size;omega
           have mT:Still B w w2:=ST.out.trans (Still.aK b2 (by omega))
           have t0:=cC HC.out mT aC rfl;have t1:=bK HC.out mT aC 0 rfl;have q2:(ad.add ((q+1) * 2)).block<w2.heap.size:=by rw[cq];omega
           have dI:=Afl (HQ.out.trans (b2.mono hle));have FX:=Afl (BQ.out.trans (b2.mono (by omega)))
           have t3:=bK QX.out mT aC 0 rfl;have q3:(ad.add (q * 2)).block<w2.heap.size:=by rw[cq];omega
           clear ak b2 k2 mT
           try rw[hw]
           go_wp2;go_quiet (fail);go_wp2;go_ret;refine⟨aX ?_,by first|exact FX.out|exact jq FX.out _⟩
           rw[MA.out,RE.out,drop_cons HY.out,Q2.out];rw[Ij,Ik,hw,if_pos rfl,if_pos qI]
          ·have hd:decide (y.lo<=z.hi)=false:=by simpa using qI
           have hrel:lX x.aH (-1) x.cM=lX x.aH (tQ x.cM (q+2)) (x.cM.drop (q+2)):=by
               rw[RE.out,drop_cons HY.out,Q2.out];rw[Ij,Ik,hw,if_pos rfl,if_neg qI];simp[tQ,HY.out]
           have HR:=Afl hrel;clear hrel;go_wp2
           go_at_call 49
           refine(within _).mono ?_
           rintro e w2 ⟨rfl,ak⟩;have b2:Below wr.heap.size wr w2:=iU ak;have k2:=KQ.out.below b2 aI;have s0:=k2.cell 0;have s1:=k2.cell 1;have s2:=k2.cell 2;have ba:w.heap.size<w2.heap.size:=by have:=b2.size;omega
           have mT:Still B w w2:=ST.out.trans (Still.aK b2 (by omega))
           have t0:=cC HC.out mT aC rfl;have t1:=bK HC.out mT aC 0 rfl;have q2:(ad.add ((q+1) * 2)).block<w2.heap.size:=by rw[cq];omega
           have dI:=Afl (HQ.out.trans (b2.mono hle));have FX:=Afl (BQ.out.trans (b2.mono (by omega)))
           have t3:=bK QX.out mT aC 0 rfl;have q3:(ad.add (q * 2)).block<w2.heap.size:=by rw[cq];omega
           clear ak b2 k2 mT
           try rw[hw]
           go_wp2;go_quiet (fail);go_wp2;go_roundw;case rel=>exact⟨q+2,by omega,by go_num,HR.out,by first|exact dI.out|exact jq dI.out _⟩
           case measure=>simp[Ahb];omega
       ·obtain rfl:j=m:=by omega
        go_wp2;go_ret;refine⟨aX ?_,BQ.out⟩
        rw[MA.out,RE.out,Aix (by rw[dC.out];exact Ad4 _)]
        rfl
def XG{a b:Int}:ma a b 0 120 121=mV a b 0 120:=by
 rw[Fz];by_cases h:mV a b 0 120=true
 ·rw[h]
  simp only[mV,Aaz,decide_eq_true_eq] at h;simp;omega
 ·simp only[Bool.not_eq_true] at h;rw[h];rfl
def aj0{n:Int}{pv bv tv:Value}{w:Abc}{B:Nat}{lp:List Piece}{l:List Tape}(hp:Row w B 4 Piece.R pv lp)(Dr:∃A n c,bv=.slice A n c)(hv:Row w B 3 (Tape.R w B) tv l)(hB:B<=w.heap.size):
 Aet prog 147 #[.agg #[.int .i64 n,pv,bv,tv]] w λe w'=>e=.returned (.int .i64 (kK lp.length l))/\Below w.heap.size w w':=by
 obtain⟨PA,np,pc,rfl,kH,Hv,vw,-⟩:=hp.open_;obtain⟨A,m,c,rfl,hl,dX,hc,hr⟩:=hv.open_;obtain⟨BA,bn,bc,rfl⟩:=Dr;have dC:=Afl hl;have DQ:=Afl kH;have KU:=Afl (Ad5 Hv vw);unfold Aes at hc vw;have H2:=Afl hr;have kb:Bk (w.alloc (.cells #[.int .i64 n,.slice PA np pc,.slice BA bn bc,.slice A m c] 26)) w.heap.size 26 #[.int .i64 n,.slice PA np pc,.slice BA bn bc,.slice A m c]:=Bk.new _ _ _;have KB:=Afl kb;have fS:Hid (Below w.heap.size w (w.alloc (.cells #[.int .i64 n,.slice PA np pc,.slice BA bn bc,.slice A m c] 26))):=Afl ((Aft _ _).alloc (Ad4 _) _);clear hl hr hv kH hp kb;by_cases hlen:4<m
 ·go_enter func147,Tryz.ntmps147
  go_wp2;go_ret;exact⟨aX (by unfold kK;rw[dC.out,if_pos hlen]),fS.out⟩
 ·go_enter func147,Tryz.ntmps147
  go_wp2;go_loopw [2,3,4,5] (λr k u v wr=>∃i:Nat,i<=m/\k=.int .i64 i/\(∀(j:Nat) (x:Tape),j<i->l[j]?=some x->kh np x=0)/\Below (w.heap.size+1) (w.alloc (.cells #[.int .i64 n,.slice PA np pc,.slice BA bn bc,.slice A m c] 26)) wr) (λ_ k _ _ _=>m - (Ahb k).toNat)
  case atStart=>exact⟨0,Agl _,rfl,λj _ hj=>by omega,Aft _ _⟩
  case round=>
   obtain⟨i,hi,rfl,bt,hb⟩:=hrel;have HH:=Afl (Aee bt hb);have fN:Below w.heap.size w wr:=fS.out.trans (hb.mono (by omega))
   have BW:=Afl fN;have aI:w.heap.size<wr.heap.size:=by have:=hb.size;simp at this;omega
   have hle:w.heap.size+1<=wr.heap.size:=by omega
   have kr:=KB.out.below hb (by omega)
   have r0:=kr.cell 0;have r1:=kr.cell 1;have r2:=kr.cell 2;have r3:=kr.cell 3;have KR:=Afl kr;have st:Still B w wr:=Still.aK fN hB;have ST:=Afl st;clear bt hb fN kr;by_cases al:i<m
   ·obtain⟨ad,x,cs,rfl,aC,hx,⟨kv,rfl,dj⟩,-,au⟩:=H2.out i al
    obtain⟨KA,kn,kc,rfl,da,Uu,DJ,xS⟩:=id dj.open_;have YH:=Afl dj;unfold Aes at DJ;have KL:=Afl da;have h0:=cC au st aC rfl;have h1:=bK au st aC 0 rfl;have h2:=bK au st aC 1 rfl;have qc:(ad.add (i * 3)).block<wr.heap.size:=by rw[cq];omega
    have HX:=Afl hx;clear hx au st dj da xS;have bad:∀s:Int,kh np x=s->s≠0->s=kK lp.length l:=λs hs h0=>by
     unfold kK;rw[dC.out,if_neg hlen,DQ.out,sf (f:=λ_ t=>kh np t) HX.out HH.out.1 (by rw[hs];exact h0),hs]
    have fG:=Afl bad;clear bad;have HO:Hid (Below (w.heap.size+1) (w.alloc (.cells #[.int .i64 n,.slice PA np pc,.slice BA bn bc,.slice (some ad) m c] 26)) (wr.alloc (.cells #[.slice KA kn kc,.int .i64 x.sum.lo,.int .i64 x.sum.hi] 95))):=Afl (HH.out.2.alloc hle _);have Cb:Hid (Below w.heap.size w (wr.alloc (.cells #[.slice KA kn kc,.int .i64 x.sum.lo,.int .i64 x.sum.hi] 95))):=Afl (BW.out.alloc (by omega) _)
    by_cases iM:kn=0
    ·subst iM
     go_wp2;go_ret;exact⟨aX (fG.out 2 (by unfold kh;rw[KL.out];rfl) (by omega)),Cb.out⟩
    ·have ig:((kn:Int)==0)=false:=by simp;omega
     have KG:Hid (Row (wr.alloc (.cells #[.slice KA kn kc,.int .i64 x.sum.lo,.int .i64 x.sum.hi] 95)) B 1 cH (.slice KA kn kc) x.pieces):=Afl (YH.out.still (Still.aK Cb.out hB) λ_ _ h=>h)
     by_cases dY:eE np none x.pieces=0
     ·cases hw:mV x.sum.lo x.sum.hi 0 120 with
      |false=>
       go_wp2
       go_at_call 57
       refine(rising KG.out (by simp;omega) KU.out).mono ?_
       rintro e w2 ⟨rfl,ak⟩;rw[dY];have mG:(wr.alloc (.cells #[.slice KA kn kc,.int .i64 x.sum.lo,.int .i64 x.sum.hi] 95)).heap.size=wr.heap.size+1:=by simp
       have k2:Bk w2 wr.heap.size 95 #[.slice KA kn kc,.int .i64 x.sum.lo,.int .i64 x.sum.hi]:=(Bk.new wr 95 _).below ak (by omega)
       have s0:=k2.cell 0;have s1:=k2.cell 1;have s2:=k2.cell 2;have ba:wr.heap.size<w2.heap.size:=k2.lt;have BX:Hid (Below (w.heap.size+1) (w.alloc (.cells #[.int .i64 n,.slice PA np pc,.slice BA bn bc,.slice (some ad) m c] 26)) w2):=Afl (HO.out.trans (ak.mono (by omega)))
       have J3:Hid (Below w.heap.size w w2):=Afl (Cb.out.trans (ak.mono (by omega)))
       clear ak k2 mG;go_wp2
       go_at_call 49
       refine(within _).mono ?_
       rintro e w3 ⟨rfl,bD⟩;have BY:Hid (Below (w.heap.size+1) (w.alloc (.cells #[.int .i64 n,.slice PA np pc,.slice BA bn bc,.slice (some ad) m c] 26)) w3):=Afl (BX.out.trans (bD.mono (by omega)))
       have QE:Hid (Below w.heap.size w w3):=Afl (J3.out.trans (bD.mono (by omega)))
       clear bD;rw[hw];go_wp2;go_ret;exact⟨aX (fG.out 1 (by unfold kh;rw[KL.out,if_neg iM,dY,XG,hw];rfl) (by omega)),QE.out⟩
      |true=>
       go_wp2
       go_at_call 57
       refine(rising KG.out (by simp;omega) KU.out).mono ?_
       rintro e w2 ⟨rfl,ak⟩;rw[dY];have mG:(wr.alloc (.cells #[.slice KA kn kc,.int .i64 x.sum.lo,.int .i64 x.sum.hi] 95)).heap.size=wr.heap.size+1:=by simp
       have k2:Bk w2 wr.heap.size 95 #[.slice KA kn kc,.int .i64 x.sum.lo,.int .i64 x.sum.hi]:=(Bk.new wr 95 _).below ak (by omega)
       have s0:=k2.cell 0;have s1:=k2.cell 1;have s2:=k2.cell 2;have ba:wr.heap.size<w2.heap.size:=k2.lt;have BX:Hid (Below (w.heap.size+1) (w.alloc (.cells #[.int .i64 n,.slice PA np pc,.slice BA bn bc,.slice (some ad) m c] 26)) w2):=Afl (HO.out.trans (ak.mono (by omega)))
       have J3:Hid (Below w.heap.size w w2):=Afl (Cb.out.trans (ak.mono (by omega)))
       clear ak k2 mG;go_wp2
       go_at_call 49
       refine(within _).mono ?_
       rintro e w3 ⟨rfl,bD⟩;have BY:Hid (Below (w.heap.size+1) (w.alloc (.cells #[.int .i64 n,.slice PA np pc,.slice BA bn bc,.slice (some ad) m c] 26)) w3):=Afl (BX.out.trans (bD.mono (by omega)))
       have QE:Hid (Below w.heap.size w w3):=Afl (J3.out.trans (bD.mono (by omega)))
       clear bD;rw[hw];go_wp2;go_roundw;case rel=>exact⟨i+1,by omega,by go_num,λj y hj hy=>by
           rcases Agm.1 hj with h|rfl
           ·exact HH.out.1 j y h hy
           ·rw[HX.out] at hy;cases hy;unfold kh;rw[KL.out,if_neg iM,dY,XG,hw];rfl,BY.out⟩
       case measure=>simp[Ahb];omega
     ·have N9:(eE np none x.pieces !=0)=true:=by simpa using dY
      obtain⟨s,hs⟩:∃s,s=eE np none x.pieces:=⟨_,rfl⟩
      rw[<-hs] at dY N9;have HS:=Afl hs;go_wp2
      go_at_call 57
      refine(rising KG.out (by simp;omega) KU.out).mono ?_
      rintro e w2 ⟨rfl,ak⟩;rw[<-HS.out];have BX:=Afl (Cb.out.trans (ak.mono (by simp;omega)))
      clear ak hs;go_wp2;go_ret;exact⟨aX (fG.out s (by unfold kh;rw[KL.out,if_neg iM,<-HS.out,if_pos dY]) dY),BX.out⟩
   ·obtain rfl:i=m:=by omega
    go_wp2;go_ret;refine⟨aX ?_,BW.out⟩
    unfold kK;rw[dC.out,if_neg hlen,DQ.out,se (f:=λ_ t=>kh np t) (λj x hj=>HH.out.1 j x (by have:=(Af7.1 hj).1;have:=dC.out;omega) hj)]
def aac{b:ao}(h:bX b.ag 0 3=false):dF b=1:=by
 unfold dF jP;rw[h];rfl
def aab{b:ao}(h:bX b.ag 0 3=true)(h1:iw b.pieces≠0):dF b=iw b.pieces:=by
 unfold dF jP;rw[h];simp[scan,h1]
def Sp{b:ao}(h:bX b.ag 0 3=true)(h1:iw b.pieces=0)(h2:kC b.aF≠0):dF b=kC b.aF:=by
 unfold dF jP;rw[h];simp[scan,h1,h2]
def aad{b:ao}(h:bX b.ag 0 3=true)(h1:iw b.pieces=0)(h2:kC b.aF=0):dF b=kK b.pieces.length b.aJ:=by
 unfold dF jP;rw[h]
 by_cases h3:kK b.pieces.length b.aJ=0
 ·simp[scan,h1,h2,h3]
 ·simp[scan,h1,h2,h3]
def ajY{b:ao}{pv bv tv:Value}{w:Abc}{B:Nat}(ai:bg w B b pv bv tv)(hB:B<=w.heap.size):
 Aet prog 69 #[.agg #[.int .i64 b.ag,pv,bv,tv]] w λe w'=>e=.returned (.int .i64 (dF b))/\Below w.heap.size w w':=by
 have bT:=Afl ai;obtain⟨PA,np,pc,rfl,kH,Hv,vw,-⟩:=ai.pieces.open_;obtain⟨TA,nt,tc,rfl,xZ,htc,Ob,-⟩:=ai.aJ.open_;obtain⟨A,m,c,rfl,hl,dX,hc,hr⟩:=ai.aF.open_;have dC:=Afl hl;unfold Aes at hc vw Ob;have H2:=Afl hr;have kb:Bk (w.alloc (.cells #[.int .i64 b.ag,.slice PA np pc,.slice A m c,.slice TA nt tc] 26)) w.heap.size 26 #[.int .i64 b.ag,.slice PA np pc,.slice A m c,.slice TA nt tc]:=Bk.new _ _ _;have KB:=Afl kb;have fS:Hid (Below w.heap.size w (w.alloc (.cells #[.int .i64 b.ag,.slice PA np pc,.slice A m c,.slice TA nt tc] 26))):=Afl ((Aft _ _).alloc (Ad4 _) _);have mG:(w.alloc (.cells #[.int .i64 b.ag,.slice PA np pc,.slice A m c,.slice TA nt tc] 26)).heap.size=w.heap.size+1:=by simp
 have Br:=Afl mG;have Kc:Hid (Aet prog 145 #[.slice PA np pc] (w.alloc (.cells #[.int .i64 b.ag,.slice PA np pc,.slice A m c,.slice TA nt tc] 26)) λe w'=>e=.returned (.int .i64 (iw b.pieces))/\Below (w.heap.size+1) (w.alloc (.cells #[.int .i64 b.ag,.slice PA np pc,.slice A m c,.slice TA nt tc] 26)) w'):=Afl (by
  have:=ajZ (bT.out.pieces.still (Still.aK fS.out hB) λ_ _ h=>h) (by rw[mG];omega)
  rw[mG] at this;exact this)
 clear hl hr ai kH xZ kb mG;cases h1:bX b.ag 0 3 with
 |false=>
  go_enter func69,Tryz.ntmps69;go_wp2_with (first
   | (go_at_call 62;refine(lg _ _ _ _).mono ?_;rintro e w' ⟨rfl,rfl⟩;try rw[h1]))
  go_ret;exact⟨aX (aac h1).symm,fS.out⟩
 |true=>
  by_cases h2:iw b.pieces=0
  ·go_enter func69,Tryz.ntmps69
   go_wp2_with (first
    | (go_at_call 62;refine(lg _ _ _ _).mono ?_;rintro e w' ⟨rfl,rfl⟩;try rw[h1]))
   go_at_call 145
   refine Kc.out.mono ?_
   rintro e w1 ⟨rfl,ae⟩;rw[h2];have k1:=KB.out.below ae (by omega)
   have r0:=k1.cell 0;have r1:=k1.cell 1;have r2:=k1.cell 2;have r3:=k1.cell 3;have aN:w.heap.size<w1.heap.size:=k1.lt;have dO:Hid (Below w.heap.size w w1):=Afl (fS.out.trans (ae.mono (by omega)))
   have Yl:=Afl ae;clear k1 ae;by_cases h3:3<m
   ·go_wp2
    go_ret;exact⟨aX (by rw[Sp h1 h2 (by unfold kC;rw[dC.out,if_pos h3];omega)];unfold kC;rw[dC.out,if_pos h3]),dO.out⟩
   ·go_wp2
    clear r0 r1 r2 r3;go_loopw [2,4,5] (λr k u wr=>∃i:Nat,i<=m/\k=.int .i64 i/\(∀(j:Nat) (x:bR),j<i->b.aF[j]?=some x->gJ (b.aF.take j) x=0)/\Below (w.heap.size+1) (w.alloc (.cells #[.int .i64 b.ag,.slice PA np pc,.slice A m c,.slice TA nt tc] 26)) wr) (λ_ k _ _=>m - (Ahb k).toNat)
    case atStart=>exact⟨0,Agl _,rfl,λj _ hj=>by omega,Yl.out⟩
    case round=>
     obtain⟨i,hi,rfl,bt,hb⟩:=hrel;have HH:=Afl (Aee bt hb);have fN:Below w.heap.size w wr:=fS.out.trans (hb.mono (by omega))
     have BW:=Afl fN;have aI:w.heap.size<wr.heap.size:=by have:=hb.size;have:=Br.out;omega
     have hle:w.heap.size+1<=wr.heap.size:=by omega
     have kr:=KB.out.below hb (by omega)
     have r0:=kr.cell 0;have r1:=kr.cell 1;have r2:=kr.cell 2;have r3:=kr.cell 3;have st:Still B w wr:=Still.aK fN hB;have ST:=Afl st;clear bt hb fN kr;by_cases al:i<m
     ·obtain⟨ad,x,cs,rfl,aC,hx,⟨kv,rfl,dH,dj⟩,-,au⟩:=H2.out i al
      obtain⟨A2,c2,rfl,-⟩:=id dj;obtain⟨n2,dM⟩:∃n2,n2=x.cM.length:=⟨_,rfl⟩
      rw[<-dM] at dj au;clear dM;have yV:=Afl dj;have g0:=cC au st aC rfl;have g1:=bK au st aC 0 rfl;have g2:=bK au st aC 1 rfl;have HX:=Afl hx;clear hx au st dj;have DD:i<=c:=by omega
      go_wp2;refine ua 9 (by kernel_rfl) (by kernel_rfl) ?_
      simp only[Agf,Agg,Agh,List.drop_zero];repeat still_step
      refine wpStill_nil ?_
      have HR:=Afl ((bT.out.aF.take hi).still ST.out λ_ _ h=>h.still ST.out)
      have F7:=Afl (yV.out.still ST.out λ_ _ h=>h)
      have Kd:Hid (Aet prog 146 #[.slice (some ad) i c,.agg #[.string x.name,.int .i64 x.aH,.slice A2 n2 c2]] wr.drew λe w'=>e=.returned (.int .i64 (gJ (b.aF.take i) x))/\Below wr.heap.size wr w'):=Afl (by
       have:=ajX (w:=wr.drew) dH F7.out HR.out (by show B<=wr.heap.size;omega)
       exact this.mono λe w' ⟨h1,h2⟩=>⟨h1,iU h2⟩)
      by_cases hz:gJ (b.aF.take i) x=0
      ·go_wp2
       go_at_call 146
       refine Kd.out.mono ?_
       rintro e w2 ⟨rfl,ak⟩;rw[hz];have BX:=Afl (HH.out.2.trans (ak.mono hle));clear ak;go_wp2;go_roundw;case rel=>exact⟨i+1,by omega,by go_num,λj y hj hy=>by
        rcases Agm.1 hj with h|rfl
        ·exact HH.out.1 j y h hy
        ·rw[HX.out] at hy;cases hy;exact hz,BX.out⟩
       case measure=>simp[Ahb];omega
      ·obtain⟨s,hs⟩:∃s,s=gJ (b.aF.take i) x:=⟨_,rfl⟩
       rw[<-hs] at hz Kd;have N9:(s !=0)=true:=by simpa using hz
       have HS:=Afl hs;clear hs;go_wp2
       go_at_call 146
       refine Kd.out.mono ?_
       rintro e w2 ⟨rfl,ak⟩;have BX:=Afl (BW.out.trans (ak.mono (by omega)))
       clear ak;go_wp2;go_ret;have fe:kC b.aF=s:=by
        unfold kC;rw[dC.out,if_neg h3,sf HX.out HH.out.1 (by rw[<-HS.out];exact hz),<-HS.out]
       exact⟨aX (by rw[Sp h1 h2 (by rw[fe];exact hz),fe]),BX.out⟩
     ·obtain rfl:i=m:=by omega
      have fe:kC b.aF=0:=by
       unfold kC;rw[dC.out,if_neg h3,se (λj x hj=>HH.out.1 j x (by have:=(Af7.1 hj).1;have:=dC.out;omega) hj)]
      have MA:=Afl fe;have Yn:Hid (Aet prog 147 #[.agg #[.int .i64 b.ag,.slice PA np pc,.slice A i c,.slice TA nt tc]] wr λe w'=>e=.returned (.int .i64 (kK b.pieces.length b.aJ))/\Below wr.heap.size wr w'):=Afl
       (aj0 (bT.out.pieces.still ST.out λ_ _ h=>h) ⟨_,_,_,rfl⟩ (bT.out.aJ.still ST.out λ_ _ h=>h.still ST.out) (by omega))
      clear fe st;go_wp2
      go_at_call 147
      refine Yn.out.mono ?_
      rintro e w2 ⟨rfl,ak⟩;have BX:=Afl (BW.out.trans (ak.mono (by omega)))
      clear ak;go_wp2;go_ret;exact⟨aX (aad h1 h2 MA.out).symm,BX.out⟩
  ·obtain⟨s,hs⟩:∃s,s=iw b.pieces:=⟨_,rfl⟩
   have o4:=aab h1 h2;rw[<-hs] at h2 Kc o4;have N9:(s !=0)=true:=by simpa using h2
   have YB:=Afl o4;clear hs o4;go_enter func69,Tryz.ntmps69;go_wp2_with (first
    | (go_at_call 62;refine(lg _ _ _ _).mono ?_;rintro e w' ⟨rfl,rfl⟩;try rw[h1]))
   go_at_call 145
   refine Kc.out.mono ?_
   rintro e w1 ⟨rfl,ae⟩;have dO:Hid (Below w.heap.size w w1):=Afl (fS.out.trans (ae.mono (by omega)))
   clear ae;go_wp2;go_ret;exact⟨aX YB.out.symm,dO.out⟩
def rq(x:bR):Bool:=decide (100<x.name.size) ||decide (20<x.cM.length)
def zH(x:Piece):Bool:=decide (100<x.name.size)
def zI(x:Tape):Bool:=decide (20<x.pieces.length)
def uU(b:ao):Bool:=(decide (20<b.pieces.length) || (decide (20<b.aF.length) ||decide (20<b.aJ.length))) || (b.pieces.any zH|| (b.aF.any rq||b.aJ.any zI))
def sS(b:ao):Bool:= !uU b && decide (dF b=0)
def Zz{x:bR}{kv:Value}{w:Abc}{B:Nat}(dH:x.name.size<=Aes)(hk:Row w B 2 Span.R kv x.cM):
 Aet prog 51 #[.agg #[.string x.name,.int .i64 x.aH,kv]] w λe w'=>e=.returned (.bool (rq x))/\Below w.heap.size w w':=by
 obtain⟨A,m,c,rfl,hl,dX,hc,-⟩:=hk.open_;unfold Aes at hc dH;have HL:=Afl hl;clear hl hk;by_cases h1:100<x.name.size
 ·go_enter func51,Tryz.ntmps51
  go_wp2;go_ret;exact⟨b9 (by unfold rq;simp[h1]),(Aft _ _).alloc (Ad4 _) _⟩
 ·by_cases h2:20<m
  ·go_enter func51,Tryz.ntmps51
   go_wp2;go_ret;exact⟨b9 (by unfold rq;rw[HL.out];simp[h2];omega),(Aft _ _).alloc (Ad4 _) _⟩
  ·go_enter func51,Tryz.ntmps51
   go_wp2;go_ret;exact⟨b9 (by unfold rq;rw[HL.out];simp[h1,h2];omega),(Aft _ _).alloc (Ad4 _) _⟩
def Lp{α:Type}{p:α->Bool}{l:List α}{i:Nat}{x:α}(h:l[i]?=some x)(hp:p x=true):l.any p=true:=Ai8.2 ⟨x,Agd h,hp⟩
def Lo{α:Type}{p:α->Bool}{l:List α}{n:Nat}(hn:l.length=n)(h:∀(j:Nat) (x:α),j<n->l[j]?=some x->p x=false):l.any p=false:=by
 rw[Aja];intro z hz;obtain⟨q,hq⟩:=Aiu hz
 simpa using h q z (by have:=(Af7.1 hq).1;omega) hq
def adh{b:ao}{pv bv tv:Value}{w:Abc}{B:Nat}(ai:bg w B b pv bv tv)(hB:B<=w.heap.size):
 Aet prog 20 #[.agg #[.int .i64 b.ag,pv,bv,tv]] w λe w'=>e=.returned (.bool (uU b))/\Below w.heap.size w w':=by
 obtain⟨PA,np,pc,rfl,kH,Hv,vw,U6⟩:=ai.pieces.open_;obtain⟨TA,nt,tc,rfl,xZ,htc,Ob,pg⟩:=ai.aJ.open_;obtain⟨A,m,c,rfl,hl,dX,hc,hr⟩:=ai.aF.open_;have KJ:=Afl kH;have KI:=Afl hl;have KP:=Afl xZ;have HP:=Afl U6;have HT:=Afl pg;have H2:=Afl hr;unfold Aes at hc vw Ob;have kb:Bk (w.alloc (.cells #[.int .i64 b.ag,.slice PA np pc,.slice A m c,.slice TA nt tc] 26)) w.heap.size 26 #[.int .i64 b.ag,.slice PA np pc,.slice A m c,.slice TA nt tc]:=Bk.new _ _ _;have KB:=Afl kb;have fS:Hid (Below w.heap.size w (w.alloc (.cells #[.int .i64 b.ag,.slice PA np pc,.slice A m c,.slice TA nt tc] 26))):=Afl ((Aft _ _).alloc (Ad4 _) _);have Br:Hid ((w.alloc (.cells #[.int .i64 b.ag,.slice PA np pc,.slice A m c,.slice TA nt tc] 26)).heap.size=w.heap.size+1):=Afl (by simp)
 have Vr:∀q:Bool,q=true->(decide (20<b.pieces.length) || (decide (20<b.aF.length) ||decide (20<b.aJ.length)))=q->true=uU b:=λq h1 h2=>by unfold uU;rw[h2,h1];rfl
 have K1:=Afl Vr;clear hl hr ai kH xZ kb U6 pg Vr;by_cases h1:20<np
 ·go_enter func20,Tryz.ntmps20
  go_wp2;go_ret;exact⟨b9 (K1.out true rfl (by rw[KJ.out];simp[h1])),fS.out⟩
 by_cases h2:20<m
 ·go_enter func20,Tryz.ntmps20
  go_wp2;go_ret;exact⟨b9 (K1.out true rfl (by rw[KI.out];simp[h2])),fS.out⟩
 by_cases h3:20<nt
 ·go_enter func20,Tryz.ntmps20
  go_wp2;go_ret;exact⟨b9 (K1.out true rfl (by rw[KP.out];simp[h3])),fS.out⟩
 have bj:uU b=(b.pieces.any zH|| (b.aF.any rq||b.aJ.any zI)):=by
  unfold uU;rw[KJ.out,KI.out,KP.out];simp[h1,h2,h3]
 have sT:=Afl bj;clear bj;go_enter func20,Tryz.ntmps20;go_wp2;go_loopw [2,3] (λr k wr=>∃i:Nat,i<=np/\k=.int .i64 i/\(∀(j:Nat) (x:Piece),j<i->b.pieces[j]?=some x->zH x=false)/\Below (w.heap.size+1) (w.alloc (.cells #[.int .i64 b.ag,.slice PA np pc,.slice A m c,.slice TA nt tc] 26)) wr) (λ_ k _=>np - (Ahb k).toNat)
 case atStart=>exact⟨0,Agl _,rfl,λj _ hj=>by omega,by rw[<-Br.out];exact Aft _ _⟩
 case round=>
  obtain⟨i,hi,rfl,bt,hb⟩:=hrel;have HH:=Afl (Aee bt hb);have fN:Below w.heap.size w wr:=fS.out.trans (hb.mono (by omega))
  have BW:=Afl fN;have kr:=KB.out.below hb (by omega)
  have aI:w.heap.size<wr.heap.size:=kr.lt;have r0:=kr.cell 0;have r1:=kr.cell 1;have r2:=kr.cell 2;have r3:=kr.cell 3;have st:Still B w wr:=Still.aK fN hB;clear bt hb fN kr;by_cases al:i<np
  ·obtain⟨ad,x,cs,rfl,aC,hx,⟨rfl,dH⟩,-,au⟩:=HP.out i al
   have g0:=cC au st aC rfl;have qc:(ad.add (i * 4)).block<wr.heap.size:=by rw[cq];omega
   have HX:=Afl hx;unfold Aes at dH;clear hx au st;by_cases hg:100<x.name.size
   ·go_wp2
    go_ret;exact⟨b9 (by rw[sT.out,Lp HX.out (by unfold zH;simpa using hg)];rfl),BW.out⟩
   ·go_wp2
    go_roundw;case rel=>exact⟨i+1,by omega,by go_num,λj y hj hy=>by
     rcases Agm.1 hj with h|rfl
     ·exact HH.out.1 j y h hy
     ·rw[HX.out] at hy;cases hy;unfold zH;simpa using hg,HH.out.2⟩
    case measure=>simp[Ahb];omega
  ·obtain rfl:i=np:=by omega
   have qx:b.pieces.any zH=false:=Lo KJ.out HH.out.1;have kQ:=Afl qx;have F3:=Afl HH.out.2;clear qx st;go_wp2;clear r0 r1 r2 r3;go_loopw [2,4] (λr k wr=>∃j:Nat,j<=m/\k=.int .i64 j/\(∀(q:Nat) (x:bR),q<j->b.aF[q]?=some x->rq x=false)/\Below (w.heap.size+1) (w.alloc (.cells #[.int .i64 b.ag,.slice PA i pc,.slice A m c,.slice TA nt tc] 26)) wr) (λ_ k _=>m - (Ahb k).toNat)
   case atStart=>exact⟨0,Agl _,rfl,λj _ hj=>by omega,F3.out⟩
   case round=>
    obtain⟨j,hj,rfl,bt,hb⟩:=hrel;have HG:=Afl (Aee bt hb);have fN:Below w.heap.size w wr:=fS.out.trans (hb.mono (by omega))
    have BV:=Afl fN;have kr:=KB.out.below hb (by omega)
    have oD:w.heap.size<wr.heap.size:=kr.lt;have hle:w.heap.size+1<=wr.heap.size:=oD;have r0:=kr.cell 0;have r1:=kr.cell 1;have r2:=kr.cell 2;have r3:=kr.cell 3;have st:Still B w wr:=Still.aK fN hB;have ST:=Afl st;clear bt hb fN kr;by_cases al:j<m
    ·obtain⟨ad,x,cs,rfl,aC,hx,⟨kv,rfl,dH,dj⟩,-,au⟩:=H2.out j al
     obtain⟨A2,c2,rfl,-⟩:=id dj;obtain⟨n2,dM⟩:∃n2,n2=x.cM.length:=⟨_,rfl⟩
     rw[<-dM] at dj au;clear dM;have QO:Hid (Aet prog 51 #[.agg #[.string x.name,.int .i64 x.aH,.slice A2 n2 c2]] wr λe w'=>e=.returned (.bool (rq x))/\Below wr.heap.size wr w'):=Afl (Zz dH (dj.still st λ_ _ h=>h))
     have g0:=cC au st aC rfl;have g1:=bK au st aC 0 rfl;have g2:=bK au st aC 1 rfl;have qc:(ad.add (j * 3)).block<wr.heap.size:=by rw[cq];omega
     have HX:=Afl hx;clear hx au st dj;cases hg:rq x with
     |true=>
      go_wp2
      go_at_call 51
      refine QO.out.mono ?_
      rintro e w2 ⟨rfl,ak⟩;rw[hg];have BX:=Afl (BV.out.trans (ak.mono (by omega)))
      clear ak;go_wp2;go_ret;exact⟨b9 (by rw[sT.out,Lp HX.out hg];simp),BX.out⟩
     |false=>
      go_wp2
      go_at_call 51
      refine QO.out.mono ?_
      rintro e w2 ⟨rfl,ak⟩;rw[hg];have BX:=Afl (HG.out.2.trans (ak.mono hle));clear ak;go_wp2;go_roundw;case rel=>exact⟨j+1,by omega,by go_num,λq y hq hy=>by
       rcases Agm.1 hq with h|rfl
       ·exact HG.out.1 q y h hy
       ·rw[HX.out] at hy;cases hy;exact hg,BX.out⟩
      case measure=>simp[Ahb];omega
    ·obtain rfl:j=m:=by omega
     have dM:b.aF.any rq=false:=Lo KI.out HG.out.1;have YO:=Afl dM;have Yz:=Afl HG.out.2;clear dM st;go_wp2;clear r0 r1 r2 r3;go_loopw [2,5] (λr k wr=>∃q:Nat,q<=nt/\k=.int .i64 q/\(∀(z:Nat) (x:Tape),z<q->b.aJ[z]?=some x->zI x=false)/\Below (w.heap.size+1) (w.alloc (.cells #[.int .i64 b.ag,.slice PA i pc,.slice A j c,.slice TA nt tc] 26)) wr) (λ_ k _=>nt - (Ahb k).toNat)
     case atStart=>exact⟨0,Agl _,rfl,λj _ hj=>by omega,Yz.out⟩
     case round=>
      obtain⟨q,hq,rfl,bt,hb⟩:=hrel;have HK:=Afl (Aee bt hb);have fN:Below w.heap.size w wr:=fS.out.trans (hb.mono (by omega))
      have BZ:=Afl fN;have kr:=KB.out.below hb (by omega)
      have D2:w.heap.size<wr.heap.size:=kr.lt;have r0:=kr.cell 0;have r1:=kr.cell 1;have r2:=kr.cell 2;have r3:=kr.cell 3;have st:Still B w wr:=Still.aK fN hB;clear bt hb fN kr;by_cases al:q<nt
      ·obtain⟨ad,x,cs,rfl,aC,hx,⟨kv,rfl,dj⟩,-,au⟩:=HT.out q al
       obtain⟨KA,kn,kc,rfl,da,Uu,DJ,-⟩:=dj.open_;unfold Aes at DJ;have KL:=Afl da;have g0:=cC au st aC rfl;have qc:(ad.add (q * 3)).block<wr.heap.size:=by rw[cq];omega
       have HX:=Afl hx;clear hx au st dj da;by_cases hg:20<kn
       ·go_wp2
        go_ret;exact⟨b9 (by rw[sT.out,Lp HX.out (by unfold zI;rw[KL.out];simpa using hg)];simp),BZ.out⟩
       ·go_wp2
        go_roundw;case rel=>exact⟨q+1,by omega,by go_num,λz y hz hy=>by
             rcases Agm.1 hz with h|rfl
             ·exact HK.out.1 z y h hy
             ·rw[HX.out] at hy;cases hy;unfold zI;rw[KL.out];simpa using hg,HK.out.2⟩
        case measure=>simp[Ahb];omega
      ·obtain rfl:q=nt:=by omega
       have lQ:b.aJ.any zI=false:=Lo KP.out HK.out.1;have YP:=Afl lQ;clear lQ st;go_wp2;go_ret;exact⟨b9 (by rw[sT.out,kQ.out,YO.out,YP.out];rfl),BZ.out⟩
def fit{b:ao}{pv bv tv:Value}{w:Abc}{B:Nat}(ai:bg w B b pv bv tv)(hB:B<=w.heap.size):
 Aet prog 40 #[.agg #[.int .i64 b.ag,pv,bv,tv]] w λe w'=>e=.returned (.bool (sS b))/\Below w.heap.size w w':=by
 have bT:=Afl ai;obtain⟨PA,np,pc,rfl,-⟩:=ai.pieces.open_;obtain⟨TA,nt,tc,rfl,-⟩:=ai.aJ.open_;obtain⟨A,m,c,rfl,-⟩:=ai.aF.open_;have kb:Bk (w.alloc (.cells #[.int .i64 b.ag,.slice PA np pc,.slice A m c,.slice TA nt tc] 26)) w.heap.size 26 #[.int .i64 b.ag,.slice PA np pc,.slice A m c,.slice TA nt tc]:=Bk.new _ _ _;have KB:=Afl kb;have fS:Hid (Below w.heap.size w (w.alloc (.cells #[.int .i64 b.ag,.slice PA np pc,.slice A m c,.slice TA nt tc] 26))):=Afl ((Aft _ _).alloc (Ad4 _) _);have mG:(w.alloc (.cells #[.int .i64 b.ag,.slice PA np pc,.slice A m c,.slice TA nt tc] 26)).heap.size=w.heap.size+1:=by simp
 have QH:Hid (Aet prog 20 #[.agg #[.int .i64 b.ag,.slice PA np pc,.slice A m c,.slice TA nt tc]] (w.alloc (.cells #[.int .i64 b.ag,.slice PA np pc,.slice A m c,.slice TA nt tc] 26)) λe w'=>e=.returned (.bool (uU b))/\Below (w.heap.size+1) (w.alloc (.cells #[.int .i64 b.ag,.slice PA np pc,.slice A m c,.slice TA nt tc] 26)) w'):=Afl (by
  have:=adh (bT.out.still (Still.aK fS.out hB)) (by rw[mG];omega)
  rw[mG] at this;exact this)
 clear ai kb;cases hg:uU b with
 |true=>
  go_enter func40,Tryz.ntmps40;go_wp2
  go_at_call 20
  refine QH.out.mono ?_
  rintro e w1 ⟨rfl,ae⟩;rw[hg];have BX:=Afl (fS.out.trans (ae.mono (by omega)))
  clear ae;go_wp2;go_ret;exact⟨b9 (by unfold sS;rw[hg];rfl),BX.out⟩
 |false=>
  go_enter func40,Tryz.ntmps40;go_wp2
  go_at_call 20
  refine QH.out.mono ?_
  rintro e w1 ⟨rfl,ae⟩;rw[hg];have k1:=KB.out.below ae (by omega)
  have r0:=k1.cell 0;have r1:=k1.cell 1;have r2:=k1.cell 2;have r3:=k1.cell 3;have aN:w.heap.size<w1.heap.size:=k1.lt;have bx:Below w.heap.size w w1:=fS.out.trans (ae.mono (by omega))
  have C69:Hid (Aet prog 69 #[.agg #[.int .i64 b.ag,.slice PA np pc,.slice A m c,.slice TA nt tc]] w1 λe w'=>e=.returned (.int .i64 (dF b))/\Below w1.heap.size w1 w'):=Afl (ajY (bT.out.still (Still.aK bx hB)) (by omega))
  have BX:=Afl bx;clear ae bx k1;go_wp2
  go_at_call 69
  refine C69.out.mono ?_
  rintro e w2 ⟨rfl,ak⟩;have BY:=Afl (BX.out.trans (ak.mono (by omega)))
  clear ak;go_wp2;go_ret;exact⟨b9 (by unfold sS;rw[hg];simp;rfl),BY.out⟩
end Go.Tw
namespace Go.Tw
variable [Go.Tw.aR]
open Go Go.Proofs Go.RowKit
end Go.Tw
namespace Go.Tw
variable [Go.Tw.aR]
open Go Go.Proofs Go.RowKit
def afY{w:Abc}{b1 b2 n1 n2 s1 s2:Nat}{e1 e2:Aa8}{v u:Value}{xs ys:List Value}(h:w.ownsRow b1 e1 s1 v n1 xs)(k:w.ownsRow b2 e2 s2 u n2 ys)(he:e1≠e2)(q:Nat)(hq:u.ownBlock=some q):v.ownBlock≠some q:=by
 rcases h.2 with⟨rfl,_⟩ | ⟨g,cap,cur,rfl,_,h3,_⟩
 ·simp[Value.ownBlock]
 ·rcases k.2 with⟨rfl,_⟩ | ⟨g',zd,anN,rfl,_,k3,_⟩
  ·simp[Value.ownBlock] at hq
  ·intro e
   have e1:g'=g:=Option.some.inj (hq.trans e.symm);subst e1;rw[h3] at k3;injection k3 with k3
   injection k3 with _ k4
   exact he k4
end Go.Tw
namespace Go.Tw
variable [Go.Tw.aR]
open Go Go.Proofs Go.RowKit
end Go.Tw
namespace Go.Tw
variable [Go.Tw.aR]
open Go Go.Proofs Go.RowKit
end Go.Tw
namespace Go.Tw
variable [Go.Tw.aR]
open Go Go.Proofs Go.RowKit
end Go.Tw
namespace Go.Tw
variable [Go.Tw.aR]
open Go Go.Proofs Go.RowKit
end Go.Tw
namespace Go.Tw
variable [Go.Tw.aR]
open Go Go.Proofs Go.RowKit
end Go.Tw
namespace Go.Tw
variable [Go.Tw.aR]
open Go Go.Proofs Go.RowKit
end Go.Tw
namespace Go.Tw
variable [Go.Tw.aR]
open Go Go.Proofs Go.RowKit
def V6{α:Type}{f:List α->α->Int}:∀(l dw:List α),scan f dw l=0->∀(j:Nat) (y:α),l[j]?=some y->f (dw++l.take j) y=0
 | [],_,_,j,y,h=>by simp at h
 |a::l,dw,h,j,y,hy=>by
  unfold scan at h;split at h
  ·rename_i h1;exact absurd h h1
  ·rename_i h1
   match j,hy with
   |0,hy=>
    simp at hy;subst hy;simpa using h1
   |j+1,hy=>
    have:=V6 l (dw++ [a]) h j y (by simpa using hy)
    simpa using this
def aeu{b:ao}{ts:List Tape}(h:dF b=0)(hs:∀t∈ts,t∈b.aJ)(hl:ts.length<=4):dF {b with aJ:=ts}=0:=by
 have h0:=Xa _ _ h;unfold dF;refine se λj y hy=>?_
 have hm:= Agd hy;unfold jP at hm h0;simp only[Af2,List.not_mem_nil,or_false] at hm;have g1:=h0 (if bX b.ag 0 3=true then 0 else 1) (by simp)
 have g2:=h0 (iw b.pieces) (by simp)
 have g3:=h0 (kC b.aF) (by simp)
 have g4:=h0 (kK b.pieces.length b.aJ) (by simp)
 rcases hm with rfl|rfl|rfl|rfl
 ·exact g1
 ·exact g2
 ·exact g3
 ·unfold kK at g4 |-
  split at g4
  ·cases g4
  ·rw[if_neg (by omega)]
   exact se λj t ht=>Xa _ _ g4 t (hs t (Agd ht))
end Go.Tw
namespace Go.Tw
variable [Go.Tw.aR]
open Go Go.Proofs Go.RowKit
end Go.Tw
namespace Go.Tw
variable [Go.Tw.aR]
open Go Go.Proofs Go.RowKit
end Go.Tw
namespace Go.Tw
variable [Go.Tw.aR]
open Go Go.Proofs Go.RowKit
end Go.Tw
namespace Go.Tw
variable [Go.Tw.aR]
open Go Go.Proofs Go.RowKit
def bI(b:ao):ao:={b with aF:=b.aF.reverse,aJ:=b.aJ.reverse}
def en(b:ao)(c:Cut):Cut:=⟨(b.aF.length:Int) - 1 - c.bp,c.from_⟩
def rev_rev(b:ao):bI (bI b)=b:=by unfold bI;simp
def anU(L:an)(l:List Tape):Pw L l.reverse=Pw L l:=by unfold Pw;rw[List.any_reverse]
def T5(b:ao):∀(f i:Nat) (n:an),eu (bI b) f i n=eu b f i n
 |0,i,n=>by unfold eu;show(if Pw n b.aJ.reverse then _ else _)=_;rw[anU]
 |f+1,i,n=>by
  unfold eu;show(match b.pieces[i]? with|some p=>_|none=>_)=_
  cases b.pieces[i]? with
  |none=>rfl
  |some p=>
   simp only;congr 1;funext k;exact T5 b f (i+1) _
def tn(b:ao):aD (bI b)=aD b:=T5 b _ _ _
def S4{b:ao}{k:Nat}(hk:k<b.aF.length):(bI b).aF[((b.aF.length:Int) - 1 - k).toNat]?=b.aF[k]?:=by
 show b.aF.reverse[_]?=_;rw[Ajb (by omega)]
 congr 1;omega
def TD{b:ao}{c:Cut}(hc:oO b c):oO (bI b) (en b c):=by
 obtain⟨k,e,hk⟩:=hc.bp;refine⟨⟨b.aF.length - 1 - k,by show(b.aF.length:Int) - 1 - c.bp=_;omega,by show _<b.aF.reverse.length;rw[Ajc];omega⟩,hc.from_⟩
def anE{b:ao}{s n m:Int}(c d:Cut):nv s (en b c) (en b d) n m=nv s c d n m:=by
 unfold nv en;have e:((b.aF.length:Int) - 1 - c.bp==(b.aF.length:Int) - 1 - d.bp)=(c.bp==d.bp):=by
  by_cases h:c.bp=d.bp
  ·simp[h]
  ·have h2:¬ (b.aF.length:Int) - 1 - c.bp=(b.aF.length:Int) - 1 - d.bp:=by omega
   rw[beq_eq_false_iff_ne.2 h,beq_eq_false_iff_ne.2 h2]
 rw[e]
def T1{b:ao}{L:an}{l:List Cut}(hl:∀c∈l,oO b c):fp (bI b) L (l.map (en b))=fp b L l:=by
 unfold fp;rw[Aib];congr 1;funext i;unfold td;rw[Ahy]
 cases hc:l[i]? with
 |none=>rfl
 |some c=>
  show(AW (bI b) i (L.at i) (en b c) && (Agj i).all (rm (bI b) L (l.map (en b)) i (en b c)))=(AW b i (L.at i) c && (Agj i).all (rm b L l i c));obtain⟨k,e,hk⟩:=(hl c (Agd hc)).bp;congr 1
  ·unfold AW
   have hx:(bI b).aF[(en b c).bp.toNat]?=b.aF[c.bp.toNat]?:=by
    show(bI b).aF[((b.aF.length:Int) - 1 - c.bp).toNat]?=_;rw[e,S4 hk];simp
   rw[hx];rfl
  ·congr 1
   funext j;unfold rm;rw[Ahy]
   cases l[j]? with
   |none=>rfl
   |some d=>exact anE c d
def anC{f:Int->Int}{l m:List Int}(h:l.Perm m):(l.map f).sum=(m.map f).sum:=by
 induction h with
 |nil=>rfl
 |cons x _ ih=>simp[ih]
 |swap x y l=>simp;omega
 |trans _ _ h1 h2=>exact h1.trans h2
def V4{l m:List Int}(h:O7 l m):l.Nodup:=h.1.imp λh=>by omega
def V2(b:ao)(l:List Cut):(jG (l.map (en b))).Perm ((jG l).map λk=>(b.aF.length:Int) - 1 - k):=by
 obtain h1:=vW (l.map (en b));obtain h2:=vW l;have hn:((jG l).map λk=>(b.aF.length:Int) - 1 - k).Nodup:=by
  refine List.Pairwise.map _ (λx y h=>?_) (V4 h2)
  intro e;exact h (by omega)
 rw[List.perm_ext_iff_of_nodup (V4 h1) hn];intro a;rw[h1.2 a];constructor
 ·intro ha
  obtain⟨c',tA,e⟩:=Ah2.1 ha;obtain⟨c,hc,rfl⟩:=Ah2.1 tA;exact Ah2.2 ⟨c.bp,(h2.2 _).2 (Ah2.2 ⟨c,hc,rfl⟩),e⟩
 ·intro ha
  obtain⟨k,hk,rfl⟩:=Ah2.1 ha;obtain⟨c,hc,rfl⟩:=Ah2.1 ((h2.2 _).1 hk);exact Ah2.2 ⟨en b c,Ah2.2 ⟨c,hc,rfl⟩,rfl⟩
def U5(b:ao)(l:List Cut):j6 (l.map (en b))=j6 l:=by
 unfold j6;rw[(V2 b l).length_eq,Aib]
def anR{b:ao}{k:Nat}(hk:k<b.aF.length):yC (bI b) ((b.aF.length:Int) - 1 - k)=yC b k:=by
 unfold yC;rw[S4 hk];simp
def VU{b:ao}{l:List Cut}(hl:∀c∈l,oO b c):qM (bI b) (l.map (en b))=qM b l:=by
 unfold qM lY;rw[anC (f:=yC (bI b)) (V2 b l),List.map_map];congr 1;refine List.map_congr_left λk hk=>?_
 obtain⟨c,hc,rfl⟩:=Ah2.1 (((vW l).2 k).1 hk);obtain⟨q,e,hq⟩:=(hl c hc).bp;show yC (bI b) ((b.aF.length:Int) - 1 - c.bp)=_;rw[e];exact anR hq
def anF{b:ao}(EM:Valid b)(wU:Valid (bI b))(aw:aD b≠ []){mI mO:List Cut->Int}(hI:sc mI)(hO:sc mO)(hm:∀l,(∀c∈l,oO b c)->mO (l.map (en b))=mI l)(qv:∀l,(∀c∈l,oO (bI b) c)->mI (l.map (en (bI b)))=mO l):
 (iG b (cz (aD b)) mI (2 ^ b.aF.length)).map Prod.snd=(iG (bI b) (cz (aD (bI b))) mO (2 ^ (bI b).aF.length)).map Prod.snd:=by
 have nO:=tn b;have step:∀(B:ao) (M N:List Cut->Int),Valid B->Valid (bI B)->aD B≠ []->sc N->(∀l,(∀c∈l,oO B c)->N (l.map (en B))=M l)->∀x m,iG B (cz (aD B)) M (2 ^ B.aF.length)=some (x,m)->
  ∃y k,iG (bI B) (cz (aD (bI B))) N (2 ^ (bI B).aF.length)=some (y,k)/\k<=m:=by
  intro B M N h1 h2 h3 h4 h5 x m h6;obtain⟨hd,he⟩:=adQ h6;have hg:=Cx h1 _ _ _ h6;obtain⟨y,k,e,hk,-⟩:=ad3 h2 h4 (by rw[tn];exact h3) (c:=x.map (en B)) ⟨by rw[Aib];exact hg.1,λc hc=>by
   obtain⟨d,hd,rfl⟩:=Ah2.1 hc;exact TD (hg.2 d hd)⟩ λL hL=>by
    rw[T1 hg.2];exact hd L (by rw[<-tn B];exact hL)
  exact⟨y,k,e,by rw[h5 x hg.2] at hk;omega⟩
 cases e1:iG b (cz (aD b)) mI (2 ^ b.aF.length) with
 |some cm=>
  obtain⟨x,m⟩:=cm;obtain⟨y,k,e2,hk⟩:=step b mI mO EM wU aw hO hm x m e1;obtain⟨y2,k2,e3,cP⟩:=step (bI b) mO mI wU (by rw[rev_rev];exact EM) (by rw[nO];exact aw) hI qv y k e2
  rw[rev_rev,e1] at e3;cases e3;rw[e2];show some m=some k;congr 1;omega
 |none=>
  cases e2:iG (bI b) (cz (aD (bI b))) mO (2 ^ (bI b).aF.length) with
  |none=>rfl
  |some cm=>
   obtain⟨y,k⟩:=cm;obtain⟨y2,k2,e3,-⟩:=step (bI b) mO mI wU (by rw[rev_rev];exact EM) (by rw[nO];exact aw) hI qv y k e2
   rw[rev_rev,e1] at e3;cases e3
def aob(a b:ByteArray):jF a b=jF b a:=by unfold jF;exact BEq.comm
def ad5{dw Zt:List bR}{x:bR}(h:gJ dw x=0)(h':∀q∈Zt,jF q.name x.name=false):gJ Zt x=0:=by
 unfold gJ at h |-
 split at h
 ·rename_i h1
  rw[if_pos h1];split at h
  ·cases h
  ·rw[if_neg (by simp only[Ai8,not_exists,not_and];intro q hq;rw[h' q hq];simp)]
   exact h
 ·cases h
def ad6{dw:List bR}{x:bR}(h:gJ dw x=0):∀q∈dw,jF q.name x.name=false:=by
 unfold gJ at h;split at h
 ·split at h
  ·cases h
  ·rename_i h2
   intro q hq;cases e:jF q.name x.name with
   |false=>rfl
   |true=>exact absurd (Ai8.2 ⟨q,hq,e⟩) h2
 ·cases h
def aej{l:List bR}(h:kC l=0):kC l.reverse=0:=by
 unfold kC at h |-
 rw[Ajc];split at h
 ·cases h
 ·rename_i h3
  rw[if_neg h3];have ou:=V6 l [] h;simp only[Ahs] at ou;refine se λj y hy=>?_
  have hj:j<l.length:=by have:=(Af7.1 hy).1;rwa[Ajc] at this
  rw[Ajb hj] at hy
  refine ad5 (ou _ y hy) λq hq=>?_
  obtain⟨i,hi⟩:=Aiu hq
  rw[Ai9] at hi
  split at hi
  ·rename_i vo
   rw[Ajb (by omega)] at hi
   have hb:=ad6 (ou _ q hi) y (Agd (i:=l.length - 1 - j) (by rw[Ai9,if_pos (by omega)];exact hy))
   rw[aob];exact hb
  ·cases hi
def Bm{b:ao}(h:dF b=0):dF (bI b)=0:=by
 have h0:=Xa _ _ h;unfold jP at h0;have g3:=h0 (kC b.aF) (by simp)
 have hv:=iy h;have h1:dF {b with aJ:=b.aJ.reverse}=0:=aeu h (λt ht=>List.mem_reverse.1 ht) (by rw[Ajc];exact hv.nt)
 have h2:=Xa _ _ h1;unfold jP at h2;unfold dF;refine se λj y hy=>?_
 have hm:= Agd hy;unfold jP at hm;simp only[Af2,List.not_mem_nil,or_false] at hm;rcases hm with rfl|rfl|rfl|rfl
 ·exact h2 _ (Ajd ..)
 ·exact h2 _ (Aje _ (Ajd ..))
 ·exact aej g3
 ·exact h2 _ (Aje _ (Aje _ (Aje _ (Ajd ..))))
end Go.Tw
namespace Go.Tw
variable [Go.Tw.aR]
open Go Go.Proofs Go.RowKit
end Go.Tw
namespace Go.Tw
variable [Go.Tw.aR]
open Go Go.Proofs Go.RowKit
end Go.Tw
namespace Go.Tw
variable [Go.Tw.aR]
open Go Go.Proofs Go.RowKit
end Go.Tw
