import Derived.Test.YtfifdjajcogccaaGreatDoorZ02
import Derived.Laws.AppendOwnNone
import Derived.Deep.DeepAppendRoom
set_option linter.all false
set_option maxHeartbeats 0
set_option maxRecDepth 100000
open And renaming intro -> Ϗ
open Array renaming getElem?_eq_some_iff -> Ϝ, getD_eq_getD_getElem? -> æ
open Bool renaming and_eq_true -> Ä, or_eq_false_iff -> Ain, and_eq_false_iff -> Aio, eq_iff_iff -> Aip, true_and -> Aiq
open Classical renaming byContradiction -> ä
open Go renaming maxLen -> ϕ, TypeId -> ώ, Calls -> ύ, Addr -> ϖ, info_parts -> Ö, heap_alloc_new -> Ľ, wpList_append_own -> ĝ, TypeInfo -> ă, yielded -> À, wpStill_nil -> Ait
open Go.Act renaming put -> Ò
open Go.Calls renaming quiet_of_same -> Aiv
open Go.Instr renaming buildSlice -> ĺ
open Go.IntKind renaming i64 -> Ϛ
open Go.IntWalk renaming i64_left -> Aiw, wrap64_in -> Aix
open Go.Lib renaming run_eql_slice_nil -> ľ, compareInt -> Aiz
open Go.Oper renaming wp -> ĵ
open Go.Region renaming wanted -> ϸ, ready -> ϯ
open Go.RowKit renaming intOf -> ϑ
open Go.RowKit.Below renaming refl -> ό, heap_setCell -> å
open Go.Value renaming int -> Ϟ
open Go.World renaming cell?_alloc_lt -> ð, cell?_of_block -> Ai1, cell?_setCell_far -> Ai2, drewN -> Ai3
open Int renaming ofNat -> ė
open List renaming mem_of_getElem? -> ϡ, getElem?_map -> ú, flatMap_cons -> č, getElem?_append_left -> Ai5, length_append -> Þ, length_cons -> Ė, nil_append -> ù, getElem?_of_mem -> Ai6, set_cons_succ -> Ë, map_cons -> Ę, getElem?_eq_some_iff -> Ϫ, length_map -> ã, mem_map -> ô, getElem?_eq_getElem -> Ñ, pairwise_cons -> Ai9, mem_cons -> Ϡ, take_succ_cons -> ñ, drop_succ_cons -> õ, mem_append -> ĉ, mem_singleton -> Ô, map_append -> È, take_of_length_le -> Õ, drop_eq_nil_of_le -> Aja, any_eq_true -> Ajb, getElem?_take -> Ł, any_eq_false -> Ajd, take_zero -> þ, drop_zero -> ö, range -> ϣ, length_take_le -> ō, range_succ -> œ, mem_range -> Ď, flatMap_append -> Ĥ, length -> ŭ, drop_eq_getElem_cons -> Ajf, eraseIdx_eq_take_drop_succ -> Ajg, elem_eq_mem -> Ajh, map_toArray -> ī, map_nil -> ĥ, setIfInBounds_toArray -> Í, set_cons_zero -> Î, findSome?_cons -> Ajm
open Nat renaming le_trans -> Ϥ, le_refl -> ϊ, zero_le -> ϛ, zero_add -> ŝ, le_of_lt -> ÿ, le_of_eq -> ò, mul_one -> Ì, lt_succ_iff_lt_or_eq -> Ϯ, mul_le_mul_right -> ž, pow_le_pow_right -> Ail
open Prod renaming fst -> É
open Bool renaming true -> D, false -> U
open Go renaming Value -> z, undef -> L, World -> N
open Go.Ending renaming returned -> Ω
open Go.IntKind renaming i64 -> I
open Go.Lib renaming hid -> K
open Go.Obj renaming cells -> Ξ
open Go.RowKit renaming Below -> Γ, Below -> Γ
open Go.Value renaming slice -> E, tuple -> μ, agg -> η, int -> Y
open Option renaming some -> J, none -> H
variable{α β:Type}{ops:Array Go.Oper}{ad:Go.Addr}{o:Go.Oper}{ω:Go.Tw.al}{b:Go.Tw.eR}{e:Go.TypeId}{a x p aL s:Int}{rest:List Go.Oper}{l os:List Int}{ks:List Nat}{xs news ys:List z}{B n c m i j k rb g d n1 n2 t cap b1 b2 s1 s2:Nat}{w W w' w6:N}{v pv bv tv u lv sv kD:z}
namespace Go.Tw
variable [Go.Tw.aK]
open Go Go.Proofs Go.RowKit
def pX(w:N)(g n:Nat)(xs:List Int):Prop:=
 ∃θ:DataW Nat,w.ownsMap prog 3 (plainElem prog 3) g n θ/\Maps.IsMap θ/\∀x:Int,mC x->θ.atKey (.int .i64 x) (.lit (.int .i64 0))=.lit (.int .i64 (xs.count x:Nat))
def Kj:prog.underlying 3=J (.int .i64):=(χ Tryz.underlying3).trans rfl
def Zk:prog.underlying 174=J (.map 3 3):=(χ Tryz.underlying174).trans rfl
def Pt(h:mC a):keyOf prog 3 (.int .i64 a)=J (.int .i64 a):=Maps.keyOf_int_mk Kj (Dd h)
def aq9(W:N):(zeroValue 3).run prog W=.ok (.int .i64 0) W:=by rw[QS];kernel_rfl
def Pu:Maps.Keyed prog 3:=Maps.int_keyed Kj
def pX.kept{w w':N}{g n:Nat}{xs:List Int}{row:Option Nat}(h:pX w g n xs)(hg:w.grownBy w' row)(aw:J g≠row):pX w' g n xs:=by obtain⟨θ,h1,h2,h3⟩:=h;exact⟨θ,h1.kept hg aw,h2,h3⟩
def pX.lt{w:N}{g n:Nat}{xs:List Int}(h:pX w g n xs):g<w.heap.size:=by obtain⟨θ,h1,_⟩:=h;exact h1.lt
def pX.made(w:N):pX (w.alloc (.map #[] 0)) w.heap.size 0 []:=
 ⟨.map [],World.ownsMap_made w prog 3 _,⟨_,rfl⟩,λx _=>rfl⟩
def ZE{a:Act}{Q:Exit->Act->N->Prop}(hg:o.guard=H)(m x:Operand)(ag:o.op=Op.lookup 174 m x U)
 (g n:Nat)(xs:List Int)(k:Int)(hk:mC k)(hm:a.eval m=.map (J g))(hx:a.eval x=.int .i64 k)(h:pX w g n xs)
 (hK:wpList prog ops Q rest (a.put o.dst (.int .i64 (xs.count k:Nat))) w):wpList prog ops Q (o::rest) a w:=by
 obtain⟨θ,h1,h2,h3⟩:=h;refine wpList_lookup_own_int w hg m x 174 ag 3 3 .i64 Pu Zk Kj (aq9 w) g n θ hm h1 _ _ hx (Pt hk) ?_;intro c mN _;rw[h3 k hk] at mN;injection mN with mN;injection mN with _ mN;rw[<-mN];exact hK
def aqW{a:Act}{Q:Exit->Act->N->Prop}(hg:o.guard=H)(m x v:Operand)(ag:o.op=Op.mapUpdate 174 m x v)
 (g n:Nat)(xs:List Int)(k:Int)(hk:mC k)(hn:n<ϕ)(hc:xs.count k+1<=ϕ)(hm:a.eval m=.map (J g))(hx:a.eval x=.int .i64 k)(hv:a.eval v=.int .i64 ((xs.count k:Nat)+1))(h:pX w g n xs)
 (hK:∀w',pX w' g (n+1) (xs++ [k])->w.grownBy w' (J g)->wpList prog ops Q rest (a.put o.dst L) w'):wpList prog ops Q (o::rest) a w:=by
 obtain⟨θ,h1,h2,h3⟩:=h;unfold ϕ at hc;refine wpList_mapUpdate_own w hg m x v 174 ag 3 3 Pu Zk _ g n θ hm h1 hn _ _ _ hx hv (Pt hk) (.lit (.int .i64 ((xs.count k:Nat)+1))) [] (plainElem_int Kj (Dd ⟨by omega,by omega⟩)) ?_;intro w' Ct ew;refine hK w' ⟨_,Ct,Ct.isMap,λy hy=>?_⟩ ew;by_cases e:y=k
 ·subst e;rw[Maps.atKey_put_same h2 (Pu.key (Pt hk)),List.count_append];simp
 ·rw[Maps.atKey_put_other (by intro h;injection h with _ h;exact e h),h3 y hy,List.count_append];simp[List.count_cons,Ne.symm e,e]
def aqV{a:Act}{Q:Exit->Act->N->Prop}(hg:o.guard=H)(t:ώ)(ag:o.op=Op.makeMap t H)
 (hK:wpList prog ops Q rest (a.put o.dst (.map (J w.heap.size))) (w.alloc (.map #[] 0))):wpList prog ops Q (o::rest) a w:=by
 refine wpList_plain hg λK' Eg=>?_;unfold ĵ;have bh:=RowKit.run_makeMap (P:=prog) t w;simp[execOp,ag,bh,Result.andThen];exact Eg _ _ hK
def adg{wp w2:N}{x:al}{v:Int}(hg:(wp.alloc (Ξ #[.int .i64 x.a,.int .i64 x.b,.int .i64 x.c] 128)).grownBy w2 (J g))(ao:g<wp.heap.size)(hk:k<3)(hv:v=x.at k):
 w2.cell? ⟨wp.heap.size,k,H⟩=J (.int .i64 v):=by
 have h:Bk w2 wp.heap.size 128 #[.int .i64 x.a,.int .i64 x.b,.int .i64 x.c]:=(Bk.new wp _ _).grown hg (by simp;omega);rw[hv];exact(h.cell k).trans (al.wU (n:=x) hk)
def mW(xs:List Int):Nat->Int
 |0=>0
 |j+1=>max (mW xs j) ((xs.take (j+1)).count (xs.getD j 0):Nat)
def iQ(b:eR):Nat->Int×Int
 |0=>(-1,(aB b).length)
 |k+1=>let m:=mW ((aB b).map (·.at k)) (aB b).length;if m<(iQ b k).2 then(k,m) else iQ b k
def DG(b:eR):Int×Int:=iQ b b.pieces.length
def PN(xs:List Int):∀j,0<=mW xs j/\mW xs j<=j
 |0=>by simp[mW]
 |j+1=>by
  have:=PN xs j;have h1:((xs.take (j+1)).count (xs.getD j 0))<=j+1:=Ϥ List.count_le_length (by simp;omega)
  unfold mW;omega
def SG(b:eR):∀k,-1<=(iQ b k).1/\(iQ b k).1<=k/\0<=(iQ b k).2/\(iQ b k).2<=(aB b).length
 |0=>by simp[iQ]
 |k+1=>by
  have h:=SG b k;have h2:=PN ((aB b).map (·.at k)) (aB b).length
  unfold iQ;simp only;split
  ·refine⟨?_,?_,?_,?_⟩<;>simp only<;>omega
  ·refine⟨?_,?_,?_,?_⟩<;>omega
def SH{m l:Int}(h:p=(iQ b k).1/\l=(iQ b k).2)(hm:m=mW ((aB b).map (·.at k)) (aB b).length)(ao:m<l):iQ b (k+1)=((k:Int),m):=by show(if mW ((aB b).map (·.at k)) (aB b).length<(iQ b k).2 then((k:Int),mW ((aB b).map (·.at k)) (aB b).length) else iQ b k)=_;rw[<-hm,<-h.2,if_pos ao]
def SF{m l:Int}(h:p=(iQ b k).1/\l=(iQ b k).2)(hm:m=mW ((aB b).map (·.at k)) (aB b).length)(ao:¬m<l):iQ b (k+1)=(p,l):=by show(if mW ((aB b).map (·.at k)) (aB b).length<(iQ b k).2 then((k:Int),mW ((aB b).map (·.at k)) (aB b).length) else iQ b k)=_;rw[<-hm,<-h.2,if_neg ao,h.1,h.2]
def anN{c a' c':Int}{s:z}(h:a=a')(h':c=c'):Ending.returned (μ #[Y I a,Y I c,s])=Ω (μ #[Y I a',Y I c',s]):=by rw[h,h']
def akl(h:ω.Ok)(hk:k<3):mC (ω.at k):=by have:=h k;unfold mC;omega
def acn(hB:B<=w.heap.size)(ah:aQ w B b pv bv tv)(h:bT b 0=0):
 ύ prog 61 #[η #[Y I b.ab,pv,bv,tv]] w λe w'=>e=Ω (μ #[Y I (DG b).1,Y I (DG b).2,Y I 0])/\φ w w':=by
 have st:Δ B w (w.alloc (Ξ #[Y I b.ab,pv,bv,tv] 26)):=(Δ.refl w).alloc hB _;have aG:=K (ym (w:=(w.alloc (Ξ #[Y I b.ab,pv,bv,tv] 26))) (B:=B) (by simp;omega) (ah.still st) (Bw (ah.still st)) h)
 have hz:=mX h;have hv:=fG hz.1;have ah8:=DF hv;have ZW:=K (wI hv);obtain⟨A1,n1,c1,rfl,e1,h1,du,-⟩:=ah.pieces.Φ;obtain⟨A2,n2,c2,rfl,-⟩:=ah.aC.Φ;obtain⟨A3,n3,c3,rfl,-⟩:=ah.aI.Φ;have iW:n1<=3:=by have:=hv.np;omega
 have E1:=K e1;unfold ϕ at du;clear ah st hz hv h e1;go_enter func61,Tryz.ntmps61;go_wp2_with (first
  | (go_at_call 98;refine aG.e.mono ?_;rintro e w1 ⟨sv,rfl,aH,ai⟩
     obtain⟨A9,n9,c9,rfl,dh,kW,fg,jz⟩:=aH.row.Φ;have mz:=K jz;have ri:=K dh;have kk:Hid (Bk w1 w.heap.size 26 #[Y I b.ab,E A1 n1 c1,E A2 n2 c2,E A3 n3 c3]):=K ((Bk.new w _ _).below ai (by simp))
     have aO:w.heap.size+1<=w1.heap.size:=(by have:=ai.size;simpa using this);have aif:n9<=27:=(by omega);have aW:Hid (φ w w1):=K ((((ό _ _).alloc (ϊ _) _)).trans (ai.mono (by simp)));clear ai aH dh jz))
 have wR:w.heap.size<w1.heap.size:=by omega
 have Lq:Hid (n9=(aB b).length):=K ri.e.symm;have q4:(w1.alloc (Ξ #[Y I b.ab,E A1 n1 c1,E A2 n2 c2,E A3 n3 c3,E A9 n9 c9] 122)).cell? ⟨w1.heap.size,4,H⟩=J (E A9 n9 c9):=(Bk.new _ _ _).cell 4;have q1:(w1.alloc (Ξ #[Y I b.ab,E A1 n1 c1,E A2 n2 c2,E A3 n3 c3,E A9 n9 c9] 122)).cell? ⟨w.heap.size,1,H⟩=J (E A1 n1 c1):=(kk.e.alloc _).cell 1;go_region
 go_wp2;clear q4 q1;go_loopw [2,3,25] (λu2 u3 u wr=>∃k:Nat,k<=n1/\u=Y I k/\u2=Y I (iQ b k).1/\u3=Y I (iQ b k).2/\Hid (Γ (w1.heap.size+1) (w1.alloc (Ξ #[Y I b.ab,E A1 n1 c1,E A2 n2 c2,E A3 n3 c3,E A9 n9 c9] 122)).drew wr)) (λ_ _ u _=>n1 - (ϑ u).toNat);case atStart=>exact⟨0,ϛ _,rfl,rfl,by rw[Lq.e];rfl,K (ό _ _)⟩
 case round=>
  obtain⟨wo,rfl⟩:∃wo:N,wo=wr:=⟨_,rfl⟩
  obtain⟨k,hk,rfl,rfl,rfl,hb⟩:=hrel;have bS:=SG b k;obtain⟨pk,vu⟩:∃pk,pk=(iQ b k).1:=⟨_,rfl⟩
  obtain⟨lk,IJ⟩:∃lk,lk=(iQ b k).2:=⟨_,rfl⟩
  rw[<-vu,<-IJ] at bS |-;have Bi:=K (Ϗ vu IJ);clear vu IJ;have sd:w1.heap.size+1<=wo.heap.size:=by have:=hb.e.size;simpa using this
  have kb:Bk wo w1.heap.size 122 #[Y I b.ab,E A1 n1 c1,E A2 n2 c2,E A3 n3 c3,E A9 n9 c9]:=Bk.below (w:=(w1.alloc (Ξ #[Y I b.ab,E A1 n1 c1,E A2 n2 c2,E A3 n3 c3,E A9 n9 c9] 122)).drew) (Bk.new w1 _ _) hb.e (by simp);have O4:(wo.alloc (.map #[] 0)).cell? ⟨w1.heap.size,4,H⟩=J (E A9 n9 c9):=(kb.alloc _).cell 4;have sc:w1.heap.size<wo.heap.size:=by omega
  have Pa:w1.heap.size<=wo.heap.size:=by omega
  clear kb;by_cases ao:k<n1
  ·have jx:k<3:=by omega
   have ahV:(k:Int)<3:=(by omega);go_wp2_with (first| (refine aqV rfl 174 rfl ?_));go_loopw [8,32] (λu8 u wr=>∃j:Nat,j<=n9/\u=Y I j/\u8=Y I (mW ((aB b).map (·.at k)) j)/\Hid (pX wr wo.heap.size j (((aB b).map (·.at k)).take j))/\Hid (φ wo wr)) (λ_ u _=>n9 - (ϑ u).toNat);case atStart=>exact⟨0,ϛ _,rfl,rfl,K (pX.made wo),K ((ό _ _).alloc (ϊ _) _)⟩
   case round=>
    obtain⟨wp,rfl⟩:∃wp:N,wp=wr:=⟨_,rfl⟩
    obtain⟨j,hj,rfl,rfl,HC,an⟩:=hrel;have hm:=PN ((aB b).map (·.at k)) j
    obtain⟨mj,Oz⟩:∃mj,mj=mW ((aB b).map (·.at k)) j:=⟨_,rfl⟩
    rw[<-Oz] at hm |-;have RX:=K Oz;clear Oz;have WD:wo.heap.size<wp.heap.size:=HC.e.lt;by_cases hjt:j<n9
    ·obtain⟨ad,x,cs,lZ,aE,hx,rfl,-,aq⟩:=mz.e j hjt;subst lZ;have pG:φ w1 (w1.alloc (Ξ #[Y I b.ab,E A1 n1 c1,E A2 n2 c2,E A3 n3 c3,E (J ad) n9 c9] 122)).drew:=dT ((ό w1.heap.size w1).alloc (ϊ _) _);have UT:φ w1 wp:=(pG.trans (hb.e.mono (Nat.le_succ _))).trans (an.e.mono (by omega))
     have pf:Hid (φ w1 wp):=K UT;clear pG UT;have st:Δ w1.heap.size w1 wp:=Δ.aJ pf.e (ϊ _);have g0:=cA aq st aE rfl;have g1:=bj aq st aE 0 rfl;have g2:=bj aq st aE 1 rfl;have rK:(ad.add (j * 3)).block<wp.heap.size:=by rw[b9];omega
     have HX:=K hx;obtain⟨v,hv⟩:∃v,v=x.at k:=⟨_,rfl⟩
     have I1:mC v:=(by rw[hv];exact akl (ZW.e x (ϡ hx)) jx);have SM:=K I1;have gk:(wp.alloc (Ξ #[Y I x.a,Y I x.b,Y I x.c] 128)).cell? ⟨wp.heap.size,k,H⟩=J (Y I v):=by rw[hv];exact(Bk.new wp _ _).cell k|>.trans (al.wU (n:=x) jx)
     have HV:=K hv;have aba:((aB b).map (·.at k)).take (j+1)=((aB b).map (·.at k)).take j++ [v]:=by rw[List.take_add_one,ú,hx];simp[hv]
     have IC:((aB b).map (·.at k)).getD j 0=v:=(by rw[List.getD_eq_getElem?_getD,ú,hx];simp[hv]);have Lg:=K (Ϗ aba IC);obtain⟨cn,NW⟩:∃cn,cn=(((aB b).map (·.at k)).take j).count v:=⟨_,rfl⟩
     have ar2:cn<=j:=(by rw[NW];exact Ϥ List.count_le_length (by simp;omega));have OT:Ϛ.wrap ((cn:Int)+1)=(cn:Int)+1:=(by rw[Aiw];exact Aix _ (by omega));have Lf:=K NW;have asw:n9<ϕ:=by unfold ϕ;omega
     clear hx aq st I1 hv aba IC NW;go_wp2_with (first
      | (at_lookup;refine ZE rfl (.tmp 36) (.tmp 39) rfl wo.heap.size j _ v SM.e rfl rfl (HC.e.kept (World.grownBy_alloc wp _ H) nofun) ?_;rw[<-Lf.e])
      | (at_mapUpdate;refine aqW rfl (.tmp 36) (.tmp 39) (.tmp 41) rfl wo.heap.size j _ v SM.e (by omega) ?hc rfl rfl (by rw[<-Lf.e];try rfl) (HC.e.kept (World.grownBy_alloc wp _ H) nofun) ?_
         case hc=>(rw[<-Lf.e];unfold ϕ;omega)
         rw[<-Lg.e.1];intro w2 eu oK;have uJ:=K eu;have gk2: w2.cell? ⟨wp.heap.size,k,H⟩=J (Y I v):=adg oK WD jx HV.e;have XG:=K oK;clear eu oK)
      | (at_lookup;refine ZE rfl (.tmp 43) (.tmp 46) rfl wo.heap.size (j+1) _ v SM.e rfl rfl uJ.e ?_))
     go_roundw;case rel=>exact⟨j+1,by omega,by go_num,by
      rw[RX.e];conv=>rhs;unfold mW
      rw[Lg.e.1,Lg.e.2],uJ,
      K ((an.e.trans ((ό wo.heap.size wp).alloc (by omega) _)).grown XG.e (by simp;omega) (λq hq=>by injection hq with hq;omega))⟩
     case measure=>simp[ϑ];omega
    ·obtain rfl:j=n9:=by omega
     have VT:mj=mW ((aB b).map (·.at k)) (aB b).length:=(by rw[RX.e,<-ri.e]);have xh:Hid (Γ (w1.heap.size+1) (w1.alloc (Ξ #[Y I b.ab,E A1 n1 c1,E A2 n2 c2,E A3 n3 c3,E A9 j c9] 122)).drew wp):=K (hb.e.trans (an.e.mono sd));have GN:=K VT;clear VT;by_cases II:mj<lk
     ·go_wp2;go_roundw;case rel=>exact⟨k+1,by omega,by go_num,by
       rw[SH Bi.e GN.e II],by
       rw[SH Bi.e GN.e II],xh⟩
      case measure=>simp[ϑ];omega
     ·go_wp2;go_roundw;case rel=>exact⟨k+1,by omega,by go_num,by
       rw[SF Bi.e GN.e II],by
       rw[SF Bi.e GN.e II],xh⟩
      case measure=>simp[ϑ];omega
  ·obtain rfl:k=n1:=by omega
   go_wp2
   go_ret3
   refine⟨anN ?_ ?_,?_⟩
   ·rw[Bi.e.1];unfold DG;rw[E1.e]
   ·rw[Bi.e.2];unfold DG;rw[E1.e]
   ·exact aW.e.trans ((dT ((ό w1.heap.size w1).alloc (ϊ _) _)).trans (hb.e.mono (Nat.le_succ _)) |>.mono (by omega))
def Uh{α:Type}{f:α->List z}{sz:Nat}(hf:∀x,(f x).length=sz):∀(l:List α) (j:Nat) (u:z),(l.flatMap f)[j]?=J u->∃i x r,l[i]?=J x/\(f x)[r]?=J u/\j=i * sz+r
 | [],j,u,h=>by simp at h
 |a::l,j,u,h=>by
  rw[č] at h;by_cases hj:j<(f a).length
  ·rw[Ai5 hj] at h;exact⟨0,a,j,rfl,h,by omega⟩
  ·rw[List.getElem?_append_right (by omega),hf] at h;obtain⟨i,x,r,h1,h2,h3⟩:=Uh hf l _ u h;rw[hf] at hj;exact⟨i+1,x,r,by simpa using h1,h2,by rw[Nat.add_mul];omega⟩
def uT{α:Type}{f:α->List z}{sz:Nat}(hf:∀x,(f x).length=sz):∀(l:List α),(l.flatMap f).length=l.length * sz
 | []=>by simp
 |a::l=>by rw[č,Þ,hf,uT hf l,Ė,Nat.add_mul];omega
def Eb{f:α->List z}(l:List α)(hf:∀x∈l,∀u∈f x,u.oneCell'=D):∀u∈l.flatMap f,u.oneCell'=D:=by intro u hu;obtain⟨x,h,hx⟩:=List.mem_flatMap.1 hu;exact hf x h u hx
def Row.cells{α:Type}{w:N}{B sz:Nat}{f:α->List z}{ad:ϖ}{c:Nat}{l:List α}(h:Row w B sz (λx cs=>cs=f x) (E (J ad) l.length c) l)(hf:∀x,(f x).length=sz):
 (∀j u,(l.flatMap f)[j]?=J u-> w.cell? (ad.add j)=J u)/\(l≠ []->ad.block<B):=by
 obtain⟨A,c',hv,h1,h2,h3⟩:=h;injection hv with hA;refine⟨λj u hu=>?_,λaw=>?_⟩
 ·obtain⟨i,x,r,e1,e2,e3⟩:=Uh hf l j u hu;obtain⟨DE,xf,_,hc⟩:=h3 (by intro e;rw[e] at e1;simp at e1);obtain⟨cs,rfl,_,aq⟩:=hc i x e1;rw[xf] at hA;injection hA with hA;subst hA;rw[e3];exact aq r u e2
 ·obtain⟨DE,xf,hb,_⟩:=h3 aw;rw[xf] at hA;injection hA with hA;subst hA;exact hb
def WU:(prog.info? 72).map (λi=>(i.zero,i.size,i.bytes))=J (J (η #[.string {data:=#[]},Y I 0,Y I 0,Y I 0]),4,40):=by rw[qS];kernel_rfl
def adP(hl:news.length=n * 4)(hc:∀j u,news[j]?=J u-> w.cell? (ad.add j)=J u)(h1:∀u∈news,u.oneCell'=D)(hn:n<=1000000)(aE:news≠ []->ad.block<w.heap.size):
 ύ prog 155 #[E (J ad) n c] w λe w'=>∃v,e=Ω v/\w'.ownsRow w.heap.size 72 4 v n news/\φ w w':=by
 obtain⟨i0,cJ,cK,aO,aZ⟩:=Ö WU;have cy:=K (Ϗ cJ (Ϗ cK (Ϗ aO aZ)));have HC:Hid (∀j u,news[j]?=J u->(w.alloc (Ξ #[] 72)).cell? (ad.add j)=J u):=K (λj u hu=>(ð w _ _ (by rw[b9];exact aE (by intro e;rw[e] at hu;simp at hu))).trans (hc j u hu))
 have HL:=K (Ϗ hl h1);have HO:Hid ((w.alloc (Ξ #[] 72)).ownsRow w.heap.size 72 4 (E (J ⟨w.heap.size,0,H⟩) 0 0) 0 []):=K ⟨rfl,.inr ⟨w.heap.size,0,#[],rfl,ϊ _,Ľ w _,ϊ _,by unfold ϕ;omega,rfl,rfl⟩⟩
 clear hl hc h1 cJ cK aO aZ aE;have q:∀(w:N) (a:Option ϖ) (n c n' c':Nat),(binOp .eql 22 (E a n c) (E H n' c')).run prog w=.ok (.bool a.isNone) w:=λw a n c n' c'=>ľ w _ _ a n c n' c' (χ Tryz.underlying22)
 go_enter func155,Tryz.ntmps155;go_wp2_with (first
  | (at_builtin
     refine ĝ _ rfl (.tmp 5) (.tmp 6) 22 rfl w.heap.size 72 i0 (η #[.string {data:=#[]},Y I 0,Y I 0,Y I 0]) 4 40 (χ Tryz.underlying22) cy.e.1 cy.e.2.1 cy.e.2.2.1 cy.e.2.2.2 rfl (by decide) _ 0 _ rfl HO.e ad n c news rfl HL.e.1 HC.e HL.e.2 ?c3 ?c4 ?c5 ?_;case c3=>(simp only[ϕ];omega)
     case c4=>omega
     case c5=>simp
     intro v' w1 b7 cW _;have gC:=K b7;have gX:=K cW;clear b7 cW))
 go_ret;refine⟨_,rfl,by have:=gC.e;rwa[ŝ,ù] at this,((ό _ _).alloc (ϊ _) _).grown gX.e (by simp) (λk hk=>dX HO.e k hk)⟩
def adO(n c:Nat)(w:N):ύ prog 155 #[E H n c] w λe w'=>e=Ω (E H 0 0)/\w=w':=by have q:∀(w:N) (a:Option ϖ) (n c n' c':Nat),(binOp .eql 22 (E a n c) (E H n' c')).run prog w=.ok (.bool a.isNone) w:=λw a n c n' c'=>ľ w _ _ a n c n' c' (χ Tryz.underlying22);go_enter func155,Tryz.ntmps155;go_wp2;go_ret;exact⟨rfl,rfl⟩
def Ty{f:α->List z}{l:List α}(h:Row w B 4 (λx cs=>cs=f x) v l)(hB:B<=w.heap.size)(hf:∀x,(f x).length=4)(h1:∀x∈l,∀u∈f x,u.oneCell'=D)(hn:l.length<=1000000):
 ύ prog 155 #[v] w λe w'=>∃v',e=Ω v'/\w'.ownsRow w.heap.size 72 4 v' l.length (l.flatMap f)/\φ w w':=by
 obtain⟨A,c,rfl,-⟩:=id h;cases A with
 |none=>
  have hl:l=[]:=by obtain⟨A,c',hv,h1,h2,h3⟩:=h;injection hv with hA;refine ä λaw=>?_;obtain⟨ad,ha,_⟩:=h3 aw;rw[ha] at hA;cases hA
  subst hl;refine(adO _ _ w).mono ?_;rintro e w' ⟨rfl,rfl⟩;exact⟨_,rfl,⟨rfl,.inl ⟨rfl,rfl⟩⟩,ό _ _⟩
 |some ad=>
  have hc:=h.cells hf;exact adP (uT hf l) hc.1 (Eb l h1) hn (λaw=>by
   have:=hc.2 (by intro e;rw[e] at aw;simp at aw);omega)
def WR:(prog.info? 59).map (λi=>(i.zero,i.size,i.bytes))=J (J (η #[.string {data:=#[]},Y I 0,E H 0 0]),3,48):=by rw[qS];kernel_rfl
def adJ(hl:news.length=n * 3)(hc:∀j u,news[j]?=J u-> w.cell? (ad.add j)=J u)(h1:∀u∈news,u.oneCell'=D)(hn:n<=1000000)(aE:news≠ []->ad.block<w.heap.size):
 ύ prog 135 #[E (J ad) n c] w λe w'=>∃v,e=Ω v/\w'.ownsRow w.heap.size 59 3 v n news/\φ w w':=by
 obtain⟨i0,cJ,cK,aO,aZ⟩:=Ö WR;have cy:=K (Ϗ cJ (Ϗ cK (Ϗ aO aZ)));have HC:Hid (∀j u,news[j]?=J u->(w.alloc (Ξ #[] 59)).cell? (ad.add j)=J u):=K (λj u hu=>(ð w _ _ (by rw[b9];exact aE (by intro e;rw[e] at hu;simp at hu))).trans (hc j u hu))
 have HL:=K (Ϗ hl h1);have HO:Hid ((w.alloc (Ξ #[] 59)).ownsRow w.heap.size 59 3 (E (J ⟨w.heap.size,0,H⟩) 0 0) 0 []):=K ⟨rfl,.inr ⟨w.heap.size,0,#[],rfl,ϊ _,Ľ w _,ϊ _,by unfold ϕ;omega,rfl,rfl⟩⟩
 clear hl hc h1 cJ cK aO aZ aE;have q:∀(w:N) (a:Option ϖ) (n c n' c':Nat),(binOp .eql 23 (E a n c) (E H n' c')).run prog w=.ok (.bool a.isNone) w:=λw a n c n' c'=>ľ w _ _ a n c n' c' (χ Tryz.underlying23)
 go_enter func135,Tryz.ntmps135;go_wp2_with (first
  | (at_builtin
     refine ĝ _ rfl (.tmp 5) (.tmp 6) 23 rfl w.heap.size 59 i0 (η #[.string {data:=#[]},Y I 0,E H 0 0]) 3 48 (χ Tryz.underlying23) cy.e.1 cy.e.2.1 cy.e.2.2.1 cy.e.2.2.2 rfl (by decide) _ 0 _ rfl HO.e ad n c news rfl HL.e.1 HC.e HL.e.2 ?c3 ?c4 ?c5 ?_;case c3=>(simp only[ϕ];omega)
     case c4=>omega
     case c5=>simp
     intro v' w1 b7 cW _;have gC:=K b7;have gX:=K cW;clear b7 cW))
 go_ret;refine⟨_,rfl,by have:=gC.e;rwa[ŝ,ù] at this,((ό _ _).alloc (ϊ _) _).grown gX.e (by simp) (λk hk=>dX HO.e k hk)⟩
def adI(n c:Nat)(w:N):ύ prog 135 #[E H n c] w λe w'=>e=Ω (E H 0 0)/\w=w':=by have q:∀(w:N) (a:Option ϖ) (n c n' c':Nat),(binOp .eql 23 (E a n c) (E H n' c')).run prog w=.ok (.bool a.isNone) w:=λw a n c n' c'=>ľ w _ _ a n c n' c' (χ Tryz.underlying23);go_enter func135,Tryz.ntmps135;go_wp2;go_ret;exact⟨rfl,rfl⟩
def Tx{f:α->List z}{l:List α}(h:Row w B 3 (λx cs=>cs=f x) v l)(hB:B<=w.heap.size)(hf:∀x,(f x).length=3)(h1:∀x∈l,∀u∈f x,u.oneCell'=D)(hn:l.length<=1000000):
 ύ prog 135 #[v] w λe w'=>∃v',e=Ω v'/\w'.ownsRow w.heap.size 59 3 v' l.length (l.flatMap f)/\φ w w':=by
 obtain⟨A,c,rfl,-⟩:=id h;cases A with
 |none=>
  have hl:l=[]:=by obtain⟨A,c',hv,h1,h2,h3⟩:=h;injection hv with hA;refine ä λaw=>?_;obtain⟨ad,ha,_⟩:=h3 aw;rw[ha] at hA;cases hA
  subst hl;refine(adI _ _ w).mono ?_;rintro e w' ⟨rfl,rfl⟩;exact⟨_,rfl,⟨rfl,.inl ⟨rfl,rfl⟩⟩,ό _ _⟩
 |some ad=>
  have hc:=h.cells hf;exact adJ (uT hf l) hc.1 (Eb l h1) hn (λaw=>by
   have:=hc.2 (by intro e;rw[e] at aw;simp at aw);omega)
def Fz:(prog.info? 95).map (λi=>(i.zero,i.size,i.bytes))=J (J (η #[E H 0 0,Y I 0,Y I 0]),3,40):=by rw[qS];kernel_rfl
def adU(hl:news.length=n * 3)(hc:∀j u,news[j]?=J u-> w.cell? (ad.add j)=J u)(h1:∀u∈news,u.oneCell'=D)(hn:n<=1000000)(aE:news≠ []->ad.block<w.heap.size):
 ύ prog 158 #[E (J ad) n c] w λe w'=>∃v,e=Ω v/\w'.ownsRow w.heap.size 95 3 v n news/\φ w w':=by
 obtain⟨i0,cJ,cK,aO,aZ⟩:=Ö Fz;have cy:=K (Ϗ cJ (Ϗ cK (Ϗ aO aZ)));have HC:Hid (∀j u,news[j]?=J u->(w.alloc (Ξ #[] 95)).cell? (ad.add j)=J u):=K (λj u hu=>(ð w _ _ (by rw[b9];exact aE (by intro e;rw[e] at hu;simp at hu))).trans (hc j u hu))
 have HL:=K (Ϗ hl h1);have HO:Hid ((w.alloc (Ξ #[] 95)).ownsRow w.heap.size 95 3 (E (J ⟨w.heap.size,0,H⟩) 0 0) 0 []):=K ⟨rfl,.inr ⟨w.heap.size,0,#[],rfl,ϊ _,Ľ w _,ϊ _,by unfold ϕ;omega,rfl,rfl⟩⟩
 clear hl hc h1 cJ cK aO aZ aE;have q:∀(w:N) (a:Option ϖ) (n c n' c':Nat),(binOp .eql 24 (E a n c) (E H n' c')).run prog w=.ok (.bool a.isNone) w:=λw a n c n' c'=>ľ w _ _ a n c n' c' (χ Tryz.underlying24)
 go_enter func158,Tryz.ntmps158;go_wp2_with (first
  | (at_builtin
     refine ĝ _ rfl (.tmp 5) (.tmp 6) 24 rfl w.heap.size 95 i0 (η #[E H 0 0,Y I 0,Y I 0]) 3 40 (χ Tryz.underlying24) cy.e.1 cy.e.2.1 cy.e.2.2.1 cy.e.2.2.2 rfl (by decide) _ 0 _ rfl HO.e ad n c news rfl HL.e.1 HC.e HL.e.2 ?c3 ?c4 ?c5 ?_;case c3=>(simp only[ϕ];omega)
     case c4=>omega
     case c5=>simp
     intro v' w1 b7 cW _;have gC:=K b7;have gX:=K cW;clear b7 cW))
 go_ret;refine⟨_,rfl,by have:=gC.e;rwa[ŝ,ù] at this,((ό _ _).alloc (ϊ _) _).grown gX.e (by simp) (λk hk=>dX HO.e k hk)⟩
def adT(n c:Nat)(w:N):ύ prog 158 #[E H n c] w λe w'=>e=Ω (E H 0 0)/\w=w':=by have q:∀(w:N) (a:Option ϖ) (n c n' c':Nat),(binOp .eql 24 (E a n c) (E H n' c')).run prog w=.ok (.bool a.isNone) w:=λw a n c n' c'=>ľ w _ _ a n c n' c' (χ Tryz.underlying24);go_enter func158,Tryz.ntmps158;go_wp2;go_ret;exact⟨rfl,rfl⟩
def Tz{f:α->List z}{l:List α}(h:Row w B 3 (λx cs=>cs=f x) v l)(hB:B<=w.heap.size)(hf:∀x,(f x).length=3)(h1:∀x∈l,∀u∈f x,u.oneCell'=D)(hn:l.length<=1000000):
 ύ prog 158 #[v] w λe w'=>∃v',e=Ω v'/\w'.ownsRow w.heap.size 95 3 v' l.length (l.flatMap f)/\φ w w':=by
 obtain⟨A,c,rfl,-⟩:=id h;cases A with
 |none=>
  have hl:l=[]:=by obtain⟨A,c',hv,h1,h2,h3⟩:=h;injection hv with hA;refine ä λaw=>?_;obtain⟨ad,ha,_⟩:=h3 aw;rw[ha] at hA;cases hA
  subst hl;refine(adT _ _ w).mono ?_;rintro e w' ⟨rfl,rfl⟩;exact⟨_,rfl,⟨rfl,.inl ⟨rfl,rfl⟩⟩,ό _ _⟩
 |some ad=>
  have hc:=h.cells hf;exact adU (uT hf l) hc.1 (Eb l h1) hn (λaw=>by
   have:=hc.2 (by intro e;rw[e] at aw;simp at aw);omega)
def ajp:(prog.info? 37).map (λi=>(i.zero,i.size,i.bytes))=J (J (η #[Y I 0,Y I 0]),2,16):=by rw[qS];kernel_rfl
def adS(hl:news.length=n * 2)(hc:∀j u,news[j]?=J u-> w.cell? (ad.add j)=J u)(h1:∀u∈news,u.oneCell'=D)(hn:n<=1000000)(aE:news≠ []->ad.block<w.heap.size):
 ύ prog 179 #[E (J ad) n c] w λe w'=>∃v,e=Ω v/\w'.ownsRow w.heap.size 37 2 v n news/\φ w w':=by
 obtain⟨i0,cJ,cK,aO,aZ⟩:=Ö ajp;have cy:=K (Ϗ cJ (Ϗ cK (Ϗ aO aZ)));have HC:Hid (∀j u,news[j]?=J u->(w.alloc (Ξ #[] 37)).cell? (ad.add j)=J u):=K (λj u hu=>(ð w _ _ (by rw[b9];exact aE (by intro e;rw[e] at hu;simp at hu))).trans (hc j u hu))
 have HL:=K (Ϗ hl h1);have HO:Hid ((w.alloc (Ξ #[] 37)).ownsRow w.heap.size 37 2 (E (J ⟨w.heap.size,0,H⟩) 0 0) 0 []):=K ⟨rfl,.inr ⟨w.heap.size,0,#[],rfl,ϊ _,Ľ w _,ϊ _,by unfold ϕ;omega,rfl,rfl⟩⟩
 clear hl hc h1 cJ cK aO aZ aE;have q:∀(w:N) (a:Option ϖ) (n c n' c':Nat),(binOp .eql 57 (E a n c) (E H n' c')).run prog w=.ok (.bool a.isNone) w:=λw a n c n' c'=>ľ w _ _ a n c n' c' (χ Tryz.underlying57)
 go_enter func179,Tryz.ntmps179;go_wp2_with (first
  | (at_builtin
     refine ĝ _ rfl (.tmp 5) (.tmp 6) 57 rfl w.heap.size 37 i0 (η #[Y I 0,Y I 0]) 2 16 (χ Tryz.underlying57) cy.e.1 cy.e.2.1 cy.e.2.2.1 cy.e.2.2.2 rfl (by decide) _ 0 _ rfl HO.e ad n c news rfl HL.e.1 HC.e HL.e.2 ?c3 ?c4 ?c5 ?_;case c3=>(simp only[ϕ];omega)
     case c4=>omega
     case c5=>simp
     intro v' w1 b7 cW _;have gC:=K b7;have gX:=K cW;clear b7 cW))
 go_ret;refine⟨_,rfl,by have:=gC.e;rwa[ŝ,ù] at this,((ό _ _).alloc (ϊ _) _).grown gX.e (by simp) (λk hk=>dX HO.e k hk)⟩
def adR(n c:Nat)(w:N):ύ prog 179 #[E H n c] w λe w'=>e=Ω (E H 0 0)/\w=w':=by have q:∀(w:N) (a:Option ϖ) (n c n' c':Nat),(binOp .eql 57 (E a n c) (E H n' c')).run prog w=.ok (.bool a.isNone) w:=λw a n c n' c'=>ľ w _ _ a n c n' c' (χ Tryz.underlying57);go_enter func179,Tryz.ntmps179;go_wp2;go_ret;exact⟨rfl,rfl⟩
def adQ{f:α->List z}{l:List α}(h:Row w B 2 (λx cs=>cs=f x) v l)(hB:B<=w.heap.size)(hf:∀x,(f x).length=2)(h1:∀x∈l,∀u∈f x,u.oneCell'=D)(hn:l.length<=1000000):
 ύ prog 179 #[v] w λe w'=>∃v',e=Ω v'/\w'.ownsRow w.heap.size 37 2 v' l.length (l.flatMap f)/\φ w w':=by
 obtain⟨A,c,rfl,-⟩:=id h;cases A with
 |none=>
  have hl:l=[]:=by obtain⟨A,c',hv,h1,h2,h3⟩:=h;injection hv with hA;refine ä λaw=>?_;obtain⟨ad,ha,_⟩:=h3 aw;rw[ha] at hA;cases hA
  subst hl;refine(adR _ _ w).mono ?_;rintro e w' ⟨rfl,rfl⟩;exact⟨_,rfl,⟨rfl,.inl ⟨rfl,rfl⟩⟩,ό _ _⟩
 |some ad=>
  have hc:=h.cells hf;exact adS (uT hf l) hc.1 (Eb l h1) hn (λaw=>by
   have:=hc.2 (by intro e;rw[e] at aw;simp at aw);omega)
def WO:(prog.info? 3).map (λi=>(i.zero,i.size,i.bytes))=J (J (Y I 0),1,8):=by rw[qS];kernel_rfl
def adN(hl:news.length=n * 1)(hc:∀j u,news[j]?=J u-> w.cell? (ad.add j)=J u)(h1:∀u∈news,u.oneCell'=D)(hn:n<=1000000)(aE:news≠ []->ad.block<w.heap.size):
 ύ prog 180 #[E (J ad) n c] w λe w'=>∃v,e=Ω v/\w'.ownsRow w.heap.size 3 1 v n news/\φ w w':=by
 obtain⟨i0,cJ,cK,aO,aZ⟩:=Ö WO;have cy:=K (Ϗ cJ (Ϗ cK (Ϗ aO aZ)));have HC:Hid (∀j u,news[j]?=J u->(w.alloc (Ξ #[] 3)).cell? (ad.add j)=J u):=K (λj u hu=>(ð w _ _ (by rw[b9];exact aE (by intro e;rw[e] at hu;simp at hu))).trans (hc j u hu))
 have HL:=K (Ϗ hl h1);have HO:Hid ((w.alloc (Ξ #[] 3)).ownsRow w.heap.size 3 1 (E (J ⟨w.heap.size,0,H⟩) 0 0) 0 []):=K ⟨rfl,.inr ⟨w.heap.size,0,#[],rfl,ϊ _,Ľ w _,ϊ _,by unfold ϕ;omega,rfl,rfl⟩⟩
 clear hl hc h1 cJ cK aO aZ aE;have q:∀(w:N) (a:Option ϖ) (n c n' c':Nat),(binOp .eql 33 (E a n c) (E H n' c')).run prog w=.ok (.bool a.isNone) w:=λw a n c n' c'=>ľ w _ _ a n c n' c' (χ Tryz.underlying33)
 go_enter func180,Tryz.ntmps180;go_wp2_with (first
  | (at_builtin
     refine ĝ _ rfl (.tmp 5) (.tmp 6) 33 rfl w.heap.size 3 i0 (Y I 0) 1 8 (χ Tryz.underlying33) cy.e.1 cy.e.2.1 cy.e.2.2.1 cy.e.2.2.2 rfl (by decide) _ 0 _ rfl HO.e ad n c news rfl HL.e.1 HC.e HL.e.2 ?c3 ?c4 ?c5 ?_;case c3=>(simp only[ϕ];omega)
     case c4=>omega
     case c5=>simp
     intro v' w1 b7 cW _;have gC:=K b7;have gX:=K cW;clear b7 cW))
 go_ret;refine⟨_,rfl,by have:=gC.e;rwa[ŝ,ù] at this,((ό _ _).alloc (ϊ _) _).grown gX.e (by simp) (λk hk=>dX HO.e k hk)⟩
def adM(n c:Nat)(w:N):ύ prog 180 #[E H n c] w λe w'=>e=Ω (E H 0 0)/\w=w':=by have q:∀(w:N) (a:Option ϖ) (n c n' c':Nat),(binOp .eql 33 (E a n c) (E H n' c')).run prog w=.ok (.bool a.isNone) w:=λw a n c n' c'=>ľ w _ _ a n c n' c' (χ Tryz.underlying33);go_enter func180,Tryz.ntmps180;go_wp2;go_ret;exact⟨rfl,rfl⟩
def adL{f:α->List z}{l:List α}(h:Row w B 1 (λx cs=>cs=f x) v l)(hB:B<=w.heap.size)(hf:∀x,(f x).length=1)(h1:∀x∈l,∀u∈f x,u.oneCell'=D)(hn:l.length<=1000000):
 ύ prog 180 #[v] w λe w'=>∃v',e=Ω v'/\w'.ownsRow w.heap.size 3 1 v' l.length (l.flatMap f)/\φ w w':=by
 obtain⟨A,c,rfl,-⟩:=id h;cases A with
 |none=>
  have hl:l=[]:=by obtain⟨A,c',hv,h1,h2,h3⟩:=h;injection hv with hA;refine ä λaw=>?_;obtain⟨ad,ha,_⟩:=h3 aw;rw[ha] at hA;cases hA
  subst hl;refine(adM _ _ w).mono ?_;rintro e w' ⟨rfl,rfl⟩;exact⟨_,rfl,⟨rfl,.inl ⟨rfl,rfl⟩⟩,ό _ _⟩
 |some ad=>
  have hc:=h.cells hf;exact adN (uT hf l) hc.1 (Eb l h1) hn (λaw=>by
   have:=hc.2 (by intro e;rw[e] at aw;simp at aw);omega)
def cV(w:N)(No:Nat->Prop)(sz:Nat)(R:α->List z->Prop)(v:z)(xs:List α):Prop:=
 ∃A c,v=E A xs.length c/\xs.length<=c/\c<=ϕ/\(xs≠ []->∃ad,A=J ad/\ad.block<w.heap.size/\¬No ad.block/\
  ∀i x,xs[i]?=J x->∃cs,R x cs/\cs.length=sz/\∀j u,cs[j]?=J u-> w.cell? (ad.add (i * sz+j))=J u)
section
variable {α:Type}{w w':N}{No oz:Nat->Prop}{B sz:Nat}{R:α->List z->Prop}{v:z}{xs:List α}
def cV.grown{row:Option Nat}(h:cV w No sz R v xs)(hg:w.grownBy w' row)(T:∀k,row=J k->No k):cV w' No sz R v xs:=by obtain⟨A,c,hv,h1,h2,h3⟩:=h;refine⟨A,c,hv,h1,h2,λhx=>?_⟩;obtain⟨ad,ha,hb,hn,hc⟩:=h3 hx;refine⟨ad,ha,Nat.lt_of_lt_of_le hb hg.size,hn,λi x hi=>?_⟩;obtain⟨cs,r,hl,aq⟩:=hc i x hi;refine⟨cs,r,hl,λj u hu=>?_⟩;refine(Ai1 (hg.block (ad.add (i * sz+j)).block (by rw[b9];exact hb) (λe=>hn ?_))).trans (aq j u hu);rw[b9] at e;exact T _ e.symm
def Row.pU(h:Row w B sz R v xs)(hB:B<=w.heap.size)(hN:∀k,No k->B<=k):cV w No sz R v xs:=by obtain⟨A,c,hv,h1,h2,h3⟩:=h;refine⟨A,c,hv,h1,h2,λhx=>?_⟩;obtain⟨ad,ha,hb,hc⟩:=h3 hx;exact⟨ad,ha,by omega,λhk=>by have:=hN _ hk;omega,hc⟩
def Row.mem(h:Row w B sz R v xs):∀x∈xs,∃cs,R x cs:=λx hx=>by obtain⟨A,c,hv,h1,h2,h3⟩:=h;obtain⟨i,hi⟩:=Ai6 hx;obtain⟨ad,ha,hb,hc⟩:=h3 (by intro e;subst e;simp at hi);obtain⟨cs,r,_⟩:=hc i x hi;exact⟨cs,r⟩
def cV.row(h:cV w No sz R v xs):Row w w.heap.size sz R v xs:=by obtain⟨A,c,hv,h1,h2,h3⟩:=h;refine⟨A,c,hv,h1,h2,λhx=>?_⟩;obtain⟨ad,ha,hb,hn,hc⟩:=h3 hx;exact⟨ad,ha,hb,hc⟩
def cV.below(h:cV w No sz R v xs)(hb:φ w w')(hN:∀k,oz k->No k\/w.heap.size<=k):cV w' oz sz R v xs:=by
 obtain⟨A,c,hv,h1,h2,h3⟩:=h;refine⟨A,c,hv,h1,h2,λhx=>?_⟩;obtain⟨ad,ha,hl,hn,hc⟩:=h3 hx;refine⟨ad,ha,Nat.lt_of_lt_of_le hl hb.size,λhk=>?_,λi x hi=>?_⟩
 ·rcases hN _ hk with h|h
  ·exact hn h
  ·omega
 ·obtain⟨cs,r,pH,aq⟩:=hc i x hi;exact⟨cs,r,pH,λj u hu=>(hb.cell (by rw[b9];exact hl)).trans (aq j u hu)⟩
def cV.weaken(h:cV w No sz R v xs)(hN:∀k,oz k->No k):cV w oz sz R v xs:=h.below (ό _ _) (λk hk=>Or.inl (hN k hk))
def cV.tt{base:Nat}{f:α->List z}(h:w.ownsRow base e sz v xs.length (xs.flatMap f))(hf:∀x,(f x).length=sz)(hR:∀x∈xs,R x (f x))(hN:∀k,No k->k<base):cV w No sz R v xs:=by obtain⟨A,c,hv,h1,h2,h3⟩:=mZ (R:=R) h hf hR;refine⟨A,c,hv,h1,h2,λhx=>?_⟩;obtain⟨ad,ha,hb,hc⟩:=h3 hx;refine⟨ad,ha,hb,λhk=>?_,hc⟩;have:=dX h ad.block (by rw[hv,ha];rfl);have:=hN _ hk;omega
end
def CY[Inhabited β]{sz:Nat}{R:α->List z->Prop}{R':α×β->List z->Prop}{xs:List α}(h:Row w B sz R v xs)(hR:∀x cs,R x cs->∃k,R' (x,k) cs):
 ∃ps:List (α×β),ps.map É=xs/\Row w B sz R' v ps:=by
 obtain⟨A,c,hv,h1,h2,h3⟩:=h;by_cases hx:xs=[]
 ·subst hx;exact⟨[],rfl,A,c,hv,h1,h2,λh=>absurd rfl h⟩
 obtain⟨ad,ha,hb,hc⟩:=h3 hx;have hk:∀i,∃k:β,∀x,xs[i]?=J x->∃cs,R' (x,k) cs/\cs.length=sz/\∀j u,cs[j]?=J u-> w.cell? (ad.add (i * sz+j))=J u:=λi=>by
  cases e:xs[i]? with
  |none=>exact⟨default,λx hx=>by cases hx⟩|some x=>obtain⟨cs,r,hl,aq⟩:=hc i x e;obtain⟨k,hk⟩:=hR x cs r;exact⟨k,λy hy=>by injection hy with hy;subst hy;exact⟨cs,hk,hl,aq⟩⟩
 obtain⟨ψ,hK⟩:=Classical.axiomOfChoice hk;refine⟨xs.mapIdx λi x=>(x,ψ i),?_,A,c,by simpa using hv,by simpa using h1,h2,λ_=>⟨ad,ha,hb,λi p hi=>?_⟩⟩
 ·apply List.ext_getElem?;intro i;simp;cases xs[i]?<;>rfl
 ·simp only[List.getElem?_mapIdx] at hi;cases e:xs[i]? with
  |none=>rw[e] at hi;cases hi
  |some x=>rw[e] at hi;simp at hi;subst hi;exact hK i x e
instance:Inhabited z:=⟨E H 0 0⟩
def fX(p:Piece):List z:=[.string p.name,Y I p.len.lo,Y I p.len.hi,Y I p.bears]
def fc(p:bN×z):List z:=[.string p.1.name,Y I p.1.aL,p.2]
def cE(p:Tape×z):List z:=[p.2,Y I p.1.sum.lo,Y I p.1.sum.hi]
def mh{base:Nat}{sz:Nat}{p:ϖ}(h:w.ownsRow base e sz v n xs)(hp:∀k,v.ownBlock=J k->p.block≠k):(w.setCell p u).ownsRow base e sz v n xs:=by
 refine⟨h.1,?_⟩;rcases h.2 with h0| ⟨g,cap,cur,h1,h2,h3,h4⟩
 ·exact .inl h0
 ·exact .inr ⟨g,cap,cur,h1,h2,(å _ _ _ _ (by rw[h1] at hp;exact Ne.symm (hp g rfl))).trans h3,h4⟩
def UA{base:Nat}{sz:Nat}{row:Option Nat}(h:w.ownsRow base e sz v n xs)(hg:w.grownBy w' row)(hp:∀k,v.ownBlock=J k->row≠J k):w'.ownsRow base e sz v n xs:=by
 refine⟨h.1,?_⟩;rcases h.2 with h0| ⟨g,cap,cur,h1,h2,h3,h4⟩
 ·exact .inl h0
 ·exact .inr ⟨g,cap,cur,h1,h2,(hg.block g (Ϝ.1 h3).1 (by rw[h1] at hp;exact Ne.symm (hp g rfl))).trans h3,h4⟩
def tx{base:Nat}{sz:Nat}(h:w.ownsRow base e sz v n xs)(k:Nat)(hk:v.ownBlock=J k):k<w.heap.size:=by
 rcases h.2 with⟨h0,_⟩ | ⟨g,cap,cur,h1,h2,h3,h4⟩
 ·rw[h0] at hk;cases hk
 ·rw[h1] at hk;injection hk with hk;subst hk;exact(Ϝ.1 h3).1
def yq{base:Nat}{sz:Nat}{A:Option ϖ}(h:w.ownsRow base e sz (E A m c) n xs):m=n:=by
 rcases h.2 with⟨h0,h1⟩ | ⟨g,cap,cur,h1,h2,h3,h4⟩
 ·injection h0 with _ h0;omega
 ·injection h1
def XU{base:Nat}{sz:Nat}{A:Option ϖ}(h:w.ownsRow base e sz (E A m c) n xs):m<=c/\c<=2 ^ 63 - 1:=by
 rcases h.2 with⟨h0,h1⟩ | ⟨g,cap,cur,h1,h2,h3,h4,h5,_⟩
 ·injection h0 with _ h0 h2;omega
 ·injection h1 with _ h6 h7;unfold ϕ at h5;omega
def JG{base:Nat}{sz:Nat}{A:Option ϖ}(h:w.ownsRow base e sz (E A m c) n xs)(hm:0<m):∃g,A=J ⟨g,0,H⟩:=by
 rcases h.2 with⟨h0,h1⟩ | ⟨g,cap,cur,h1,_⟩
 ·injection h0 with _ h0;omega
 ·injection h1 with h1;exact⟨g,h1⟩
def wY(w:N)(p:ϖ)(u:z):w.grownBy (w.setCell p u) (J p.block):=
 ⟨rfl,rfl,rfl,by simp,λk _ hk=>å _ _ _ _ (by intro e;exact hk (by rw[e]))⟩
def dK(F:Act->N->Prop):Exit->Act->N->Prop
 | .normal,a,w=>F a w
 |_,_,_=>False
def dK.imp{F:Act->N->Prop}{Q:Exit->Act->N->Prop}(h:∀a w,F a w->Q .normal a w):∀e a w,dK F e a w->Q e a w:=λe a w hf=>by
 cases e<;>first|exact h a w hf|exact(hf:False).elim
def sE(No:Nat->Prop)(g:Nat)(bv tv:z)(k:Nat):Prop:=bv.ownBlock=J k\/tv.ownBlock=J k\/k=g+1\/No k
structure jJ(w:N)(No:Nat->Prop)(b:eR)(pv bv tv:z)(bs:List (bN×z))(ts:List (Tape×z)):Prop where
 p:cV w No 4 Piece.R pv b.pieces
 bo:cV w No 3 (λp cs=>cs=fc p) bv bs
 t:cV w No 3 (λp cs=>cs=cE p) tv ts
 mG:bs.map É=b.aC
 oh:ts.map É=b.aI
 kn:∀p∈bs,p.1.name.size<=ϕ/\cV w No 2 Span.R p.2 p.1.cM
 tp:∀p∈ts,cV w No 1 bI p.2 p.1.pieces
structure CI(No:Nat->Prop)(b:eR)(w W:N)(g s1 s2:Nat)(pv bv tv:z)(bs:List (bN×z))(ts:List (Tape×z)):Prop where
 box:Bk W g 26 #[Y I b.ab,pv,bv,tv]
 res:∃u0 u1 u2 u3,Bk W (g+1) 26 #[u0,u1,u2,u3]
 p:W.ownsRow (g+2) 72 4 pv b.pieces.length (b.pieces.flatMap fX)
 bo:W.ownsRow s1 59 3 bv bs.length (bs.flatMap fc)
 t:W.ownsRow s2 95 3 tv ts.length (ts.flatMap cE)
 mG:bs.map É=b.aC
 oh:ts.map É=b.aI
 kn:∀p∈bs,cV W (sE No g bv tv) 2 Span.R p.2 p.1.cM
 tp:∀p∈ts,cV W (sE No g bv tv) 1 bI p.2 p.1.pieces
 below:Γ g w W
 gz:g=w.heap.size
 g1:g+2<=s1
 g2:s1<=s2
 pl:∀k,pv.ownBlock=J k->k<s1
 bl:∀k,bv.ownBlock=J k->k<s2
def CI.grown{No:Nat->Prop}{b:eR}{w W W':N}{g s1 s2:Nat}{pv bv tv:z}{bs:List (bN×z)}{ts:List (Tape×z)}(h:CI No b w W g s1 s2 pv bv tv bs ts)(hg:W.grownBy W' H):CI No b w W' g s1 s2 pv bv tv bs ts where
 box:=h.box.grown hg (by simp)
 res:=by obtain⟨u0,u1,u2,u3,T⟩:=h.res;exact⟨u0,u1,u2,u3,T.grown hg (by simp)⟩
 p:=UA h.p hg (by simp)
 bo:=UA h.bo hg (by simp)
 t:=UA h.t hg (by simp)
 mG:=h.mG
 oh:=h.oh
 kn p hp:=(h.kn p hp).grown hg (by simp)
 tp p hp:=(h.tp p hp).grown hg (by simp)
 below:=h.below.grown hg (by have:=h.box.lt;omega) (by simp)
 gz:=h.gz
 g1:=h.g1
 g2:=h.g2
 pl:=h.pl
 bl:=h.bl
def YD{x:bN}{kv kD:z}:∀ {bs:List (bN×z)} {i:Nat},bs[i]?=J (x,kv)->(bs.flatMap fc).set (i * 3+2) kD=(bs.set i (x,kD)).flatMap fc
 | [],i,h=>by simp at h
 |a::l,0,h=>by simp at h;subst h;simp[fc]
 |a::l,i+1,h=>by
  have e:(i+1) * 3+2=(i * 3+2)+1+1+1:=by omega
  have ih:=YD (kD:=kD) (bs:=l) (i:=i) (by simpa using h);rw[e,č];simp only[fc,List.cons_append,ù,Ë,č];congr 3
def YE{x:Tape}{kv kD:z}:∀ {ts:List (Tape×z)} {i:Nat},ts[i]?=J (x,kv)->(ts.flatMap cE).set (i * 3) kD=(ts.set i (x,kD)).flatMap cE
 | [],i,h=>by simp at h
 |a::l,0,h=>by simp at h;subst h;simp[cE]
 |a::l,i+1,h=>by
  have e:(i+1) * 3=(i * 3)+1+1+1:=by omega
  have ih:=YE (kD:=kD) (ts:=l) (i:=i) (by simpa using h);rw[e,č];simp only[cE,List.cons_append,ù,Ë,č];congr 3
def PJ{α β:Type}:∀ {l:List (α×β)} {i:Nat} {x:α} {y y':β},l[i]?=J (x,y)->(l.set i (x,y')).map É=l.map É
 | [],i,x,y,y',h=>by simp at h
 |a::l,0,x,y,y',h=>by simp at h;subst h;simp
 |a::l,i+1,x,y,y',h=>by rw[Ë,Ę,PJ (l:=l) (y:=y) (by simpa using h),Ę]
def mem_set{l:List α}{a x:α}(h:x∈l.set i a):x∈l\/x=a:=List.mem_or_eq_of_mem_set h
section
variable {No:Nat->Prop}{b:eR}{w W:N}{g s1 s2:Nat}{pv bv tv:z}{bs:List (bN×z)}{ts:List (Tape×z)}
def CI.aoU{x:bN}{kv:z}(h:CI No b w W g s1 s2 pv (E (J ⟨rb,0,H⟩) n c) tv bs ts)(hx:bs[i]?=J (x,kv))(hk:cV W (sE No g (E (J ⟨rb,0,H⟩) n c) tv) 2 Span.R kD x.cM):
 CI No b w (W.setCell ⟨rb,i * 3+2,H⟩ kD) g s1 s2 pv (E (J ⟨rb,0,H⟩) n c) tv (bs.set i (x,kD)) ts:=by
 have hn:n=bs.length:=by
  rcases h.bo.2 with⟨h0,_⟩ | ⟨g',ze,cur,h1,_⟩
  ·cases h0
  ·injection h1
 have ai:=dX h.bo rb rfl;have an:=h.bl rb rfl;have g1:=h.g1;have hi:=(Ϫ.1 hx).1
 have hG:=wY W ⟨rb,i * 3+2,H⟩ kD;have hN:∀k,J rb=J k->sE No g (E (J ⟨rb,0,H⟩) n c) tv k:=λk e=>Or.inl e
 refine⟨h.box.dV (by simp;omega) _,(by obtain⟨u0,u1,u2,u3,T⟩:=h.res;exact⟨u0,u1,u2,u3,T.dV (by simp;omega) _⟩),mh h.p (λk e=>by have:=h.pl k e;simp;omega),?_,mh h.t (λk e=>by have:=dX h.t k e;simp;omega),?_,h.oh,?_,λp hp=>(h.tp p hp).grown hG hN,h.below.setCell (by simp;omega) _,h.gz,h.g1,h.g2,h.pl,h.bl⟩
 ·have:=h.bo;rw[<-hn] at this;rw[List.length_set,<-hn,<-YD hx];exact yu this (by omega)
 ·rw[PJ hx];exact h.mG
 ·intro p hp;rcases mem_set hp with hp|rfl
  ·exact(h.kn p hp).grown hG hN
  ·exact hk.grown hG hN
def CI.aoW{x:Tape}{kv:z}(h:CI No b w W g s1 s2 pv bv (E (J ⟨rb,0,H⟩) n c) bs ts)(hx:ts[i]?=J (x,kv))(hk:cV W (sE No g bv (E (J ⟨rb,0,H⟩) n c)) 1 bI kD x.pieces):
 CI No b w (W.setCell ⟨rb,i * 3,H⟩ kD) g s1 s2 pv bv (E (J ⟨rb,0,H⟩) n c) bs (ts.set i (x,kD)):=by
 have hn:n=ts.length:=by
  rcases h.t.2 with⟨h0,_⟩ | ⟨g',ze,cur,h1,_⟩
  ·cases h0
  ·injection h1
 have ai:=dX h.t rb rfl;have g1:=h.g1;have g2:=h.g2;have hi:=(Ϫ.1 hx).1
 have hG:=wY W ⟨rb,i * 3,H⟩ kD;have hN:∀k,J rb=J k->sE No g bv (E (J ⟨rb,0,H⟩) n c) k:=λk e=>Or.inr (Or.inl e)
 refine⟨h.box.dV (by simp;omega) _,(by obtain⟨u0,u1,u2,u3,T⟩:=h.res;exact⟨u0,u1,u2,u3,T.dV (by simp;omega) _⟩),mh h.p (λk e=>by have:=h.pl k e;simp;omega),mh h.bo (λk e=>by have:=h.bl k e;simp;omega),?_,h.mG,?_,λp hp=>(h.kn p hp).grown hG hN,?_,h.below.setCell (by simp;omega) _,h.gz,h.g1,h.g2,h.pl,h.bl⟩
 ·have:=h.t;rw[<-hn] at this;rw[List.length_set,<-hn,<-YE hx];exact yu this (by omega)
 ·rw[PJ hx];exact h.oh
 ·intro p hp;rcases mem_set hp with hp|rfl
  ·exact(h.tp p hp).grown hG hN
  ·exact hk.grown hG hN
def Bk.drew{w:N}{g:Nat}{t:ώ}{cs:Array z}(h:Bk w g t cs):Bk w.drew g t cs:=h
def CI.start{W0 w3 w4 W:N}{q1 q2 q3:z}(h3:φ W0 w3)(h4:φ w3 w4)(h5:φ w4 W)(hz:w.heap.size+2<=W0.heap.size)
 (kb:Bk W w.heap.size 26 #[Y I b.ab,q1,q2,q3])(kr:Bk W (w.heap.size+1) 26 #[Y I 0,E H 0 0,E H 0 0,E H 0 0])
 (o9:w3.ownsRow W0.heap.size 72 4 pv b.pieces.length (b.pieces.flatMap fX))(nW:w4.ownsRow w3.heap.size 59 3 bv bs.length (bs.flatMap fc))(CO:W.ownsRow w4.heap.size 95 3 tv ts.length (ts.flatMap cE))
 (fC:bs.map É=b.aC)(eK:ts.map É=b.aI)(hb:∀p∈bs,cV w No 2 Span.R p.2 p.1.cM)(ht:∀p∈ts,cV w No 1 bI p.2 p.1.pieces)(qp:∀k,No k->k<w.heap.size)(bd:φ w W0):
 CI No b w (((W.setCell ⟨w.heap.size,1,H⟩ pv).setCell ⟨w.heap.size,2,H⟩ bv).setCell ⟨w.heap.size,3,H⟩ tv) w.heap.size w3.heap.size w4.heap.size pv bv tv bs ts:=by
 have e3:=h3.size;have e4:=h4.size;have e5:=h5.size;have bW:φ w W:=((bd.trans (h3.mono (by omega))).trans (h4.mono (by omega))).trans (h5.mono (by omega))
 have bF:φ w (((W.setCell ⟨w.heap.size,1,H⟩ pv).setCell ⟨w.heap.size,2,H⟩ bv).setCell ⟨w.heap.size,3,H⟩ tv):=((bW.setCell (ϊ _) _).setCell (ϊ _) _).setCell (ϊ _) _;have l9:=tx o9;have l12:=tx nW;have g9:=dX o9;have g12:=dX nW;have g15:=dX CO;have hN:∀k,sE No w.heap.size bv tv k->No k\/w.heap.size<=k:=λk hk=>by
  rcases hk with hk|hk|hk|hk
  ·have:=g12 k hk;omega
  ·have:=g15 k hk;omega
  ·omega
  ·exact Or.inl hk
 have p9:W.ownsRow W0.heap.size 72 4 pv b.pieces.length (b.pieces.flatMap fX):=si (si o9 h4 (ϊ _)) h5 (ϊ _);have F5:W.ownsRow w3.heap.size 59 3 bv bs.length (bs.flatMap fc):=si nW h5 (ϊ _);refine⟨?_,⟨_,_,_,_,((kr.dV (by simp) _).dV (by simp) _).dV (by simp) _⟩,?_,?_,?_,fC,eK,λp hp=>(hb p hp).below bF hN,λp hp=>(ht p hp).below bF hN,bF,rfl,by omega,by omega,l9,l12⟩
 ·exact((kb.set 1 pv).set 2 bv).set 3 tv
 ·exact(mh (mh (mh p9 (λk e=>by have:=g9 k e;simp;omega)) (λk e=>by have:=g9 k e;simp;omega)) (λk e=>by have:=g9 k e;simp;omega)).base hz
 ·exact mh (mh (mh F5 (λk e=>by have:=g12 k e;simp;omega)) (λk e=>by have:=g12 k e;simp;omega)) (λk e=>by have:=g12 k e;simp;omega)
 ·exact mh (mh (mh CO (λk e=>by have:=g15 k e;simp;omega)) (λk e=>by have:=g15 k e;simp;omega)) (λk e=>by have:=g15 k e;simp;omega)
def CI.He{p:bN×z}(h:CI No b w W g s1 s2 pv (E (J ⟨rb,0,H⟩) n c) tv bs ts)(hx:bs[i]?=J p)(hu:(fc p)[j]?=J u): W.cell? ⟨rb,i * 3+j,H⟩=J u:=by
 have hn:=yq h.bo;have h2:=h.bo;rw[<-hn] at h2;have:=vK h2 _ _ (Hr (f:=fc) (sz:=3) (λ_=>rfl) bs i _ j u hx hu)
 rwa[kP] at this
def CI.Hf{p:Tape×z}(h:CI No b w W g s1 s2 pv bv (E (J ⟨rb,0,H⟩) n c) bs ts)(hx:ts[i]?=J p)(hu:(cE p)[j]?=J u): W.cell? ⟨rb,i * 3+j,H⟩=J u:=by
 have hn:=yq h.t;have h2:=h.t;rw[<-hn] at h2;have:=vK h2 _ _ (Hr (f:=cE) (sz:=3) (λ_=>rfl) ts i _ j u hx hu)
 rwa[kP] at this
def CI.aga(h:CI No b w W g s1 s2 pv (E (J ⟨rb,0,H⟩) n c) tv bs ts)(i:Nat): W.frozen? ⟨rb,i,H⟩=U:=by
 rcases h.bo.2 with⟨h0,_⟩ | ⟨g',ze,cur,h1,_,h3,_⟩
 ·cases h0
 ·injection h1 with h1;injection h1 with h1;injection h1 with h1;subst h1;rw[Go.Sim.zp (a:=⟨rb,i,H⟩) h3];rfl
def CI.agb(h:CI No b w W g s1 s2 pv bv (E (J ⟨rb,0,H⟩) n c) bs ts)(i:Nat): W.frozen? ⟨rb,i,H⟩=U:=by
 rcases h.t.2 with⟨h0,_⟩ | ⟨g',ze,cur,h1,_,h3,_⟩
 ·cases h0
 ·injection h1 with h1;injection h1 with h1;injection h1 with h1;subst h1;rw[Go.Sim.zp (a:=⟨rb,i,H⟩) h3];rfl
def CI.J3(h:CI No b w W g s1 s2 pv bv tv bs ts)(hi:i<4):CI No b w (W.setCell ⟨g+1,i,H⟩ u) g s1 s2 pv bv tv bs ts:=by
 have g1:=h.g1;have g2:=h.g2;have hG:=wY W ⟨g+1,i,H⟩ u;have hN:∀k,J (g+1)=J k->sE No g bv tv k:=λk e=>Or.inr (Or.inr (Or.inl (by injection e with e;exact e.symm)))
 refine⟨h.box.dV (by simp) _,?_,mh h.p (λk e=>by have:=dX h.p k e;simp;omega),mh h.bo (λk e=>by have:=dX h.bo k e;simp;omega),mh h.t (λk e=>by have:=dX h.t k e;simp;omega),h.mG,h.oh,λp hp=>(h.kn p hp).grown hG hN,λp hp=>(h.tp p hp).grown hG hN,h.below.setCell (by simp) _,h.gz,h.g1,h.g2,h.pl,h.bl⟩;obtain⟨u0,u1,u2,u3,T⟩:=h.res;have:=T.set i u;match i,hi with
 |0,_=>exact⟨u,u1,u2,u3,this⟩
 |1,_=>exact⟨u0,u,u2,u3,this⟩
 |2,_=>exact⟨u0,u1,u,u3,this⟩
 |3,_=>exact⟨u0,u1,u2,u,this⟩
def tD{w:N}{sz:Nat}{R':α×β->List z->Prop}{R:α->List z->Prop}{ps:List (α×β)}(h:Row w B sz R' v ps)(hR:∀p∈ps,∀cs,R' p cs->R p.1 cs):Row w B sz R v (ps.map É):=by
 obtain⟨A,c,hv,h1,h2,h3⟩:=h;refine⟨A,c,by rw[ã];exact hv,by rw[ã];exact h1,h2,λaw=>?_⟩;obtain⟨ad,ha,hb,hc⟩:=h3 (by intro e;rw[e] at aw;exact aw rfl);refine⟨ad,ha,hb,λi x hi=>?_⟩;rw[ú] at hi;cases e:ps[i]? with
 |none=>rw[e] at hi;cases hi
 |some p=>rw[e] at hi;simp at hi;subst hi;obtain⟨cs,r,hl,aq⟩:=hc i p e;exact⟨cs,hR p (ϡ e) cs r,hl,aq⟩
def CI.acQ(h:CI No b w W g s1 s2 pv bv tv bs ts)(hp:∀p∈b.pieces,p.name.size<=ϕ)(hx:∀x∈b.aC,x.name.size<=ϕ)(qp:∀k,No k->k<g):jJ W No b pv bv tv bs ts:=by
 have g1:=h.g1;have g2:=h.g2;refine⟨cV.tt h.p (λ_=>rfl) (λp hm=>⟨rfl,hp p hm⟩) (λk hk=>by have:=qp k hk;omega),cV.tt h.bo (λ_=>rfl) (λp hm=>rfl) (λk hk=>by have:=qp k hk;omega),cV.tt h.t (λ_=>rfl) (λp hm=>rfl) (λk hk=>by have:=qp k hk;omega),h.mG,h.oh,λp hm=>⟨hx p.1 ?_,(h.kn p hm).weaken λk hk=>Or.inr (Or.inr (Or.inr hk))⟩,λp hm=>(h.tp p hm).weaken λk hk=>Or.inr (Or.inr (Or.inr hk))⟩
 rw[<-h.mG];exact ô.2 ⟨p,hm,rfl⟩
def jJ.grown{W':N}{row:Option Nat}(h:jJ W No b pv bv tv bs ts)(hg:W.grownBy W' row)(T:∀k,row=J k->No k):jJ W' No b pv bv tv bs ts:=
 ⟨h.p.grown hg T,h.bo.grown hg T,h.t.grown hg T,h.mG,h.oh,λp hp=>⟨(h.kn p hp).1,(h.kn p hp).2.grown hg T⟩,λp hp=>(h.tp p hp).grown hg T⟩
def jJ.book(h:jJ W No b pv bv tv bs ts):aQ W W.heap.size b pv bv tv:=by
 refine⟨h.p.row,?_,?_⟩
 ·rw[<-h.mG];exact tD h.bo.row (λp hm cs hc=>⟨p.2,hc,(h.kn p hm).1,(h.kn p hm).2.row⟩)
 ·rw[<-h.oh];exact tD h.t.row (λp hm cs hc=>⟨p.2,hc,(h.tp p hm).row⟩)
def aQ.pU{B:Nat}(h:aQ W B b pv bv tv)(hB:B<=W.heap.size)(hN:∀k,No k->B<=k):∃bs ts,jJ W No b pv bv tv bs ts:=by
 obtain⟨bs,fC,zL⟩:=CY (R':=λ(p:bN×z) cs=>cs=fc p/\p.1.name.size<=ϕ/\Row W B 2 Span.R p.2 p.1.cM) h.aC (λx cs ⟨kv,h1,h2,h3⟩=>⟨kv,h1,h2,h3⟩);obtain⟨ts,eK,kB⟩:=CY (R':=λ(p:Tape×z) cs=>cs=cE p/\Row W B 1 bI p.2 p.1.pieces) h.aI (λx cs ⟨kv,h1,h3⟩=>⟨kv,h1,h3⟩);have mO:∀p∈bs,p.1.name.size<=ϕ/\Row W B 2 Span.R p.2 p.1.cM:=λp hp=>by obtain⟨cs,h1,h2⟩:=zL.mem p hp;exact h2
 have iF:∀p∈ts,Row W B 1 bI p.2 p.1.pieces:=λp hp=>by obtain⟨cs,h1,h2⟩:=kB.mem p hp;exact h2
 exact⟨bs,ts,h.pieces.pU hB hN,(zL.still (Δ.refl W) λ_ _ h=>h.1).pU hB hN,(kB.still (Δ.refl W) λ_ _ h=>h.1).pU hB hN,fC,eK,λp hp=>⟨(mO p hp).1,(mO p hp).2.pU hB hN⟩,λp hp=>(iF p hp).pU hB hN⟩
end
def atb(x:Piece):∀u∈fX x,u.oneCell'=D:=by simp[fX,Value.oneCell']
def ajw(x:Int):∀u∈ [Y I x],u.oneCell'=D:=by simp[Value.oneCell']
def apI(x:Span):∀u∈Span.vs x,u.oneCell'=D:=by simp[Span.vs,Value.oneCell']
def LG(v:z):Prop:=∃A n c,v=E A n c
def ld{base:Nat}{sz:Nat}(h:w.ownsRow base e sz v n xs):LG v:=iI h
def copied{No:Nat->Prop}{bs:List (bN×z)}{ts:List (Tape×z)}(hN:jJ w No b pv bv tv bs ts)(qp:∀k,No k->k<w.heap.size)(hv:Valid b):
 ύ prog 136 #[η #[Y I b.ab,pv,bv,tv]] w λe w'=>∃fE gH ez lT nh,e=Ω (η #[Y I b.ab,fE,gH,ez])/\jJ w' No b fE gH ez lT nh/\φ w w':=by
 have ah:=hN.book;have HP:Hid (Row w w.heap.size 4 (λx cs=>cs=fX x) pv b.pieces):=K (ah.pieces.still (Δ.refl w) λ_ _ h=>h.1)
 have fC:=hN.mG;have eK:=hN.oh;have mO:∀p∈bs,cV w No 2 Span.R p.2 p.1.cM:=λp hp=>(hN.kn p hp).2
 have iF:∀p∈ts,cV w No 1 bI p.2 p.1.pieces:=hN.tp;have ZJ:Hid (∀p∈b.pieces,p.name.size<=ϕ):=K (λp hp=>by obtain⟨cs,h1,h2⟩:=ah.pieces.mem p hp;exact h2);have ZS:Hid (∀x∈b.aC,x.name.size<=ϕ):=K (λp hp=>by obtain⟨cs,kv,h1,h2,h3⟩:=ah.aC.mem p hp;exact h2);have uI:Hid (Row w w.heap.size 3 (λp cs=>cs=fc p) bv bs):=K hN.bo.row;have Bj:Hid (Row w w.heap.size 3 (λp cs=>cs=cE p) tv ts):=K hN.t.row;have rj:=K qp;have hB:w.heap.size<=w.heap.size:=ϊ _;have Ew:∀p∈bs,∀u∈fc p,u.oneCell'=D:=λp hp u hu=>by
  obtain⟨A,c,e,_⟩:=(mO p hp);simp[fc] at hu;rcases hu with rfl|rfl|rfl
  ·rfl
  ·rfl
  ·rw[e];rfl
 have Fe:∀p∈ts,∀u∈cE p,u.oneCell'=D:=λp hp u hu=>by
  obtain⟨A,c,e,_⟩:=iF p hp;simp[cE] at hu;rcases hu with rfl|rfl|rfl
  ·rw[e];rfl
  ·rfl
  ·rfl
 have gU:bs.length=b.aC.length:=by rw[<-fC,ã]
 have nR:ts.length=b.aI.length:=by rw[<-eK,ã]
 have C1:Hid (∀w',Δ w.heap.size w w'->w.heap.size<=w'.heap.size->ύ prog 155 #[pv] w' λe bz=>∃v',e=Ω v'/\bz.ownsRow w'.heap.size 72 4 v' b.pieces.length (b.pieces.flatMap fX)/\φ w' bz):=
  K λw' V hz=>Ty (HP.e.still V λ_ _ h=>h) hz (λ_=>rfl) (λp _=>atb p) (by have:=hv.np;omega)
 have C2:Hid (∀w',Δ w.heap.size w w'->w.heap.size<=w'.heap.size->ύ prog 135 #[bv] w' λe bz=>∃v',e=Ω v'/\bz.ownsRow w'.heap.size 59 3 v' bs.length (bs.flatMap fc)/\φ w' bz):=
  K λw' V hz=>Tx (uI.e.still V λ_ _ h=>h) hz (λ_=>rfl) Ew (by have:=hv.nb;omega)
 have C3:Hid (∀w',Δ w.heap.size w w'->w.heap.size<=w'.heap.size->ύ prog 158 #[tv] w' λe bz=>∃v',e=Ω v'/\bz.ownsRow w'.heap.size 95 3 v' ts.length (ts.flatMap cE)/\φ w' bz):=
  K λw' V hz=>Tz (Bj.e.still V λ_ _ h=>h) hz (λ_=>rfl) Fe (by have:=hv.nt;omega)
 have HM:=K (Ϗ mO (Ϗ iF (Ϗ fC (Ϗ eK (Ϗ gU nR)))));obtain⟨A1,n1,c1,A2,n2,c2,A3,n3,c3,rfl,rfl,rfl⟩:=ah.op;have HV:=K hv;clear ah hv mO iF Ew Fe fC eK gU nR hN qp;go_enter func136,Tryz.ntmps136;go_wp2;obtain⟨W0,bY⟩:∃W0,W0=((w.alloc (Ξ #[Y I b.ab,E A1 n1 c1,E A2 n2 c2,E A3 n3 c3] 26)).alloc (Ξ #[Y I 0,E H 0 0,E H 0 0,E H 0 0] 26)):=⟨_,rfl⟩
 rw[<-bY];have kb:Bk W0 w.heap.size 26 #[Y I b.ab,E A1 n1 c1,E A2 n2 c2,E A3 n3 c3]:=by rw[bY];exact(Bk.new w _ _).alloc _
 have kr:Bk W0 (w.heap.size+1) 26 #[Y I 0,E H 0 0,E H 0 0,E H 0 0]:=by rw[bY];exact Bk.bZ (by simp) _ _
 have bw:φ w W0:=by rw[bY];exact(((ό _ _).alloc (ϊ _) _).alloc (by simp) _)
 have cK:W0.heap.size=w.heap.size+2:=by rw[bY];simp
 have KB:=K (Ϗ kb kr);have BW:=K bw;have k1:=kb.cell 1;have k2:=kb.cell 2;have k3:=kb.cell 3;clear bY kb kr bw;have KD:Hid (Bk W0.drew w.heap.size 26 #[Y I b.ab,E A1 n1 c1,E A2 n2 c2,E A3 n3 c3]):=K KB.e.1;have BD:Hid (φ w W0.drew):=K (dT BW.e);have ZD:w.heap.size<W0.drew.heap.size:=KD.e.lt;have SB:Hid (∀w',φ w w'->Δ w.heap.size w w'/\w.heap.size<=w'.heap.size):=K λw' h=>⟨Δ.aJ h hB,by have:=h.size;omega⟩
 refine Code.wp_mono (Q:=dK λa W=>∃A9 n9 c9 kL gM c12 qW n15 c15,a={tmps:=#[Value.agg #[Ϟ Ϛ b.ab,Value.slice A1 n1 c1,Value.slice A2 n2 c2,Value.slice A3 n3 c3],Value.pointer (J {block:=w.heap.size,off:=0}),Value.pointer (J {block:=w.heap.size+1,off:=0}),L,L,L,L,Value.pointer (J {block:=w.heap.size,off:=1}),Value.slice A1 n1 c1,Value.slice A9 n9 c9,Value.pointer (J {block:=w.heap.size,off:=2}),Value.slice A2 n2 c2,Value.slice kL gM c12,Value.pointer (J {block:=w.heap.size,off:=3}),Value.slice A3 n3 c3,Value.slice qW n15 c15,Value.pointer (J {block:=w.heap.size,off:=1}),Value.pointer (J {block:=w.heap.size,off:=2}),Value.pointer (J {block:=w.heap.size,off:=3}),L,L,L,L,L,L,L,L,L,L,L,L,L,L,L,L,L,L,L,L,L,L,L,L,L,L,L,L,L,L,L,L,L,L,L],defers:=[]}/\Hid (∃s1 s2,CI No b w W w.heap.size s1 s2 (E A9 n9 c9) (E kL gM c12) (E qW n15 c15) bs ts)) ?post ?region;case region=>
  go_region_with (first
   | (go_at_call 155
      refine(C1.e _ ?h1 ?h2).mono ?_;case h1=>exact(SB.e _ BD.e).1
      case h2=>exact(SB.e _ BD.e).2
      rintro e w3 ⟨v9,rfl,o9,bK⟩;have k1: w3.cell? ⟨w.heap.size,1,H⟩=J (E A1 n1 c1):=(KD.e.below bK ZD).cell 1;have k2: w3.cell? ⟨w.heap.size,2,H⟩=J (E A2 n2 c2):=(KD.e.below bK ZD).cell 2;have k3: w3.cell? ⟨w.heap.size,3,H⟩=J (E A3 n3 c3):=(KD.e.below bK ZD).cell 3;have dR:=K bK;have O9:=K o9;obtain⟨A9,n9,c9,rfl⟩:=ld o9;clear bK o9)
   | (go_at_call 135
      refine(C2.e _ ?h1 ?h2).mono ?_;case h1=>exact(SB.e _ (BD.e.trans (dR.e.mono (ÿ ZD)))).1
      case h2=>exact(SB.e _ (BD.e.trans (dR.e.mono (ÿ ZD)))).2
      rintro e w4 ⟨v12,rfl,nW,cU⟩;have k3: w4.cell? ⟨w.heap.size,3,H⟩=J (E A3 n3 c3):=((KD.e.below dR.e ZD).below cU (by have:=dR.e.size;omega)).cell 3
      have jK:=K cU;have rA:=K nW;obtain⟨kL,gM,c12,rfl⟩:=ld nW;clear cU nW)
   | (go_at_call 158
      refine(C3.e _ ?h1 ?h2).mono ?_;case h1=>exact(SB.e _ ((BD.e.trans (dR.e.mono (ÿ ZD))).trans (jK.e.mono (by have:=dR.e.size;omega)))).1
      case h2=>exact(SB.e _ ((BD.e.trans (dR.e.mono (ÿ ZD))).trans (jK.e.mono (by have:=dR.e.size;omega)))).2
      rintro e w5 ⟨v15,rfl,CO,dB⟩;have wD:Hid (Bk w5 w.heap.size 26 #[Y I b.ab,E A1 n1 c1,E A2 n2 c2,E A3 n3 c3]):=K (((KD.e.below dR.e ZD).below jK.e (by have:=dR.e.size;omega)).below dB (by have:=dR.e.size;have:=jK.e.size;omega))
      have z5:w.heap.size<w5.heap.size:=wD.e.lt;have f1: w5.frozen? ⟨w.heap.size,1,H⟩=U:=wD.e.frozen 1;have f2: w5.frozen? ⟨w.heap.size,2,H⟩=U:=wD.e.frozen 2;have f3: w5.frozen? ⟨w.heap.size,3,H⟩=U:=wD.e.frozen 3;have k1: w5.cell? ⟨w.heap.size,1,H⟩=J (E A1 n1 c1):=wD.e.cell 1;have k2: w5.cell? ⟨w.heap.size,2,H⟩=J (E A2 n2 c2):=wD.e.cell 2;have k3: w5.cell? ⟨w.heap.size,3,H⟩=J (E A3 n3 c3):=wD.e.cell 3;have fS:=K dB;have O15:=K CO;obtain⟨qW,n15,c15,rfl⟩:=ld CO;clear dB CO))
  all_goals
   show ∃_,_;refine⟨_,_,_,_,_,_,_,_,_,rfl,K ⟨w3.heap.size,w4.heap.size,?_⟩⟩;have e3:=dR.e.size;have e4:=jK.e.size;have hd0:w.heap.size+2<=W0.drew.heap.size:=ò cK.symm;refine CI.start (W:=w5) dR.e jK.e fS.e hd0 wD.e (((KB.e.2.drew.below dR.e (by omega)).below jK.e (by omega)).below fS.e (by omega)) O9.e rA.e O15.e HM.e.2.2.1 HM.e.2.2.2.1 HM.e.1 HM.e.2.1 rj.e BD.e
 case post=>
  clear C1 C2 C3 KB KD BD BW HP k1 k2 k3 SB;refine dK.imp ?_;rintro a W ⟨A9,n9,c9,kL,gM,c12,qW,n15,c15,rfl,s1,s2,HC⟩;have Vy:gM=bs.length:=yq HC.bo;have Vz:n15=ts.length:=yq HC.t;have asr:gM<=3:=by have:=HV.e.nb;have:=HM.e.2.2.2.2.1;omega
  have ast:n15<=4:=by have:=HV.e.nt;have:=HM.e.2.2.2.2.2;omega
  have k2: W.cell? ⟨w.heap.size,2,H⟩=J (E kL gM c12):=HC.box.cell 2;have arY:gM<=c12/\c12<=2 ^ 63 - 1:=XU HC.bo;have arZ:n15<=c15/\c15<=2 ^ 63 - 1:=XU HC.t;have HL:=K (Ϗ Vy Vz);clear Vy Vz;have HC:=K HC;rename_i Ld;clear Ld ZD cK;go_wp2;clear k2;go_loopw [22] (λu wr=>∃i:Nat,i<=gM/\u=Y I i/\Hid (∃lT,CI No b w wr w.heap.size s1 s2 (E A9 n9 c9) (E kL gM c12) (E qW n15 c15) lT ts)) (λu _=>gM - (ϑ u).toNat)
  case atStart=>exact⟨0,ϛ _,rfl,K ⟨bs,HC.e⟩⟩
  case round=>
   obtain⟨i,hi,rfl,lT,hC⟩:=hrel;by_cases ao:i<gM
   ·obtain⟨rb,rfl⟩:=JG hC.bo (by omega);have vp:gM=lT.length:=yq hC.bo;obtain⟨⟨x,kv⟩,hx⟩:∃p,lT[i]?=J p:=⟨_,Ñ (by omega)⟩
    have cP:=hC.kn _ (ϡ hx);simp only at cP;have hxs:x.cM.length<=3:=by have:x∈b.aC:=(by rw[<-hC.mG];exact ô.2 ⟨_,ϡ hx,rfl⟩);exact(HV.e.bt x this).cM
    obtain⟨kn,vo⟩:∃k,k=x.cM:=⟨_,rfl⟩
    rw[<-vo] at cP hxs;obtain⟨m5,ta⟩:∃m,m=kn.length:=⟨_,rfl⟩
    obtain⟨A5,c5,rfl,-⟩:=id cP;rw[<-ta] at cP hxs hx;have g0: wr.cell? ⟨rb,i * 3,H⟩=J (.string x.name):=hC.He (j:=0) hx rfl;have g1: wr.cell? ⟨rb,i * 3+1,H⟩=J (Y I x.aL):=hC.He (j:=1) hx rfl;have g2: wr.cell? ⟨rb,i * 3+2,H⟩=J (E A5 m5 c5):=hC.He (j:=2) hx rfl;have nP:rb<wr.heap.size:=tx hC.bo rb rfl;have Cd:w.heap.size<rb:=by have:=dX hC.bo rb rfl;have:=hC.g1;omega
    have HX:=K (Ϗ hx (Ϗ vo ta));have Lo:=K cP;have Jm:=K hC;clear hx cP hC vo ta vp;go_wp2;have pC:=Jm.e.grown (W':=(wr.alloc (Ξ #[.string x.name,Y I x.aL,E A5 m5 c5] 59)).drew) (rH wr _ H);have Lh:=K pC;have FG:(wr.alloc (Ξ #[.string x.name,Y I x.aL,E A5 m5 c5] 59)).drew.cell? ⟨w.heap.size,2,H⟩=J (E (J ⟨rb,0,H⟩) gM c12):=pC.box.cell 2;have En:(wr.alloc (Ξ #[.string x.name,Y I x.aL,E A5 m5 c5] 59)).drew.cell? ⟨wr.heap.size,2,H⟩=J (E A5 m5 c5):=(Bk.new wr _ _).cell 2;have aG:Hid (ύ prog 179 #[E A5 m5 c5] (wr.alloc (Ξ #[.string x.name,Y I x.aL,E A5 m5 c5] 59)).drew λe w'=>∃v',e=Ω v'/\
     cV w' (sE No w.heap.size (E (J ⟨rb,0,H⟩) gM c12) (E qW n15 c15)) 2 Span.R v' kn/\Γ (wr.alloc (Ξ #[.string x.name,Y I x.aL,E A5 m5 c5] 59)).drew.heap.size (wr.alloc (Ξ #[.string x.name,Y I x.aL,E A5 m5 c5] 59)).drew w'):=K (by
     have hk:=Lo.e.grown (w':=(wr.alloc (Ξ #[.string x.name,Y I x.aL,E A5 m5 c5] 59)).drew) (rH wr _ H) (by simp);obtain⟨r0,r1,r2,r3,me⟩:=pC.res;refine(adQ hk.row (ϊ _) (λ_=>rfl) (λp _=>apI p) (by rw[<-HX.e.2.2];omega)).mono ?_;rintro e w' ⟨v',rfl,ho,hb⟩;refine⟨v',rfl,cV.tt ho (λ_=>rfl) (λ_ _=>rfl) (λk hk=>?_),hb⟩;rcases hk with hk|hk|hk|hk
     ·exact tx pC.bo k hk
     ·exact tx pC.t k hk
     ·rw[hk];exact me.lt
     ·have:=rj.e k hk;have:=me.lt;omega)
    clear pC;go_region_held3 (λw'=> w'.cell? ⟨w.heap.size,2,H⟩=J (E (J ⟨rb,0,H⟩) gM c12)/\ w'.cell? ⟨wr.heap.size,2,H⟩=J (E A5 m5 c5))
     (first|exact⟨FG,En⟩ |exact⟨nT,an⟩ |exact⟨qM _,eu _⟩)
     (first
       | (go_at_call 179
          refine aG.e.mono ?_;rintro e w5 ⟨v9,rfl,r9,jR⟩;obtain⟨A7,c7,rfl,-⟩:=id r9;have nT: w5.cell? ⟨w.heap.size,2,H⟩=J (E (J ⟨rb,0,H⟩) gM c12):=(jR.cell (by simp;omega)).trans FG
          have an: w5.cell? ⟨wr.heap.size,2,H⟩=J (E A5 m5 c5):=(jR.cell (by simp)).trans En;have dg:=Lh.e.grown (jQ jR (ϊ _) H);have hg: w5.cell? ⟨rb,i * 3+2,H⟩=J (E A5 m5 c5):=dg.He (j:=2) HX.e.1 rfl;have hf: w5.frozen? ⟨rb,i * 3+2,H⟩=U:=dg.aga _;have qM:∀u,(w5.setCell ⟨rb,i * 3+2,H⟩ u).cell? ⟨w.heap.size,2,H⟩=J (E (J ⟨rb,0,H⟩) gM c12):=λu=>(Ai2 _ _ _ _ (by simp;omega)).trans nT
          have eu:∀u,(w5.setCell ⟨rb,i * 3+2,H⟩ u).cell? ⟨wr.heap.size,2,H⟩=J (E A5 m5 c5):=λu=>(Ai2 _ _ _ _ (by simp;omega)).trans an;have mz:=K (Ϗ r9 dg);clear jR r9 dg))
    go_wp2;go_roundw;case rel=>exact⟨i+1,by omega,by go_num,K ⟨_,mz.e.2.aoU HX.e.1 (by rw[<-HX.e.2.1];exact mz.e.1)⟩⟩
    case measure=>simp[ϑ];omega
   ·obtain rfl:i=gM:=by omega
    have Le:=K hC;obtain⟨wb,rfl⟩:∃wb:N,wb=wr:=⟨_,rfl⟩
    have k3: wb.cell? ⟨w.heap.size,3,H⟩=J (E qW n15 c15):=hC.box.cell 3;clear hC;go_wp2;clear k3;go_loopw [39] (λu wr=>∃k:Nat,k<=n15/\u=Y I k/\Hid (∃nh,CI No b w wr w.heap.size s1 s2 (E A9 n9 c9) (E kL i c12) (E qW n15 c15) lT nh)) (λu _=>n15 - (ϑ u).toNat);case atStart=>exact⟨0,ϛ _,rfl,K ⟨ts,Le.e⟩⟩
    case round=>
     obtain⟨k,hk,rfl,nh,hC⟩:=hrel;by_cases ao:k<n15
     ·obtain⟨rb,rfl⟩:=JG hC.t (by omega);have vp:n15=nh.length:=yq hC.t;obtain⟨⟨x,kv⟩,hx⟩:∃p,nh[k]?=J p:=⟨_,Ñ (by omega)⟩
      have cP:=hC.tp _ (ϡ hx);simp only at cP;have hxs:x.pieces.length<=3:=by have:x∈b.aI:=(by rw[<-hC.oh];exact ô.2 ⟨_,ϡ hx,rfl⟩);have:=(HV.e.tape x this).2;have:=HV.e.np;omega
      obtain⟨kn,vo⟩:∃k,k=x.pieces:=⟨_,rfl⟩
      rw[<-vo] at cP hxs;obtain⟨m5,ta⟩:∃m,m=kn.length:=⟨_,rfl⟩
      obtain⟨A5,c5,rfl,-⟩:=id cP;rw[<-ta] at cP hxs hx;have g0: wr.cell? ⟨rb,k * 3,H⟩=J (E A5 m5 c5):=hC.Hf (j:=0) hx rfl;have g1: wr.cell? ⟨rb,k * 3+1,H⟩=J (Y I x.sum.lo):=hC.Hf (j:=1) hx rfl;have g2: wr.cell? ⟨rb,k * 3+2,H⟩=J (Y I x.sum.hi):=hC.Hf (j:=2) hx rfl;have nP:rb<wr.heap.size:=tx hC.t rb rfl;have Cd:w.heap.size<rb:=by have:=dX hC.t rb rfl;have:=hC.g1;have:=hC.g2;omega
      have HX:=K (Ϗ hx (Ϗ vo ta));have Lo:=K cP;have Jm:=K hC;clear hx cP hC vo ta vp;go_wp2;have pC:=Jm.e.grown (W':=(wr.alloc (Ξ #[E A5 m5 c5,Y I x.sum.lo,Y I x.sum.hi] 95)).drew) (rH wr _ H);have Lh:=K pC;have FG:(wr.alloc (Ξ #[E A5 m5 c5,Y I x.sum.lo,Y I x.sum.hi] 95)).drew.cell? ⟨w.heap.size,3,H⟩=J (E (J ⟨rb,0,H⟩) n15 c15):=pC.box.cell 3;have En:(wr.alloc (Ξ #[E A5 m5 c5,Y I x.sum.lo,Y I x.sum.hi] 95)).drew.cell? ⟨wr.heap.size,0,H⟩=J (E A5 m5 c5):=(Bk.new wr _ _).cell 0;have aG:Hid (ύ prog 180 #[E A5 m5 c5] (wr.alloc (Ξ #[E A5 m5 c5,Y I x.sum.lo,Y I x.sum.hi] 95)).drew λe w'=>∃v',e=Ω v'/\
               cV w' (sE No w.heap.size (E kL i c12) (E (J ⟨rb,0,H⟩) n15 c15)) 1 bI v' kn/\Γ (wr.alloc (Ξ #[E A5 m5 c5,Y I x.sum.lo,Y I x.sum.hi] 95)).drew.heap.size (wr.alloc (Ξ #[E A5 m5 c5,Y I x.sum.lo,Y I x.sum.hi] 95)).drew w'):=K (by
       have hk:=Lo.e.grown (w':=(wr.alloc (Ξ #[E A5 m5 c5,Y I x.sum.lo,Y I x.sum.hi] 95)).drew) (rH wr _ H) (by simp);obtain⟨r0,r1,r2,r3,me⟩:=pC.res;refine(adL (f:=λn=> [Y I n]) hk.row (ϊ _) (λ_=>rfl) (λp _=>ajw p) (by rw[<-HX.e.2.2];omega)).mono ?_;rintro e w' ⟨v',rfl,ho,hb⟩;refine⟨v',rfl,cV.tt ho (λ_=>rfl) (λ_ _=>rfl) (λk hk=>?_),hb⟩;rcases hk with hk|hk|hk|hk
       ·exact tx pC.bo k hk
       ·exact tx pC.t k hk
       ·rw[hk];exact me.lt
       ·have:=rj.e k hk;have:=me.lt;omega)
      clear pC;go_region_held3 (λw'=> w'.cell? ⟨w.heap.size,3,H⟩=J (E (J ⟨rb,0,H⟩) n15 c15)/\ w'.cell? ⟨wr.heap.size,0,H⟩=J (E A5 m5 c5))
       (first|exact⟨FG,En⟩ |exact⟨nT,an⟩ |exact⟨qM _,eu _⟩)
       (first
               | (go_at_call 180
                  refine aG.e.mono ?_;rintro e w5 ⟨v9,rfl,r9,jR⟩;obtain⟨A7,c7,rfl,-⟩:=id r9;have nT: w5.cell? ⟨w.heap.size,3,H⟩=J (E (J ⟨rb,0,H⟩) n15 c15):=(jR.cell (by simp;omega)).trans FG
                  have an: w5.cell? ⟨wr.heap.size,0,H⟩=J (E A5 m5 c5):=(jR.cell (by simp)).trans En;have dg:=Lh.e.grown (jQ jR (ϊ _) H);have hg: w5.cell? ⟨rb,k * 3,H⟩=J (E A5 m5 c5):=dg.Hf (j:=0) HX.e.1 rfl;have hf: w5.frozen? ⟨rb,k * 3,H⟩=U:=dg.agb _;have qM:∀u,(w5.setCell ⟨rb,k * 3,H⟩ u).cell? ⟨w.heap.size,3,H⟩=J (E (J ⟨rb,0,H⟩) n15 c15):=λu=>(Ai2 _ _ _ _ (by simp;omega)).trans nT
                  have eu:∀u,(w5.setCell ⟨rb,k * 3,H⟩ u).cell? ⟨wr.heap.size,0,H⟩=J (E A5 m5 c5):=λu=>(Ai2 _ _ _ _ (by simp;omega)).trans an;have mz:=K (Ϗ r9 dg);clear jR r9 dg))
      go_wp2;go_roundw;case rel=>exact⟨k+1,by omega,by go_num,K ⟨_,mz.e.2.aoW HX.e.1 (by rw[<-HX.e.2.1];exact mz.e.1)⟩⟩
      case measure=>simp[ϑ];omega
     ·obtain rfl:k=n15:=by omega
      have q0:=hC.box.cell 0;have q1:=hC.box.cell 1;have q2:=hC.box.cell 2;have q3:=hC.box.cell 3;obtain⟨r0,r1,r2,r3,me⟩:=hC.res;have p0:=me.cell 0;have p1:=me.cell 1;have p2:=me.cell 2;have p3:=me.cell 3;have f0:=me.frozen 0;have f1:=me.frozen 1;have f2:=me.frozen 2;have f3:=me.frozen 3;have sd:w.heap.size+1<wr.heap.size:=me.lt;have Jm:=K hC;clear hC;have mf:=((((me.set 0 (Y I b.ab)).set 1 (E A9 n9 c9)).set 2 (E kL i c12)).set 3 (E qW k c15));have y0:=mf.cell 0;have y1:=mf.cell 1;have y2:=mf.cell 2;have y3:=mf.cell 3;have RN:=K ((((Jm.e.J3 (i:=0) (u:=Y I b.ab) (by omega)).J3 (i:=1) (u:=E A9 n9 c9) (by omega)).J3 (i:=2) (u:=E kL i c12) (by omega)).J3 (i:=3) (u:=E qW k c15) (by omega))
      clear me mf;go_wp2;refine bodyPost_ret (v:=η #[Y I b.ab,E A9 n9 c9,E kL i c12,E qW k c15]) (by simp[results,Tryz.results136,go_sem,y0,y1,y2,y3]) rfl ⟨_,_,_,_,_,rfl,RN.e.acQ ZJ.e ZS.e rj.e,RN.e.below⟩
def oe{P:Program}{ops:Array Oper}{a:Act}{w:N}{ψ:Act->N->Prop}{Q:Exit->Act->N->Prop}{ζ:Prop}(hg:o.guard=H)(s x:Operand)(t:ώ)
 (ho:o.op=.call {callee:=.builtin .append,args:=#[s,x],argTypes:=#[t,t]})
 (base:Nat)(e:ώ)(i:ă)(υ:z)(size bytes:Nat)(ht:P.underlying t=J (.slice e))(hi: P.info? e=J i)(hz:i.zero=J υ)
 (vB:i.size=size)(Ey:i.bytes=bytes)(Pc:υ.cells.size=size)(aN:0<size)
 (v:z)(n:Nat)(xs:List z)(V:a.eval s=v)(aH:w.ownsRow base e size v n xs)
 (ad:ϖ)(m c:Nat)(news:List z)(hx:a.eval x=E (J ad) m c)(hl:news.length=m * size)(IP:∀j u,news[j]?=J u-> w.cell? (ad.add j)=J u)(h1:∀u∈news,u.oneCell'=D)
 (Ia:n+m<=ϕ)(Gy:(n+m) * bytes<=140737488355328)(Eu:base<=w.heap.size)
 (h:∀v' w',w'.ownsRow base e size v' (n+m) (xs++news)->w.grownBy w' v.ownBlock->ψ (a.put o.dst v') w'):if ϸ o (À ops a.tmps)=D then ĵ P o a w ψ Q else ζ:=by
 have hw:ϸ o (À ops a.tmps)=D:=by simp[ϸ,hg]
 rw[if_pos hw];exact wp_append_own w s x t ho base e i υ size bytes ht hi hz vB Ey Pc aN v n xs V aH ad m c news hx hl IP h1 Ia Gy Eu λv' w' h2 h3 _=>h v' w' h2 h3
def fH(b:eR)(x:bN):eR:={b with aC:=b.aC++ [x]}
def qq:List Int->Int->List Int
 | [],x=> [x]
 |a::l,x=>if a<x then a::qq l x else if a=x then a::l else x::a::l
def agJ{x:Int}:∀ {l:List Int},l.Pairwise (· < ·)->(qq l x).Pairwise (· < ·)/\∀y,y∈qq l x↔y∈l\/y=x
 | [],_=>by simp[qq]
 |a::l,h=>by
  rw[Ai9] at h;obtain⟨h1,h2⟩:=agJ (x:=x) h.2;unfold qq;split
  ·refine⟨Ai9.2 ⟨λy hy=>?_,h1⟩,λy=>?_⟩
   ·rcases(h2 y).1 hy with hy|rfl
    ·exact h.1 y hy
    ·assumption
   ·rw[Ϡ,h2,Ϡ,or_assoc]
  ·split
   ·rename_i e;subst e;exact⟨Ai9.2 h,λy=>by rw[Ϡ];constructor<;>(rintro(h|h)<;>simp_all)⟩
   ·refine⟨Ai9.2 ⟨λy hy=>?_,Ai9.2 h⟩,λy=>by rw[Ϡ,or_comm]⟩;rcases Ϡ.1 hy with rfl|hy
    ·omega
    ·have:=h.1 y hy;omega
def aav{x:Int}:∀ {l:List Int} {k:Nat},(∀(q:Nat) (y:Int),q<k->l[q]?=J y->y<x)->k<=l.length->(∀y,l[k]?=J y->¬y<x)->qq l x=if l[k]?=J x then l else l.take k++x::l.drop k
 | [],k,_,hk,_=>by simp at hk;subst hk;simp[qq]
 |a::l,0,_,_,h=>by
  have:=h a rfl;unfold qq;rw[if_neg this];by_cases e:a=x
  ·simp[e]
  ·simp[e]
 |a::l,k+1,h0,hk,h=>by have ha:=h0 0 a (by omega) rfl;unfold qq;rw[if_pos ha,aav (k:=k) (λq y hq hy=>h0 (q+1) y (by omega) (by simpa using hy)) (by simpa using hk) (λy hy=>h y (by simpa using hy))];simp only[List.getElem?_cons_succ,ñ,õ];split<;>simp
def wz(l:List Int):List Int:=l.foldl qq []
def as6(l:List Int):LP (wz l) l:=by
 have key:∀(l m:List Int),m.Pairwise (· < ·)->(l.foldl qq m).Pairwise (· < ·)/\∀y,y∈l.foldl qq m↔y∈m\/y∈l:=by
  intro l;induction l with
  |nil=>intro m h;simp[h]
  |cons a l ih=>intro m h;obtain⟨h1,h2⟩:=agJ (x:=a) h;obtain⟨h3,h4⟩:=ih _ h1;exact⟨h3,λy=>by rw[List.foldl_cons,h4,h2,Ϡ,or_assoc]⟩
 obtain⟨h1,h2⟩:=key l [] List.Pairwise.nil;exact⟨h1,λy=>by unfold wz;rw[h2];simp⟩
def as8(l:List Cut):wz (l.map (·.bt))=jX l:=atg (as6 _) (Y2 l)
def apQ(l:List Int)(x:Int):(qq l x).length<=l.length+1:=by
 induction l with
 |nil=>simp[qq]
 |cons a l ih=>unfold qq;split<;>(try split)<;>simp<;>omega
def as5(l:List Int):(wz l).length<=l.length:=by
 have key:∀(l m:List Int),(l.foldl qq m).length<=m.length+l.length:=by
  intro l;induction l with
  |nil=>simp|cons a l ih=>intro m;have:=ih (qq m a);have:=apQ m a;simp only[List.foldl_cons,Ė];omega
 simpa [wz] using key l []
def as7(l:List Int)(x:Int):wz (l++ [x])=qq (wz l) x:=by simp[wz]
def ata{w1:N}{base:Nat}{sz:Nat}(h:w.ownsRow base e sz (E (J ⟨g,0,H⟩) n cap) n xs)(hk:w1.heap[g]?=w.heap[g]?):w1.ownsRow base e sz (E (J ⟨g,0,H⟩) n cap) n xs:=by
 refine⟨h.1,?_⟩;rcases h.2 with⟨h,_⟩ | ⟨g',ze,cur,e,ky,kU,h4⟩
 ·cases h
 ·injection e with e1 e2 e3;cases e1;exact .inr ⟨g,ze,cur,by rw[e3],ky,hk.trans kU,h4⟩
def agI{wo hs:N}(hw:wo.ownsRow w.heap.size 3 1 (E (J ⟨g,0,H⟩) m cap) os.length (os.map (Y I)))(hV:hs.heap=wo.heap)(hm:os.length=m)
 (T:∀i,i<m->∃ad x cs,J (⟨g,0,H⟩:ϖ)=J ad/\ad.block<wo.heap.size/\os[i]?=J x/\bI x cs/\cs.length=1/\∀(j:Nat) (u:z),cs[j]?=J u-> wo.cell? (ad.add (i * 1+j))=J u)(hj:m=j+d)(hB:φ w hs)(hg:w.heap.size<=g):
 (∀x:Int,(hs.drew.alloc (Ξ #[Y I x] 3)).ownsRow hs.heap.size 3 1 (E (J ⟨hs.heap.size,0,H⟩) 1 1) 1 [Y I x])/\
 ((os.drop j).map (Y I)).length=d * 1/\
 (∀(x:Int) (q:Nat) (u:z),((os.drop j).map (Y I))[q]?=J u->(hs.drew.alloc (Ξ #[Y I x] 3)).cell? ((⟨g,j,H⟩:ϖ).add q)=J u)/\
 (∀u∈(os.drop j).map (Y I),u.oneCell'=D)/\
 ∀(x:Int) {v1:z} {w1:N},w1.ownsRow hs.heap.size 3 1 v1 (1+d) ([Y I x]++(os.drop j).map (Y I))->(hs.drew.alloc (Ξ #[Y I x] 3)).grownBy w1 (Value.slice (J ⟨hs.heap.size,0,H⟩) 1 1).ownBlock->
  w1.ownsRow w.heap.size 3 1 (E (J ⟨g,0,H⟩) j cap) j ((os.take j).map (Y I))/\φ w w1/\w1.ownsRow hs.heap.size 3 1 v1 (1+d) ([Y I x]++(os.drop j).map (Y I)):=by
 have hgs:g<hs.heap.size:=by
  rw[hV];rcases hw.2 with⟨h,_⟩ | ⟨g',ze,cur,e,-,hk,-⟩
  ·cases h
  ·injection e with e1 e2 e3;cases e1;exact(Ϝ.1 hk).1
 have aN:=hB.size;refine⟨λx=>⟨rfl,.inr ⟨hs.heap.size,1,_,rfl,ϊ _,Ľ _ _,ϊ _,by unfold ϕ;omega,rfl,rfl⟩⟩,by simp[hm];omega,λx q u hu=>?_,λu hu=>by obtain⟨y,_,rfl⟩:=ô.1 hu;rfl,λx v1 w1 ho fD=>⟨?_,?_,ho⟩⟩
 ·rw[ú] at hu;obtain⟨y,hy,rfl⟩:=Option.map_eq_some_iff.1 hu;rw[List.getElem?_drop] at hy;have ao:j+q<m:=by rw[<-hm];exact(Ϫ.1 hy).1
  obtain⟨ad,y',cs,e,aE,fp,rfl,-,hc⟩:=T (j+q) ao;cases e;rw[hy] at fp;cases fp;have:=hc 0 _ rfl;rw[show(j+q) * 1+0=j+q by omega] at this
  rw[show(⟨g,j,H⟩:ϖ).add q=(⟨g,0,H⟩:ϖ).add (j+q) by unfold Addr.add;split<;>split<;>simp_all];refine(ð _ _ _ (by rw[b9];exact hgs)).trans ?_;exact(Ai1 (by show hs.heap[_]?=wo.heap[_]?;rw[hV])).trans this
 ·have hk:w1.heap[g]?=wo.heap[g]?:=by
   refine(fD.block g (by simp;omega) (by simp[Value.ownBlock];omega)).trans ?_;rw[<-hV];exact((ό hs.heap.size hs.drew).alloc (ϊ _) _).block g hgs
  have h1:=ata (hm▸hw) hk;have:=amX h1 (show j<=m by omega)
  rw[Ì,<-List.map_take] at this;exact this
 ·exact((dT hB).alloc aN _).grown fD (by simp;omega) (λk hk=>by simp[Value.ownBlock] at hk;omega)
def ab0{l:List z}(h:l.length=d * 1):([Y I x]++l).length=(1+d) * 1:=by simp[h];omega
def ab1{l:List z}(h:∀u∈l,u.oneCell'=D):∀u∈ [Y I x]++l,u.oneCell'=D:=by
 intro u hu;rcases ĉ.1 hu with hu|hu
 ·rw[Ô] at hu;subst hu;rfl
 ·exact h u hu
def abZ{base:Nat}{l:List z}(h:w.ownsRow base 3 1 (E (J ⟨g,0,H⟩) (1+d) c) (1+d) ([Y I x]++l))(hl:l.length=d * 1):∀(q:Nat) (u:z),([Y I x]++l)[q]?=J u-> w.cell? ((⟨g,0,H⟩:ϖ).add q)=J u:=by
 intro q u hu;have ao:=(Ϫ.1 hu).1
 rw[Þ,hl] at ao;rw[kP,h.cellAt q (by simpa using ao)];exact hu
def ab2{base:Nat}(h:w.ownsRow base 3 1 v (j+(1+d)) ((os.take j).map (Y I)++([Y I x]++(os.drop j).map (Y I))))(hj:m=j+d)(hm:os.length=m):
 w.ownsRow base 3 1 v (os.take j++x::os.drop j).length ((os.take j++x::os.drop j).map (Y I)):=by
 have e1:(os.take j++x::os.drop j).length=j+(1+d):=by simp;omega
 have e2:(os.take j++x::os.drop j).map (Y I)=(os.take j).map (Y I)++([Y I x]++(os.drop j).map (Y I)):=by rw[È,Ę];rfl
 rw[e1,e2];exact h
def as9(hl:Row w B 1 bI v l)(hB:B<=w.heap.size)(zx:l.length<=1000):
 ύ prog 106 #[v] w λe w'=>∃u,e=Ω u/\w'.ownsRow w.heap.size 3 1 u (wz l).length ((wz l).map (Y I))/\φ w w':=by
 obtain⟨i0,cJ,cK,aO,aZ⟩:=Ö Pd;obtain⟨A,n,c,rfl,e1,ey,dg,T⟩:=hl.Φ;unfold ϕ at dg;have hn:n<=1000:=by omega
 have HE:=K e1;have H1:=K T;have HI:=K (Ϗ cJ (Ϗ cK (Ϗ aO aZ)));clear hl T e1 zx cJ cK aO aZ;go_enter func106,Tryz.ntmps106;go_wp2;go_loopw [3,4,5] (λo u k wr=>∃i:Nat,i<=n/\u=Y I i/\Hid (wr.ownsRow w.heap.size 3 1 o (wz (l.take i)).length ((wz (l.take i)).map (Y I)))/\φ w wr) (λ_ u _ _=>n - (ϑ u).toNat)
 case atStart=>exact⟨0,ϛ _,rfl,K ⟨by simp[wz],.inl ⟨rfl,by simp[wz]⟩⟩,ό _ _⟩
 case round=>
  obtain⟨wo,rfl⟩:∃wo:N,wo=wr:=⟨_,rfl⟩
  obtain⟨i,hi,rfl,aH,hb⟩:=hrel;have HB:=K hb;have aN:=hb.size;by_cases ao:i<n
  ·obtain⟨ad,x,cs,rfl,aE,hx,rfl,-,aq⟩:=H1.e i ao;have st:Δ B w wo:=Δ.aJ hb hB;have x0: wo.cell? (ad.add i)=J (Y I x):=by have:=cA aq st aE (u:=Y I x) rfl;rwa[Ì] at this
   obtain⟨os,Kk⟩:∃os,os=wz (l.take i):=⟨_,rfl⟩
   have agx:wz (l.take (i+1))=qq os x:=(by rw[pT hx,as7,Kk]);have hol:os.length<=i:=(by rw[Kk];have:=as5 (l.take i);simp at this;omega);rw[<-Kk] at aH;have aby:=aH.e;have row:=CF aby;obtain⟨A3,m,c3,rfl,eo,qy,qz,E6⟩:=row.Φ;unfold ϕ at qz;have hm:m<=1000:=by omega
   have HR:=K (Ϗ hx (Ϗ agx (Ϗ eo E6)));have HW:=K aby;clear hb aq st hx Kk agx row eo E6 hol aH aby;go_wp2;go_loopw [5] (λk wr=>∃j:Nat,j<=m/\k=Y I j/\Hid (∀(q:Nat) (y:Int),q<j->os[q]?=J y->y<x)/\∃nq,wr=wo.drewN nq) (λk _=>m - (ϑ k).toNat)
   case atStart=>exact⟨0,ϛ _,rfl,K λq y hq=>by omega,0,rfl⟩
   case round=>
    obtain⟨j,hj,rfl,bS,nq0,rfl⟩:=hrel;by_cases Vp:j<m
    ·obtain⟨ad3,y,TL,akW,auu,hy,rfl,-,xm⟩:=HR.e.2.2.2 j Vp;subst akW;have y0: wo.cell? (ad3.add j)=J (Y I y):=by have:=xm 0 _ rfl;simpa using this
     have aas:(j:Int)<m:=(by omega);have qv:((j:Int)==m)=U:=(by simp;omega);have HY:=K hy;clear xm hy;by_cases hyx:y<x
     ·go_wp2;go_quiet (fail);go_wp2;go_roundw;case rel=>exact⟨j+1,by omega,by go_num,K λq υ hq hz=>by
          rcases Ϯ.1 hq with h|rfl
          ·exact bS.e q υ h hz
          ·rw[HY.e] at hz;cases hz;exact hyx,_,rfl⟩
      case measure=>simp[ϑ];omega
     ·by_cases abY:y=x
      ·subst abY;have aw:(y !=y)=U:=(by simp);go_wp2;go_quiet (fail);go_wp2;go_quiet (fail);go_wp2;go_roundw;case rel=>exact⟨i+1,by omega,by go_num,K (by
           rw[HR.e.2.1,aav bS.e (by have:=HR.e.2.2.1;omega) (λυ hz=>by rw[HY.e] at hz;cases hz;omega),if_pos HY.e];exact HW.e),jr HB.e _⟩
       case measure=>simp[ϑ];omega
      ·have aw:(y !=x)=D:=by simp[abY]
       go_wp2;go_quiet (fail);go_wp2;go_quiet (fail);go_wp2;generalize hV:Ai3 (Ai3 (Ai3 _ _) _) _=hs;have vY:Hid (φ w hs):=K (by rw[<-hV];exact jr (jr (jr HB.e _) _) _)
       have HHV:Hid (hs.heap=wo.heap):=K (by rw[<-hV];rfl);have x0V: hs.cell? (ad.add i)=J (Y I x):=(by rw[<-hV];exact x0);clear hV x0 y0;have agF:w.heap.size<=hs.heap.size:=vY.e.size;have HS:Hid (qq os x=os.take j++x::os.drop j):=K (by rw[aav bS.e (by have:=HR.e.2.2.1;omega) (λυ hz=>by rw[HY.e] at hz;cases hz;omega),if_neg (by rw[HY.e];simp[abY])])
       have qu:j<=c3:=(by omega);have hcj:¬c3=j:=(by omega);rcases HW.e.2 with⟨h,_⟩ | ⟨g,cap,cur,e,ky,hk,h4,h5,h6,h7⟩
       ·cases h
       injection e with e1 e2 e3;cases e1;subst e3;have HV:=K (agI (j:=j) (d:=m - j) HW.e HHV.e (HR.e.2.2.1) HR.e.2.2.2 (by omega) (vY.e) (show w.heap.size<=g from ky))
       have agp:w.heap.size<=g:=ky;clear ky hk h4 h5 h6 h7 e2;go_region_law (first
           | (refine oe rfl (.tmp 51) (.tmp 54) 33 rfl hs.heap.size 3 i0 (Y I 0) 1 8 (χ Tryz.underlying33) HI.e.1 HI.e.2.1 HI.e.2.2.1 HI.e.2.2.2 rfl (by decide) _ 1 _ rfl (HV.e.1 x) ⟨g,j,H⟩ (m - j) (c3 - j) ((os.drop j).map (Y I)) rfl HV.e.2.1 (HV.e.2.2.1 x) HV.e.2.2.2.1 (by simp only[ϕ];omega) (by omega) (by simp) ?_
              intro v1 w1 b7 cW;have gC:=K (HV.e.2.2.2.2 x b7 cW);rcases b7.2 with⟨_,h0⟩ | ⟨g5,c5,aex,rfl,-⟩
              ·omega
              clear b7 cW)
           | (refine oe rfl (.tmp 46) (.tmp 55) 33 rfl w.heap.size 3 i0 (Y I 0) 1 8 (χ Tryz.underlying33) HI.e.1 HI.e.2.1 HI.e.2.2.1 HI.e.2.2.2 rfl (by decide) _ j _ rfl gC.e.1 ⟨g5,0,H⟩ (1+(m - j)) c5 ([Y I x]++(os.drop j).map (Y I)) rfl (ab0 HV.e.2.1) (abZ gC.e.2.2 HV.e.2.1) (ab1 HV.e.2.2.2.1) (by simp only[ϕ];omega) (by omega) gC.e.2.1.size ?_
              intro v2 w2 gv xA;have sB:=K (gC.e.2.1.grown xA gC.e.2.1.size (λk hk=>dX gC.e.1 k hk))
              have wA:=K gv;clear gv xA))
       all_goals
           go_wp2;go_roundw;case rel=>exact⟨i+1,by omega,by go_num,K (by
            rw[HR.e.2.1,HS.e];exact ab2 wA.e (by omega) HR.e.2.2.1),sB.e⟩
           case measure=>simp[ϑ];omega
    ·obtain rfl:j=m:=by omega
     have hjj:((j:Int)==j)=D:=(by simp);have VH:¬ (j:Int)<j:=(by omega);go_wp2;go_quiet (fail);go_wp2;go_quiet (fail);go_wp2;generalize hV:Ai3 (Ai3 (Ai3 _ _) _) _=hs;have vY:Hid (φ w hs):=K (by rw[<-hV];exact jr (jr (jr HB.e _) _) _)
     have HHV:Hid (hs.heap=wo.heap):=K (by rw[<-hV];rfl);have x0V: hs.cell? (ad.add i)=J (Y I x):=(by rw[<-hV];exact x0);clear hV x0;have agF:w.heap.size<=hs.heap.size:=vY.e.size;have HS:Hid (qq os x=os.take j++x::os.drop j):=K (by
      have hl:=HR.e.2.2.1;have br:os[j]?=H:=List.getElem?_eq_none (by omega)
      rw[aav bS.e (by omega) (λυ hz=>by rw[br] at hz;cases hz),if_neg (by rw[br];simp)])
     rcases HW.e.2 with⟨h,h'⟩ | ⟨g,cap,cur,e,ky,hk,h4,h5,h6,h7⟩
     ·injection h with e1 e2 e3;subst e1 e2 e3;clear h';have Kk:os=[]:=List.eq_nil_of_length_eq_zero HR.e.2.2.1;have HOS:=K Kk;clear Kk;go_region_law (first
          | (refine oe rfl (.tmp 46) (.tmp 55) 33 rfl w.heap.size 3 i0 (Y I 0) 1 8 (χ Tryz.underlying33) HI.e.1 HI.e.2.1 HI.e.2.2.1 HI.e.2.2.2 rfl (by decide) _ 0 [] rfl ⟨rfl,.inl ⟨rfl,rfl⟩⟩ ⟨hs.heap.size,0,H⟩ 1 1 [Y I x] rfl rfl (λq u hu=>by
              match q,hu with
              |0,hu=>simp at hu;subst hu;simp[go_sem,Addr.add]) (by simp[Value.oneCell']) (by simp only[ϕ];omega) (by omega) (by simp;omega) ?_
             intro v2 w2 gv xA;have wA:=K gv;have jo:=K xA;clear gv xA))
      all_goals
          go_wp2;go_roundw;case rel=>exact⟨i+1,by omega,by go_num,K (by
           rw[HR.e.2.1,HS.e,HOS.e];exact wA.e),(show φ w _ from(dT vY.e).alloc agF _).grown jo.e (by simp;omega) (λk hk=>by cases(show(H:Option Nat)=J k from hk))⟩
          case measure=>simp[ϑ];omega
     ·injection e with e1 e2 e3;cases e1;subst e3;have agp:w.heap.size<=g:=ky;clear hk h4 h6 h7 e2;have HV:=K (agI (j:=j) (d:=0) HW.e HHV.e (HR.e.2.2.1) HR.e.2.2.2 rfl (vY.e) agp);have G4:os.drop j=[]:=List.drop_of_length_le (by have:=HR.e.2.2.1;omega)
      have HDR:=K G4;by_cases hcj:c3=j
      ·subst hcj;clear ky G4 h5;go_region_law (first
           | (refine oe rfl (.tmp 51) (.tmp 54) 33 rfl hs.heap.size 3 i0 (Y I 0) 1 8 (χ Tryz.underlying33) HI.e.1 HI.e.2.1 HI.e.2.2.1 HI.e.2.2.2 rfl (by decide) _ 1 _ rfl (HV.e.1 x) ⟨g,0,H⟩ 0 0 ((os.drop c3).map (Y I)) rfl HV.e.2.1 (λq u hu=>by rw[HDR.e] at hu;simp at hu) HV.e.2.2.2.1 (by simp only[ϕ];omega) (by omega) (by simp) ?_
              intro v1 w1 b7 cW;have gC:=K (HV.e.2.2.2.2 x b7 cW);rcases b7.2 with⟨_,h0⟩ | ⟨g5,c5,aex,rfl,-⟩
              ·omega
              clear b7 cW)
           | (refine oe rfl (.tmp 46) (.tmp 55) 33 rfl w.heap.size 3 i0 (Y I 0) 1 8 (χ Tryz.underlying33) HI.e.1 HI.e.2.1 HI.e.2.2.1 HI.e.2.2.2 rfl (by decide) _ c3 _ rfl gC.e.1 ⟨g5,0,H⟩ 1 c5 ([Y I x]++(os.drop c3).map (Y I)) rfl (ab0 HV.e.2.1) (abZ gC.e.2.2 HV.e.2.1) (ab1 HV.e.2.2.2.1) (by simp only[ϕ];omega) (by omega) gC.e.2.1.size ?_
              intro v2 w2 gv xA;have sB:=K (gC.e.2.1.grown xA gC.e.2.1.size (λk hk=>dX gC.e.1 k hk))
              have wA:=K gv;clear gv xA))
       all_goals
           go_wp2;go_roundw;case rel=>exact⟨i+1,by omega,by go_num,K (by
            rw[HR.e.2.1,HS.e];exact ab2 (d:=0) wA.e rfl HR.e.2.2.1),sB.e⟩
           case measure=>simp[ϑ];omega
      ·have qu:j<=c3:=qy;clear ky G4 h5;go_region_law (first
           | (refine oe rfl (.tmp 51) (.tmp 54) 33 rfl hs.heap.size 3 i0 (Y I 0) 1 8 (χ Tryz.underlying33) HI.e.1 HI.e.2.1 HI.e.2.2.1 HI.e.2.2.2 rfl (by decide) _ 1 _ rfl (HV.e.1 x) ⟨g,j,H⟩ 0 (c3 - j) ((os.drop j).map (Y I)) rfl HV.e.2.1 (λq u hu=>by rw[HDR.e] at hu;simp at hu) HV.e.2.2.2.1 (by simp only[ϕ];omega) (by omega) (by simp) ?_
              intro v1 w1 b7 cW;have gC:=K (HV.e.2.2.2.2 x b7 cW);rcases b7.2 with⟨_,h0⟩ | ⟨g5,c5,aex,rfl,-⟩
              ·omega
              clear b7 cW)
           | (refine oe rfl (.tmp 46) (.tmp 55) 33 rfl w.heap.size 3 i0 (Y I 0) 1 8 (χ Tryz.underlying33) HI.e.1 HI.e.2.1 HI.e.2.2.1 HI.e.2.2.2 rfl (by decide) _ j _ rfl gC.e.1 ⟨g5,0,H⟩ 1 c5 ([Y I x]++(os.drop j).map (Y I)) rfl (ab0 HV.e.2.1) (abZ gC.e.2.2 HV.e.2.1) (ab1 HV.e.2.2.2.1) (by simp only[ϕ];omega) (by omega) gC.e.2.1.size ?_
              intro v2 w2 gv xA;have sB:=K (gC.e.2.1.grown xA gC.e.2.1.size (λk hk=>dX gC.e.1 k hk))
              have wA:=K gv;clear gv xA))
       all_goals
           go_wp2;go_roundw;case rel=>exact⟨i+1,by omega,by go_num,K (by
            rw[HR.e.2.1,HS.e];exact ab2 (d:=0) wA.e rfl HR.e.2.2.1),sB.e⟩
           case measure=>simp[ϑ];omega
  ·obtain rfl:i=n:=by omega
   go_wp2;go_ret;refine⟨_,rfl,?_,HB.e⟩;have:=aH.e;rwa[Õ (ò HE.e)] at this
def uR(c:Int):Bool:=decide (48<=c) && decide (c<=57)
def digit(c:Int)(w:N):ύ prog 207 #[.int .u8 c] w λe w'=>e=Ω (.bool (uR c))/\w=w':=by
 go_enter func207,Tryz.ntmps207;go_wp2;all_goals go_ret
 all_goals (refine⟨bU ?_,rfl⟩;unfold uR;first| (simp;done) | (simp[*];done) | (simp;omega))
def JN{s:ByteArray}(V:s.size<=ϕ)(w:N):
 ύ prog 186 #[.string s] w λe w'=>e=Ω (.bool (nU s.data.toList))/\w=w':=by
 unfold ϕ at V;by_cases h1:s.size<1
 ·go_enter func186,Tryz.ntmps186;go_wp2;go_ret;refine⟨bU ?_,rfl⟩;have e:cj s.data.toList.length 1 10=U:=by unfold cj;simp;omega
  unfold nU;rw[e,Bool.and_false]
 by_cases h2:10<s.size
 ·go_enter func186,Tryz.ntmps186;go_wp2;go_ret;refine⟨bU ?_,rfl⟩;have e:cj s.data.toList.length 1 10=U:=by unfold cj;simp;omega
  unfold nU;rw[e,Bool.and_false]
 have hlen:cj s.data.toList.length 1 10=D:=by unfold cj;simp;omega
 have VE:cj (s.size:Int) 1 10=D:=by simpa using hlen
 have HL:=K VE;clear VE;have h0:0<s.size:=by omega
 cases hd:uR s[0].toNat with
 |true=>
  go_enter func186,Tryz.ntmps186;go_wp2_with (first
   | (go_at_call 207;refine(digit _ _).mono ?_;rintro e w' ⟨rfl,rfl⟩;try rw[hd]))
  go_ret;refine⟨bU (Eq.symm (PU (DQ h0) ?_)),rfl⟩;simp only[uR,Ä,decide_eq_true_eq] at hd;simp only[kh,Ain,Aio,decide_eq_false_iff_not];omega
 |false=>
  go_enter func186,Tryz.ntmps186;go_wp2_with (first
   | (go_at_call 207;refine(digit _ _).mono ?_;rintro e w' ⟨rfl,rfl⟩;try rw[hd]))
  go_loop [3] (λk=>∃n:Nat,n<=s.size/\k=Y I n/\∀j c,j<n->s.data.toList[j]?=J c->kh j c.toNat=D) (λk=>s.size - (ϑ k).toNat)
  case atStart=>exact⟨0,ϛ _,rfl,λj _ hj=>by omega⟩
  case round=>
   obtain⟨n,hn,rfl,bS⟩:=hrel;have HA:=K bS;clear bS;by_cases ao:n<s.size
   ·have bad:kh n s[n].toNat=U->Ending.returned (.bool U)=Ω (.bool (nU s.data.toList)):=λh=>bU (Eq.symm (PU (DQ ao) h));have gW:=K bad;have hz:n=0->uR s[n].toNat=U:=λe=>by subst e;exact hd
    have HZ:=K hz;clear bad hz;have zr:kh n s[n].toNat=D->∀j c,j<n+1->s.data.toList[j]?=J c->kh j c.toNat=D:=λh j c hj qu=>by
     rcases Ϯ.1 hj with h'|rfl
     ·exact HA.e j c h' qu
     ·have e:c=s[j]:=by simpa using((DQ ao).symm.trans qu).symm
      subst e;exact h
    have RJ:=K zr;clear zr;cases xq:uR s[n].toNat with
    |true=>
     have hc:kh n s[n].toNat=D:=by
      have kV:n≠0:=λe=>by have:=HZ.e e;rw[xq] at this;cases this
      simp only[uR,Ä,decide_eq_true_eq] at xq;simp only[kh,Bool.or_eq_true,Ä,decide_eq_true_eq];omega
     have HC:=K hc;clear hc;go_wp2_with (first
      | (go_at_call 207;refine(digit _ _).mono ?_;rintro e w' ⟨rfl,rfl⟩;try rw[xq]))
     go_round
     case rel=>exact⟨n+1,by omega,by go_num,RJ.e HC.e⟩
     case measure=>simp[ϑ];omega
    |false=>
     have oN:¬ (48<=s[n].toNat/\s[n].toNat<=57):=by
      intro h;have:uR s[n].toNat=D:=by simp only[uR,Ä,decide_eq_true_eq];omega
      rw[this] at xq;cases xq
     by_cases ha:s[n].toNat<97
     ·have hc:kh n s[n].toNat=U:=by
       simp only[kh,Ain,Aio,decide_eq_false_iff_not];omega
      have R:=K (gW.e hc);clear hc;go_wp2_with (first
       | (go_at_call 207;refine(digit _ _).mono ?_;rintro e w' ⟨rfl,rfl⟩;try rw[xq]))
      go_ret;exact⟨R.e,rfl⟩
     by_cases hb:122<s[n].toNat
     ·have hc:kh n s[n].toNat=U:=by
       simp only[kh,Ain,Aio,decide_eq_false_iff_not];omega
      have R:=K (gW.e hc);clear hc;go_wp2_with (first
       | (go_at_call 207;refine(digit _ _).mono ?_;rintro e w' ⟨rfl,rfl⟩;try rw[xq]))
      go_ret;exact⟨R.e,rfl⟩
     have hc:kh n s[n].toNat=D:=(by simp only[kh,Bool.or_eq_true,Ä,decide_eq_true_eq];omega);have HC:=K hc;clear hc;go_wp2_with (first
      | (go_at_call 207;refine(digit _ _).mono ?_;rintro e w' ⟨rfl,rfl⟩;try rw[xq]))
     go_round
     case rel=>exact⟨n+1,by omega,by go_num,RJ.e HC.e⟩
     case measure=>simp[ϑ];omega
   ·obtain rfl:n=s.size:=by omega
    go_wp2;go_ret;refine⟨bU ?_,rfl⟩;simp[nU,HL.e,MB s.data.toList 0 (λk c hk=>by
     have:=HA.e k c (by have:=(Ϫ.1 hk).1;simpa using this) hk;simpa using this)]
def rising{np:Nat}(hv:Row w B 1 bI v l)(hB:B<=w.heap.size)(kX:np<=ϕ):
 ύ prog 57 #[v,Y I np] w λe w'=>e=Ω (Y I (eN np H l))/\φ w w':=by
 obtain⟨A,n,c,rfl,hl,ey,hc,T⟩:=hv.Φ;unfold ϕ at hc kX;have KR:=K T;have KL:=K hl;clear hv T hl;go_enter func57,Tryz.ntmps57;go_wp2;go_loopw [4,5] (λr k wr=>∃j:Nat,j<=n/\k=Y I j/\r=Y I 0/\eN np H l=eN np (mY l j) (l.drop j)/\φ w wr) (λ_ k _=>n - (ϑ k).toNat)
 case atStart=>exact⟨0,ϛ _,rfl,rfl,rfl,ό _ _⟩
 case round=>
  obtain⟨j,hj,rfl,rfl,xP,hb⟩:=hrel;have RE:=K xP;have HB:=K hb;clear xP;by_cases oL:j<n
  ·obtain⟨kd,y,cs,rfl,rR,hy,rfl,-,aq⟩:=KR.e j oL;have st:Δ B w wr:=Δ.aJ hb hB;have ST:=K st;have q0:kd.block<wr.heap.size:=by have:=hb.size;omega
   have g1:=cA aq st rR rfl;rw[Ì] at g1;have HY:=K hy;clear hy aq st hb;cases dc:cj y 0 (np - 1) with
   |false=>
    go_wp2_with (first
     | (go_at_call 62;refine(oS _ _ _ _).mono ?_;rintro e w' ⟨rfl,rfl⟩))
    go_ret;refine⟨bm ?_,HB.e⟩;rw[RE.e,drop_cons HY.e];cases mY l j<;>simp[eN,dc]
   |true=>
    rcases Nat.eq_zero_or_pos j with wZ|wZ
    ·subst wZ;rw[show kd.add 0=kd from rfl] at g1;go_wp2_with (first
      | (go_at_call 62;refine(oS _ _ _ _).mono ?_;rintro e w' ⟨rfl,rfl⟩))
     go_quiet (fail);go_wp2;have hrel:eN np H l=eN np (mY l 1) (l.drop 1):=by rw[RE.e,drop_cons HY.e];simp[mY,eN,dc,HY.e]
     go_roundw;case rel=>exact⟨1,oL,by go_num,rfl,hrel,by first|exact HB.e|exact jr HB.e _⟩
     case measure=>simp[ϑ];omega
    ·obtain⟨q,rfl⟩:∃q,j=q+1:=⟨j - 1,by omega⟩
     obtain⟨fl,υ,TL,DY,Vs,hz,rfl,-,xm⟩:=KR.e q (by omega);cases DY;rw[show kd.add (q+1)=⟨kd.block,kd.off+(q+1),H⟩ from rfl] at g1;have g3:=cA xm ST.e rR rfl;rw[Ì] at g3;have HZ:=K hz;clear hz xm;have ig:decide ((0:Int)<((q+1:Nat):Int))=D:=by simp<;>omega
     by_cases sa:y<=υ
     ·have hd:decide (y<=υ)=D:=by simpa using sa
      go_wp2_with (first
          | (go_at_call 62;refine(oS _ _ _ _).mono ?_;rintro e w' ⟨rfl,rfl⟩))
      go_quiet (fail);go_wp2;go_ret;refine⟨bm ?_,by first|exact HB.e|exact jr HB.e _⟩;rw[RE.e,drop_cons HY.e];simp[mY,HZ.e,eN,dc,sa]
     ·have hd:decide (y<=υ)=U:=by simpa using sa
      have hrel:eN np H l=eN np (mY l (q+2)) (l.drop (q+2)):=(by rw[RE.e,drop_cons HY.e];simp[mY,HZ.e,HY.e,eN,dc];omega);have HR:=K hrel;clear hrel;go_wp2_with (first
          | (go_at_call 62;refine(oS _ _ _ _).mono ?_;rintro e w' ⟨rfl,rfl⟩))
      go_quiet (fail);go_wp2;go_roundw;case rel=>exact⟨q+2,by omega,by go_num,rfl,HR.e,by first|exact HB.e|exact jr HB.e _⟩
      case measure=>simp[ϑ];omega
  ·obtain rfl:j=n:=by omega
   go_wp2;go_ret;refine⟨bm ?_,HB.e⟩;rw[RE.e,Aja (by rw[KL.e];exact ϊ _)];cases mY l j<;>rfl
def Gf{b lo hi m:Int}:kI a b lo hi m=(vg a b lo hi && decide (b - a<m)):=by unfold kI vg;cases decide (lo<=a)<;>cases decide (a<=b)<;>cases decide (b<=hi)<;>rfl
def anq{l:List Piece}(hv:Row w B 4 Piece.R pv l)(hB:B<=w.heap.size):
 ύ prog 145 #[pv] w λe w'=>e=Ω (Y I (jh l))/\φ w w':=by
 obtain⟨A,m,c,rfl,hl,ey,hc,T⟩:=hv.Φ;have dM:=K hl;unfold ϕ at hc;have H2:=K T;clear hl T hv;cases hlen:cj m 1 3 with
 |false=>
  go_enter func145,Tryz.ntmps145;go_wp2_with (first
   | (go_at_call 62;refine(oS _ _ _ _).mono ?_;rintro e w' ⟨rfl,rfl⟩))
  go_ret;exact⟨bm (by unfold jh;rw[dM.e,hlen];rfl),ό _ _⟩
 |true=>
  have IL:m<=3:=by have:=nS hlen;omega
  go_enter func145,Tryz.ntmps145;go_wp2_with (first
   | (go_at_call 62;refine(oS _ _ _ _).mono ?_;rintro e w' ⟨rfl,rfl⟩))
  go_loopw [2,3,4,5] (λr k u v wr=>∃i:Nat,i<=m/\k=Y I i/\(∀(j:Nat) (x:Piece),j<i->l[j]?=J x->lI (l.take j) x=0)/\φ w wr) (λ_ k _ _ _=>m - (ϑ k).toNat)
  case atStart=>exact⟨0,ϛ _,rfl,λj _ hj=>by omega,ό _ _⟩
  case round=>
   obtain⟨i,hi,rfl,bS,hb⟩:=hrel;have HH:=K (Ϗ bS hb);have vA:w.heap.size<=wr.heap.size:=hb.size;by_cases ao:i<m
   ·obtain⟨ad,x,cs,rfl,aE,hx,⟨rfl,dD⟩,-,aq⟩:=H2.e i ao;have st:Δ B w wr:=Δ.aJ hb hB;have ST:=K st;have h0:=cA aq st aE rfl;have h1:=bj aq st aE 0 rfl;have h2:=bj aq st aE 1 rfl;have h3:=bj aq st aE 2 rfl;have qb:(ad.add (i * 4)).block<wr.heap.size:=by rw[b9];omega
    have HX:=K hx;have sA:=K aq;clear bS hb hx aq st;have bad:∀s:Int,lI (l.take i) x=s->s≠0->s=jh l:=λs V h0=>by unfold jh;rw[dM.e,hlen,if_pos rfl,vQ HX.e HH.e.1 (by rw[V];exact h0),V]
    have gW:=K bad;clear bad;cases ej:nU x.name.data.toList with
    |false=>
     go_wp2_with (first
      | (go_at_call 186;refine(JN dD _).mono ?_;rintro e w1 ⟨rfl,rfl⟩;try rw[ej]))
     go_ret;exact⟨bm (gW.e 4 (by unfold lI;rw[ej];rfl) (by omega)),HH.e.2⟩
    |true=>
     go_wp2_with (first
      | (go_at_call 186;refine(JN dD _).mono ?_;rintro e w1 ⟨rfl,rfl⟩;try rw[ej]))
     clear h0;have HN:=K dD;go_loopw [4] (λk wq=>∃j:Nat,j<=i/\k=Y I j/\(∀(q:Nat) (y:Piece),q<j->l[q]?=J y->kH y.name x.name=U)/\φ w wq) (λk _=>i - (ϑ k).toNat)
     case atStart=>exact⟨0,ϛ _,rfl,λq _ hq=>by omega,HH.e.2⟩
     case round=>
      obtain⟨j,hj,rfl,br,Iu⟩:=hrel;have HO:=K (Ϗ br Iu);have E9:w.heap.size<=wr.heap.size:=Iu.size;have C7:Δ B w wr:=Δ.aJ Iu hB;have ZX:=K C7;have h0:=cA sA.e C7 aE rfl;have h1:=bj sA.e C7 aE 0 rfl;have h2:=bj sA.e C7 aE 1 rfl;have h3:=bj sA.e C7 aE 2 rfl;have qb':(ad.add (i * 4)).block<wr.heap.size:=by rw[b9];omega
      clear br Iu C7;by_cases qv:j<i
      ·obtain⟨DE,y,bu,e',ag7,hy,⟨rfl,OF⟩,-,Cb⟩:=H2.e j (by omega);cases e';have g0:=cA Cb ZX.e aE rfl;have qc:(ad.add (j * 4)).block<wr.heap.size:=by rw[b9];omega
       have HY:=K hy;clear hy Cb OF;cases V:kH y.name x.name with
       |true=>have cI:(y.name.toList==x.name.toList)=D:=V;go_wp2;go_quiet (fail);go_wp2;go_ret;refine⟨bm (gW.e 5 ?_ (by omega)),by first|exact HO.e.2|exact jr HO.e.2 _⟩;unfold lI;rw[ej,if_pos rfl,if_pos];rw[Ajb];exact⟨y,ϡ (i:=j) (by rw[Ł,if_pos qv];exact HY.e),V⟩
       |false=>
        have cI:(y.name.toList==x.name.toList)=U:=V;go_wp2;go_quiet (fail);go_wp2;go_roundw;case rel=>exact⟨j+1,by omega,by go_num,λq υ hq hz=>by
            rcases Ϯ.1 hq with h|rfl
            ·exact HO.e.1 q υ h hz
            ·rw[HY.e] at hz;cases hz;exact V,by first|exact HO.e.2|exact jr HO.e.2 _⟩
        case measure=>simp[ϑ];omega
      ·obtain rfl:j=i:=by omega
       have Er:(l.take j).any (λq=>kH q.name x.name)=U:=by
           rw[Ajd];intro υ hz;obtain⟨q,hq⟩:=Ai6 hz;rw[Ł] at hq;split at hq
           ·rename_i Aj;simpa using HO.e.1 q υ Aj hq
           ·cases hq
       have wj:=K Er;clear Er;cases hw:vg x.len.lo x.len.hi 1 40 with
       |false=>
        go_wp2_with (first
            | (go_at_call 49;refine(within _).mono ?_;rintro e w2 ⟨rfl,an⟩;try rw[hw]))
        go_ret;refine⟨bm (gW.e 1 (by unfold lI;rw[ej,wj.e,Gf,hw];rfl) (by omega)),da HO.e.2 an E9⟩
       |true=>
        have Ct:1<=x.len.lo/\x.len.lo<=x.len.hi/\x.len.hi<=40:=(by simp only[vg,Ä,decide_eq_true_eq] at hw;exact hw);obtain⟨b1,b2,b3⟩:=Ct;by_cases zQ:3<=x.len.hi - x.len.lo
        ·go_wp2_with (first
             | (go_at_call 49;refine(within _).mono ?_;rintro e w2 ⟨rfl,an⟩;obtain⟨eu,oJ⟩:=gG an rfl;have aZ:wr.heap.size<w2.heap.size:=pM an;have eH:=K (da HO.e.2 an E9);clear an;try rw[hw]))
         go_ret;refine⟨bm (gW.e 1 (by unfold lI;rw[ej,wj.e,Gf,hw];simp;omega) (by omega)),eH.e⟩
        ·have mQ:kI x.len.lo x.len.hi 1 40 3=D:=by rw[Gf,hw];simp;omega
         have Sa:=K mQ;clear mQ;cases Ah:cj x.bears 0 2 with
         |false=>
          go_wp2_with (first
             | (go_at_call 49;refine(within _).mono ?_;rintro e w2 ⟨rfl,an⟩;obtain⟨eu,oJ⟩:=gG an rfl;have aZ:wr.heap.size<w2.heap.size:=pM an;have eH:=K (da HO.e.2 an E9);clear an;try rw[hw])
             | (go_at_call 62;refine(oS _ _ _ _).mono ?_;rintro e w' ⟨rfl,rfl⟩;try rw[Ah]))
          go_ret;refine⟨bm (gW.e 1 (by unfold lI;rw[ej,wj.e,Sa.e,Ah];rfl) (by omega)),eH.e⟩
         |true=>
          go_wp2_with (first
             | (go_at_call 49;refine(within _).mono ?_;rintro e w2 ⟨rfl,an⟩;obtain⟨eu,oJ⟩:=gG an rfl;have aZ:wr.heap.size<w2.heap.size:=pM an;have eH:=K (da HO.e.2 an E9);clear an;try rw[hw])
             | (go_at_call 62;refine(oS _ _ _ _).mono ?_;rintro e w' ⟨rfl,rfl⟩;try rw[Ah]))
          go_roundw;case rel=>exact⟨j+1,by omega,by go_num,λq y hq hy=>by
             rcases Ϯ.1 hq with h|rfl
             ·exact HH.e.1 q y h hy
             ·rw[HX.e] at hy;cases hy;unfold lI;rw[ej,wj.e,Sa.e,Ah];rfl,eH.e⟩
          case measure=>simp[ϑ];omega
   ·obtain rfl:i=m:=by omega
    go_wp2;go_ret;refine⟨bm ?_,HH.e.2⟩;unfold jh;rw[dM.e,hlen,if_pos rfl,vP (λj x hj=>HH.e.1 j x (by have:=(Ϫ.1 hj).1;have:=dM.e;omega) hj)]
def vI(l:List Span)(i:Nat):Int:=if i=0 then -1 else match l[i - 1]? with
 |some k=>k.hi
 |none=>0
def Jd{last:Int}{k:Span}{l:List Span}:mU aL last (k::l)=if kI k.lo k.hi 0 (aL - 1) aL then if k.lo<=last then 7 else mU aL k.hi l else 1:=rfl
def Je{b:Int}:kI a b 0 (aL - 1) aL=vg a b 0 (aL - 1):=by
 rw[Gf];by_cases h:vg a b 0 (aL - 1)=D
 ·rw[h];simp only[vg,Ä,decide_eq_true_eq] at h;simp;omega
 ·simp only[Bool.not_eq_true] at h;rw[h];rfl
def ano{x:bN}{kv:z}{l:List bN}(dD:x.name.size<=ϕ)(hk:Row w B 2 Span.R kv x.cM)(hv:Row w B 3 (bN.R w B) v l)(hB:B<=w.heap.size):
 ύ prog 146 #[v,η #[.string x.name,Y I x.aL,kv]] w λe w'=>e=Ω (Y I (iw l x))/\φ w w':=by
 obtain⟨A0,m0,c0,rfl,Vw,asA,jS,IX⟩:=hv.Φ;obtain⟨A,m,c,rfl,hl,ey,hc,T⟩:=hk.Φ;have dM:=K hl;have Y6:=K Vw;have H0:=K IX;unfold ϕ at hc jS;have H2:=K T;clear hl T hk hv Vw IX;have kb:Bk (w.alloc (Ξ #[.string x.name,Y I x.aL,E A m c] 59)) w.heap.size 59 #[.string x.name,Y I x.aL,E A m c]:=Bk.new _ _ _;have KB:=K kb;have rL:φ w (w.alloc (Ξ #[.string x.name,Y I x.aL,E A m c] 59)):=(ό _ _).alloc (ϊ _) _;have iN:=K rL;clear kb rL;cases ej:nU x.name.data.toList with
 |false=>
  go_enter func146,Tryz.ntmps146;go_wp2_with (first
   | (go_at_call 186;refine(JN dD _).mono ?_;rintro e w1 ⟨rfl,rfl⟩;try rw[ej]))
  go_ret;exact⟨bm (by unfold iw;rw[ej];rfl),iN.e⟩
 |true=>
  go_enter func146,Tryz.ntmps146;go_wp2_with (first
   | (go_at_call 186;refine(JN dD _).mono ?_;rintro e w1 ⟨rfl,rfl⟩;try rw[ej]))
  go_loopw [5] (λk wr=>∃i:Nat,i<=m0/\k=Y I i/\(∀(q:Nat) (y:bN),q<i->l[q]?=J y->kH y.name x.name=U)/\Γ (w.heap.size+1) (w.alloc (Ξ #[.string x.name,Y I x.aL,E A m c] 59)) wr) (λk _=>m0 - (ϑ k).toNat)
  case atStart=>exact⟨0,ϛ _,rfl,λq _ hq=>by omega,ό _ _⟩
  case round=>
   obtain⟨i,hi,rfl,br,hb⟩:=hrel;have HO:=K (Ϗ br hb);have gI:φ w wr:=iN.e.trans (hb.mono (by omega))
   have BW:=K gI;have aN:w.heap.size<wr.heap.size:=by have:=hb.size;simp at this;omega
   have kr:=KB.e.below hb (by omega);have r0:=kr.cell 0;have r1:=kr.cell 1;have r2:=kr.cell 2;have st:Δ B w wr:=Δ.aJ gI hB;have ST:=K st;have KR:=K kr;clear br hb gI kr;by_cases ao:i<m0
   ·obtain⟨ad,y,cs,rfl,aE,hy,⟨kD,rfl,OF,-⟩,-,aq⟩:=H0.e i ao;have g0:=cA aq st aE rfl;have qc:(ad.add (i * 3)).block<wr.heap.size:=by rw[b9];omega
    have HY:=K hy;clear hy aq st OF;cases V:kH y.name x.name with
    |true=>have cI:(y.name.toList==x.name.toList)=D:=V;go_wp2;go_quiet (fail);go_wp2;go_ret;refine⟨bm ?_,by first|exact BW.e|exact jr BW.e _⟩;unfold iw;rw[ej,if_pos rfl,if_pos];rw[Ajb];exact⟨y,ϡ HY.e,V⟩
    |false=>
     have cI:(y.name.toList==x.name.toList)=U:=V;go_wp2;go_quiet (fail);go_wp2;go_roundw;case rel=>exact⟨i+1,by omega,by go_num,λq υ hq hz=>by
      rcases Ϯ.1 hq with h|rfl
      ·exact HO.e.1 q υ h hz
      ·rw[HY.e] at hz;cases hz;exact V,by first|exact HO.e.2|exact jr HO.e.2 _⟩
     case measure=>simp[ϑ];omega
   ·obtain rfl:i=m0:=by omega
    have Er:l.any (λq=>kH q.name x.name)=U:=(by rw[Ajd];intro υ hz;obtain⟨q,hq⟩:=Ai6 hz;simpa using HO.e.1 q υ (by have:=(Ϫ.1 hq).1;have:=Y6.e;omega) hq);have wj:=K Er;clear Er st;cases iX:cj x.aL 1 40 with
    |false=>
     go_wp2_with (first
      | (go_at_call 62;refine(oS _ _ _ _).mono ?_;rintro e w' ⟨rfl,rfl⟩;try rw[iX]))
     go_ret;exact⟨bm (by unfold iw;rw[ej,wj.e,iX];rfl),BW.e⟩
    |true=>
     obtain⟨qx,Vj⟩:=nS iX;by_cases h3:3<m
     ·go_wp2_with (first
       | (go_at_call 62;refine(oS _ _ _ _).mono ?_;rintro e w' ⟨rfl,rfl⟩;try rw[iX]))
      go_ret;exact⟨bm (by unfold iw;rw[ej,wj.e,iX,dM.e];simp[h3]),BW.e⟩
     ·go_wp2_with (first
       | (go_at_call 62;refine(oS _ _ _ _).mono ?_;rintro e w' ⟨rfl,rfl⟩;try rw[iX]))
      have fC:iw l x=mU x.aL (-1) x.cM:=(by unfold iw;rw[ej,wj.e,iX,dM.e];simp[h3]);have nv:=K fC;clear fC;clear r0 r1 r2;go_loopw [6] (λk wq=>∃j:Nat,j<=m/\k=Y I j/\mU x.aL (-1) x.cM=mU x.aL (vI x.cM j) (x.cM.drop j)/\Γ (w.heap.size+1) (w.alloc (Ξ #[.string x.name,Y I x.aL,E A m c] 59)) wq) (λk _=>m - (ϑ k).toNat);case atStart=>exact⟨0,ϛ _,rfl,rfl,HO.e.2⟩
      case round=>
       obtain⟨j,hj,rfl,xP,hb⟩:=hrel;have RE:=K xP;have HQ:=K hb;have gI:φ w wr:=iN.e.trans (hb.mono (by omega))
       have BQ:=K gI;have aN:w.heap.size<wr.heap.size:=by have:=hb.size;simp at this;omega
       have hle:w.heap.size+1<=wr.heap.size:=(by omega);have kr:=KB.e.below hb (by omega);have r0:=kr.cell 0;have r1:=kr.cell 1;have r2:=kr.cell 2;have KQ:=K kr;have st:Δ B w wr:=Δ.aJ gI hB;have ST:=K st;clear xP hb gI kr;by_cases oL:j<m
       ·obtain⟨ad,y,cs,rfl,aE,hy,rfl,-,aq⟩:=H2.e j oL;have h0:=cA aq st aE rfl;have h1:=bj aq st aE 0 rfl;have qc:(ad.add (j * 2)).block<wr.heap.size:=by rw[b9];omega
        have HY:=K hy;have HC:=K aq;clear hy aq st;go_wp2;refine tA 8 (by kernel_rfl) (by kernel_rfl) ?_
        simp only[ñ,þ,õ,ö];repeat still_step
        refine Ait ?_;cases hw:vg y.lo y.hi 0 (x.aL - 1) with
        |false=>
         go_wp2_with (first
             | (go_at_call 49;refine(within _).mono ?_;rintro e w2 ⟨rfl,an⟩;try rw[hw]))
         go_ret;refine⟨bm ?_,chain BQ.e (uN an) (by omega)⟩;rw[nv.e,RE.e,drop_cons HY.e];rw[Jd,Je,hw];rfl
        |true=>
         rcases Nat.eq_zero_or_pos j with wZ|wZ
         ·subst wZ;have hrel:mU x.aL (-1) x.cM=mU x.aL (vI x.cM 1) (x.cM.drop 1):=by
             rw[RE.e,drop_cons HY.e];have qx:0<=y.lo:=by simp only[vg,Ä,decide_eq_true_eq] at hw;exact hw.1
             have hn:¬ (y.lo<=vI x.cM 0):=(by simp[vI];omega);rw[Jd,Je,hw,if_pos rfl,if_neg hn];simp[vI,HY.e]
          have HR:=K hrel;clear hrel;go_wp2;go_at_call 49;refine(within _).mono ?_;rintro e w2 ⟨rfl,an⟩;have b2:φ wr w2:=uN an;have k2:=KQ.e.below b2 aN;have s0:=k2.cell 0;have s1:=k2.cell 1;have s2:=k2.cell 2;have aZ:w.heap.size<w2.heap.size:=by have:=b2.size;omega
          have lf:Δ B w w2:=ST.e.trans (Δ.aJ b2 (by omega));have t0:=cA HC.e lf aE rfl;have t1:=bj HC.e lf aE 0 rfl;have q2:(ad.add (0 * 2)).block<w2.heap.size:=by rw[b9];omega
          have eH:=K (HQ.e.trans (b2.mono hle));have GD:=K (BQ.e.trans (b2.mono (by omega)))
          clear an b2 k2 lf;try rw[hw]
          go_wp2;go_quiet (fail);go_wp2;go_roundw;case rel=>exact⟨1,oL,by go_num,HR.e,by first|exact eH.e|exact jr eH.e _⟩
          case measure=>simp[ϑ];omega
         ·obtain⟨q,rfl⟩:∃q,j=q+1:=⟨j - 1,by omega⟩
          obtain⟨DE,υ,TL,DY,Vs,hz,rfl,-,xm⟩:=H2.e q (by omega);cases DY;have HZ:=K hz;have HC3:=K xm;clear hz xm;have VC:vI x.cM (q+1)=υ.hi:=by simp[vI,HZ.e]
          have RR:=K VC;clear VC;have ig:decide ((0:Int)<((q+1:Nat):Int))=D:=by simp<;>omega
          by_cases sa:y.lo<=υ.hi
          ·have hd:decide (y.lo<=υ.hi)=D:=by simpa using sa
           go_wp2;go_at_call 49;refine(within _).mono ?_;rintro e w2 ⟨rfl,an⟩;have b2:φ wr w2:=uN an;have k2:=KQ.e.below b2 aN;have s0:=k2.cell 0;have s1:=k2.cell 1;have s2:=k2.cell 2;have aZ:w.heap.size<w2.heap.size:=by have:=b2.size;omega
           have lf:Δ B w w2:=ST.e.trans (Δ.aJ b2 (by omega));have t0:=cA HC.e lf aE rfl;have t1:=bj HC.e lf aE 0 rfl;have q2:(ad.add ((q+1) * 2)).block<w2.heap.size:=by rw[b9];omega
           have eH:=K (HQ.e.trans (b2.mono hle));have GD:=K (BQ.e.trans (b2.mono (by omega)))
           have t3:=bj HC3.e lf aE 0 rfl;have q3:(ad.add (q * 2)).block<w2.heap.size:=by rw[b9];omega
           clear an b2 k2 lf;try rw[hw]
           go_wp2;go_quiet (fail);go_wp2;go_ret;refine⟨bm ?_,by first|exact GD.e|exact jr GD.e _⟩;rw[nv.e,RE.e,drop_cons HY.e,RR.e];rw[Jd,Je,hw,if_pos rfl,if_pos sa]
          ·have hd:decide (y.lo<=υ.hi)=U:=by simpa using sa
           have hrel:mU x.aL (-1) x.cM=mU x.aL (vI x.cM (q+2)) (x.cM.drop (q+2)):=(by rw[RE.e,drop_cons HY.e,RR.e];rw[Jd,Je,hw,if_pos rfl,if_neg sa];simp[vI,HY.e]);have HR:=K hrel;clear hrel;go_wp2;go_at_call 49;refine(within _).mono ?_;rintro e w2 ⟨rfl,an⟩;have b2:φ wr w2:=uN an;have k2:=KQ.e.below b2 aN;have s0:=k2.cell 0;have s1:=k2.cell 1;have s2:=k2.cell 2;have aZ:w.heap.size<w2.heap.size:=by have:=b2.size;omega
           have lf:Δ B w w2:=ST.e.trans (Δ.aJ b2 (by omega));have t0:=cA HC.e lf aE rfl;have t1:=bj HC.e lf aE 0 rfl;have q2:(ad.add ((q+1) * 2)).block<w2.heap.size:=by rw[b9];omega
           have eH:=K (HQ.e.trans (b2.mono hle));have GD:=K (BQ.e.trans (b2.mono (by omega)))
           have t3:=bj HC3.e lf aE 0 rfl;have q3:(ad.add (q * 2)).block<w2.heap.size:=by rw[b9];omega
           clear an b2 k2 lf;try rw[hw]
           go_wp2;go_quiet (fail);go_wp2;go_roundw;case rel=>exact⟨q+2,by omega,by go_num,HR.e,by first|exact eH.e|exact jr eH.e _⟩
           case measure=>simp[ϑ];omega
       ·obtain rfl:j=m:=by omega
        go_wp2;go_ret;refine⟨bm ?_,BQ.e⟩;rw[nv.e,RE.e,Aja (by rw[dM.e];exact ϊ _)];rfl
def Y0{b:Int}:kI a b 0 120 121=vg a b 0 120:=by
 rw[Gf];by_cases h:vg a b 0 120=D
 ·rw[h];simp only[vg,Ä,decide_eq_true_eq] at h;simp;omega
 ·simp only[Bool.not_eq_true] at h;rw[h];rfl
def anr{n:Int}{lp:List Piece}{l:List Tape}(hp:Row w B 4 Piece.R pv lp)(Ex:∃A n c,bv=E A n c)(hv:Row w B 3 (Tape.R w B) tv l)(hB:B<=w.heap.size):
 ύ prog 147 #[η #[Y I n,pv,bv,tv]] w λe w'=>e=Ω (Y I (lJ lp.length l))/\φ w w':=by
 obtain⟨PA,np,pc,rfl,kX,rV,xO,-⟩:=hp.Φ;obtain⟨A,m,c,rfl,hl,ey,hc,T⟩:=hv.Φ;obtain⟨BA,bn,bc,rfl⟩:=Ex;have dM:=K hl;have EW:=K kX;have Lx:=K (Ϥ rV xO);unfold ϕ at hc xO;have H2:=K T;have kb:Bk (w.alloc (Ξ #[Y I n,E PA np pc,E BA bn bc,E A m c] 26)) w.heap.size 26 #[Y I n,E PA np pc,E BA bn bc,E A m c]:=Bk.new _ _ _;have KB:=K kb;have iN:Hid (φ w (w.alloc (Ξ #[Y I n,E PA np pc,E BA bn bc,E A m c] 26))):=K ((ό _ _).alloc (ϊ _) _);clear hl T hv kX hp kb;by_cases hlen:4<m
 ·go_enter func147,Tryz.ntmps147;go_wp2;go_ret;exact⟨bm (by unfold lJ;rw[dM.e,if_pos hlen]),iN.e⟩
 ·go_enter func147,Tryz.ntmps147;go_wp2;go_loopw [2,3,4,5] (λr k u v wr=>∃i:Nat,i<=m/\k=Y I i/\(∀(j:Nat) (x:Tape),j<i->l[j]?=J x->lh np x=0)/\Γ (w.heap.size+1) (w.alloc (Ξ #[Y I n,E PA np pc,E BA bn bc,E A m c] 26)) wr) (λ_ k _ _ _=>m - (ϑ k).toNat);case atStart=>exact⟨0,ϛ _,rfl,λj _ hj=>by omega,ό _ _⟩
  case round=>
   obtain⟨i,hi,rfl,bS,hb⟩:=hrel;have HH:=K (Ϗ bS hb);have gI:φ w wr:=iN.e.trans (hb.mono (by omega))
   have BW:=K gI;have aN:w.heap.size<wr.heap.size:=by have:=hb.size;simp at this;omega
   have hle:w.heap.size+1<=wr.heap.size:=(by omega);have kr:=KB.e.below hb (by omega);have r0:=kr.cell 0;have r1:=kr.cell 1;have r2:=kr.cell 2;have r3:=kr.cell 3;have KR:=K kr;have st:Δ B w wr:=Δ.aJ gI hB;have ST:=K st;clear bS hb gI kr;by_cases ao:i<m
   ·obtain⟨ad,x,cs,rfl,aE,hx,⟨kv,rfl,dC⟩,-,aq⟩:=H2.e i ao;obtain⟨KA,kn,kc,rfl,cP,Vr,EO,zY⟩:=id dC.Φ;have YA:=K dC;unfold ϕ at EO;have KL:=K cP;have h0:=cA aq st aE rfl;have h1:=bj aq st aE 0 rfl;have h2:=bj aq st aE 1 rfl;have qc:(ad.add (i * 3)).block<wr.heap.size:=by rw[b9];omega
    have HX:=K hx;clear hx aq st dC cP zY;have bad:∀s:Int,lh np x=s->s≠0->s=lJ lp.length l:=λs V h0=>by unfold lJ;rw[dM.e,if_neg hlen,EW.e,vQ (f:=λ_ t=>lh np t) HX.e HH.e.1 (by rw[V];exact h0),V]
    have gW:=K bad;clear bad;have HO:Hid (Γ (w.heap.size+1) (w.alloc (Ξ #[Y I n,E PA np pc,E BA bn bc,E (J ad) m c] 26)) (wr.alloc (Ξ #[E KA kn kc,Y I x.sum.lo,Y I x.sum.hi] 95))):=K (HH.e.2.alloc hle _);have yV:Hid (φ w (wr.alloc (Ξ #[E KA kn kc,Y I x.sum.lo,Y I x.sum.hi] 95))):=K (BW.e.alloc (by omega) _)
    by_cases iA:kn=0
    ·subst iA;go_wp2;go_ret;exact⟨bm (gW.e 2 (by unfold lh;rw[KL.e];rfl) (by omega)),yV.e⟩
    ·have eP:((kn:Int)==0)=U:=by simp;omega
     have Lp:Hid (Row (wr.alloc (Ξ #[E KA kn kc,Y I x.sum.lo,Y I x.sum.hi] 95)) B 1 bI (E KA kn kc) x.pieces):=K (YA.e.still (Δ.aJ yV.e hB) λ_ _ h=>h);by_cases ef:eN np H x.pieces=0
     ·cases hw:vg x.sum.lo x.sum.hi 0 120 with
      |false=>
       go_wp2;go_at_call 57;refine(rising Lp.e (by simp;omega) Lx.e).mono ?_;rintro e w2 ⟨rfl,an⟩;rw[ef];have oR:(wr.alloc (Ξ #[E KA kn kc,Y I x.sum.lo,Y I x.sum.hi] 95)).heap.size=wr.heap.size+1:=by simp
       have k2:Bk w2 wr.heap.size 95 #[E KA kn kc,Y I x.sum.lo,Y I x.sum.hi]:=(Bk.new wr 95 _).below an (by omega);have s0:=k2.cell 0;have s1:=k2.cell 1;have s2:=k2.cell 2;have aZ:wr.heap.size<w2.heap.size:=k2.lt;have BX:Hid (Γ (w.heap.size+1) (w.alloc (Ξ #[Y I n,E PA np pc,E BA bn bc,E (J ad) m c] 26)) w2):=K (HO.e.trans (an.mono (by omega)))
       have KE:Hid (φ w w2):=K (yV.e.trans (an.mono (by omega)));clear an k2 oR;go_wp2;go_at_call 49;refine(within _).mono ?_;rintro e w3 ⟨rfl,bK⟩;have BY:Hid (Γ (w.heap.size+1) (w.alloc (Ξ #[Y I n,E PA np pc,E BA bn bc,E (J ad) m c] 26)) w3):=K (BX.e.trans (bK.mono (by omega)))
       have Rn:Hid (φ w w3):=K (KE.e.trans (bK.mono (by omega)));clear bK;rw[hw];go_wp2;go_ret;exact⟨bm (gW.e 1 (by unfold lh;rw[KL.e,if_neg iA,ef,Y0,hw];rfl) (by omega)),Rn.e⟩
      |true=>
       go_wp2;go_at_call 57;refine(rising Lp.e (by simp;omega) Lx.e).mono ?_;rintro e w2 ⟨rfl,an⟩;rw[ef];have oR:(wr.alloc (Ξ #[E KA kn kc,Y I x.sum.lo,Y I x.sum.hi] 95)).heap.size=wr.heap.size+1:=by simp
       have k2:Bk w2 wr.heap.size 95 #[E KA kn kc,Y I x.sum.lo,Y I x.sum.hi]:=(Bk.new wr 95 _).below an (by omega);have s0:=k2.cell 0;have s1:=k2.cell 1;have s2:=k2.cell 2;have aZ:wr.heap.size<w2.heap.size:=k2.lt;have BX:Hid (Γ (w.heap.size+1) (w.alloc (Ξ #[Y I n,E PA np pc,E BA bn bc,E (J ad) m c] 26)) w2):=K (HO.e.trans (an.mono (by omega)))
       have KE:Hid (φ w w2):=K (yV.e.trans (an.mono (by omega)));clear an k2 oR;go_wp2;go_at_call 49;refine(within _).mono ?_;rintro e w3 ⟨rfl,bK⟩;have BY:Hid (Γ (w.heap.size+1) (w.alloc (Ξ #[Y I n,E PA np pc,E BA bn bc,E (J ad) m c] 26)) w3):=K (BX.e.trans (bK.mono (by omega)))
       have Rn:Hid (φ w w3):=K (KE.e.trans (bK.mono (by omega)));clear bK;rw[hw];go_wp2;go_roundw;case rel=>exact⟨i+1,by omega,by go_num,λj y hj hy=>by
           rcases Ϯ.1 hj with h|rfl
           ·exact HH.e.1 j y h hy
           ·rw[HX.e] at hy;cases hy;unfold lh;rw[KL.e,if_neg iA,ef,Y0,hw];rfl,BY.e⟩
       case measure=>simp[ϑ];omega
     ·have OV:(eN np H x.pieces !=0)=D:=by simpa using ef
      obtain⟨s,V⟩:∃s,s=eN np H x.pieces:=⟨_,rfl⟩
      rw[<-V] at ef OV;have HS:=K V;go_wp2
      go_at_call 57;refine(rising Lp.e (by simp;omega) Lx.e).mono ?_;rintro e w2 ⟨rfl,an⟩;rw[<-HS.e];have BX:=K (yV.e.trans (an.mono (by simp;omega)))
      clear an V;go_wp2;go_ret;exact⟨bm (gW.e s (by unfold lh;rw[KL.e,if_neg iA,<-HS.e,if_pos ef]) ef),BX.e⟩
   ·obtain rfl:i=m:=by omega
    go_wp2;go_ret;refine⟨bm ?_,BW.e⟩;unfold lJ;rw[dM.e,if_neg hlen,EW.e,vP (f:=λ_ t=>lh np t) (λj x hj=>HH.e.1 j x (by have:=(Ϫ.1 hj).1;have:=dM.e;omega) hj)]
def adj(h:cj b.ab 0 3=U):cZ b=1:=by unfold cZ kR;rw[h];rfl
def adi(h:cj b.ab 0 3=D)(h1:jh b.pieces≠0):cZ b=jh b.pieces:=by unfold cZ kR;rw[h];simp[scan,h1]
def Tq(h:cj b.ab 0 3=D)(h1:jh b.pieces=0)(h2:lB b.aC≠0):cZ b=lB b.aC:=by unfold cZ kR;rw[h];simp[scan,h1,h2]
def adk(h:cj b.ab 0 3=D)(h1:jh b.pieces=0)(h2:lB b.aC=0):cZ b=lJ b.pieces.length b.aI:=by
 unfold cZ kR;rw[h];by_cases h3:lJ b.pieces.length b.aI=0
 ·simp[scan,h1,h2,h3]
 ·simp[scan,h1,h2,h3]
def anp(ah:aQ w B b pv bv tv)(hB:B<=w.heap.size):
 ύ prog 69 #[η #[Y I b.ab,pv,bv,tv]] w λe w'=>e=Ω (Y I (cZ b))/\φ w w':=by
 have bD:=K ah;obtain⟨PA,np,pc,rfl,kX,rV,xO,-⟩:=ah.pieces.Φ;obtain⟨TA,nt,tc,rfl,Af,htc,OY,-⟩:=ah.aI.Φ;obtain⟨A,m,c,rfl,hl,ey,hc,T⟩:=ah.aC.Φ;have dM:=K hl;unfold ϕ at hc xO OY;have H2:=K T;have kb:Bk (w.alloc (Ξ #[Y I b.ab,E PA np pc,E A m c,E TA nt tc] 26)) w.heap.size 26 #[Y I b.ab,E PA np pc,E A m c,E TA nt tc]:=Bk.new _ _ _;have KB:=K kb;have iN:Hid (φ w (w.alloc (Ξ #[Y I b.ab,E PA np pc,E A m c,E TA nt tc] 26))):=K ((ό _ _).alloc (ϊ _) _);have oR:(w.alloc (Ξ #[Y I b.ab,E PA np pc,E A m c,E TA nt tc] 26)).heap.size=w.heap.size+1:=by simp
 have LF:=K oR;have aaO:Hid (ύ prog 145 #[E PA np pc] (w.alloc (Ξ #[Y I b.ab,E PA np pc,E A m c,E TA nt tc] 26)) λe w'=>e=Ω (Y I (jh b.pieces))/\Γ (w.heap.size+1) (w.alloc (Ξ #[Y I b.ab,E PA np pc,E A m c,E TA nt tc] 26)) w'):=K (by
  exact (anq (bD.e.pieces.still (Δ.aJ iN.e hB) λ_ _ h=>h) (by rw[oR];omega)).mono λe w' h=>⟨h.1,h.2.mono (by omega)⟩)
 clear hl T ah kX Af kb oR;cases h1:cj b.ab 0 3 with
 |false=>
  go_enter func69,Tryz.ntmps69;go_wp2_with (first
   | (go_at_call 62;refine(oS _ _ _ _).mono ?_;rintro e w' ⟨rfl,rfl⟩;try rw[h1]))
  go_ret;exact⟨bm (adj h1).symm,iN.e⟩
 |true=>
  by_cases h2:jh b.pieces=0
  ·go_enter func69,Tryz.ntmps69;go_wp2_with (first
    | (go_at_call 62;refine(oS _ _ _ _).mono ?_;rintro e w' ⟨rfl,rfl⟩;try rw[h1]))
   go_at_call 145;refine aaO.e.mono ?_;rintro e w1 ⟨rfl,ai⟩;rw[h2];have k1:=KB.e.below ai (by omega)
   have r0:=k1.cell 0;have r1:=k1.cell 1;have r2:=k1.cell 2;have r3:=k1.cell 3;have aO:w.heap.size<w1.heap.size:=k1.lt;have dY:Hid (φ w w1):=K (iN.e.trans (ai.mono (by omega)))
   have U3:=K ai;clear k1 ai;by_cases h3:3<m
   ·go_wp2;go_ret;exact⟨bm (by rw[Tq h1 h2 (by unfold lB;rw[dM.e,if_pos h3];omega)];unfold lB;rw[dM.e,if_pos h3]),dY.e⟩
   ·go_wp2;clear r0 r1 r2 r3;go_loopw [2,4,5] (λr k u wr=>∃i:Nat,i<=m/\k=Y I i/\(∀(j:Nat) (x:bN),j<i->b.aC[j]?=J x->iw (b.aC.take j) x=0)/\Γ (w.heap.size+1) (w.alloc (Ξ #[Y I b.ab,E PA np pc,E A m c,E TA nt tc] 26)) wr) (λ_ k _ _=>m - (ϑ k).toNat);case atStart=>exact⟨0,ϛ _,rfl,λj _ hj=>by omega,U3.e⟩
    case round=>
     obtain⟨i,hi,rfl,bS,hb⟩:=hrel;have HH:=K (Ϗ bS hb);have gI:φ w wr:=iN.e.trans (hb.mono (by omega))
     have BW:=K gI;have aN:w.heap.size<wr.heap.size:=by have:=hb.size;have:=LF.e;omega
     have hle:w.heap.size+1<=wr.heap.size:=(by omega);have kr:=KB.e.below hb (by omega);have r0:=kr.cell 0;have r1:=kr.cell 1;have r2:=kr.cell 2;have r3:=kr.cell 3;have st:Δ B w wr:=Δ.aJ gI hB;have ST:=K st;clear bS hb gI kr;by_cases ao:i<m
     ·obtain⟨ad,x,cs,rfl,aE,hx,⟨kv,rfl,dD,dC⟩,-,aq⟩:=H2.e i ao;obtain⟨A2,c2,rfl,-⟩:=id dC;obtain⟨n2,dn⟩:∃n2,n2=x.cM.length:=⟨_,rfl⟩
      rw[<-dn] at dC aq;clear dn;have uL:=K dC;have g0:=cA aq st aE rfl;have g1:=bj aq st aE 0 rfl;have g2:=bj aq st aE 1 rfl;have HX:=K hx;clear hx aq st dC;have EJ:i<=c:=by omega
      go_wp2;refine tA 9 (by kernel_rfl) (by kernel_rfl) ?_;simp only[ñ,þ,õ,ö];repeat still_step
      refine Ait ?_;have HR:=K ((bD.e.aC.take hi).still ST.e λ_ _ h=>h.still ST.e);have GM:=K (uL.e.still ST.e λ_ _ h=>h);have KP:Hid (ύ prog 146 #[E (J ad) i c,η #[.string x.name,Y I x.aL,E A2 n2 c2]] wr.drew λe w'=>e=Ω (Y I (iw (b.aC.take i) x))/\φ wr w'):=K (by
       have:=ano (w:=wr.drew) dD GM.e HR.e (by show B<=wr.heap.size;omega);exact this.mono λe w' ⟨h1,h2⟩=>⟨h1,uN h2⟩)
      by_cases hz:iw (b.aC.take i) x=0
      ·go_wp2;go_at_call 146;refine KP.e.mono ?_;rintro e w2 ⟨rfl,an⟩;rw[hz];have BX:=K (HH.e.2.trans (an.mono hle));clear an;go_wp2;go_roundw;case rel=>exact⟨i+1,by omega,by go_num,λj y hj hy=>by
        rcases Ϯ.1 hj with h|rfl
        ·exact HH.e.1 j y h hy
        ·rw[HX.e] at hy;cases hy;exact hz,BX.e⟩
       case measure=>simp[ϑ];omega
      ·obtain⟨s,V⟩:∃s,s=iw (b.aC.take i) x:=⟨_,rfl⟩
       rw[<-V] at hz KP;have OV:(s !=0)=D:=by simpa using hz
       have HS:=K V;clear V;go_wp2;go_at_call 146;refine KP.e.mono ?_;rintro e w2 ⟨rfl,an⟩;have BX:=K (BW.e.trans (an.mono (by omega)))
       clear an;go_wp2;go_ret;have fC:lB b.aC=s:=by unfold lB;rw[dM.e,if_neg h3,vQ HX.e HH.e.1 (by rw[<-HS.e];exact hz),<-HS.e]
       exact⟨bm (by rw[Tq h1 h2 (by rw[fC];exact hz),fC]),BX.e⟩
     ·obtain rfl:i=m:=by omega
      have fC:lB b.aC=0:=(by unfold lB;rw[dM.e,if_neg h3,vP (λj x hj=>HH.e.1 j x (by have:=(Ϫ.1 hj).1;have:=dM.e;omega) hj)]);have nv:=K fC;have aaD:Hid (ύ prog 147 #[η #[Y I b.ab,E PA np pc,E A i c,E TA nt tc]] wr λe w'=>e=Ω (Y I (lJ b.pieces.length b.aI))/\φ wr w'):=K
       (anr (bD.e.pieces.still ST.e λ_ _ h=>h) ⟨_,_,_,rfl⟩ (bD.e.aI.still ST.e λ_ _ h=>h.still ST.e) (by omega))
      clear fC st;go_wp2;go_at_call 147;refine aaD.e.mono ?_;rintro e w2 ⟨rfl,an⟩;have BX:=K (BW.e.trans (an.mono (by omega)))
      clear an;go_wp2;go_ret;exact⟨bm (adk h1 h2 nv.e).symm,BX.e⟩
  ·obtain⟨s,V⟩:∃s,s=jh b.pieces:=⟨_,rfl⟩
   have qt:=adi h1 h2;rw[<-V] at h2 aaO qt;have OV:(s !=0)=D:=by simpa using h2
   have W8:=K qt;clear V qt;go_enter func69,Tryz.ntmps69;go_wp2_with (first
    | (go_at_call 62;refine(oS _ _ _ _).mono ?_;rintro e w' ⟨rfl,rfl⟩;try rw[h1]))
   go_at_call 145;refine aaO.e.mono ?_;rintro e w1 ⟨rfl,ai⟩;have dY:Hid (φ w w1):=K (iN.e.trans (ai.mono (by omega)))
   clear ai;go_wp2;go_ret;exact⟨bm W8.e.symm,dY.e⟩
def sI(x:bN):Bool:=decide (100<x.name.size) ||decide (20<x.cM.length)
def By(x:Piece):Bool:=decide (100<x.name.size)
def Bz(x:Tape):Bool:=decide (20<x.pieces.length)
def wX(b:eR):Bool:=(decide (20<b.pieces.length) || (decide (20<b.aC.length) ||decide (20<b.aI.length))) || (b.pieces.any By|| (b.aC.any sI||b.aI.any Bz))
def acD{x:bN}{kv:z}(dD:x.name.size<=ϕ)(hk:Row w B 2 Span.R kv x.cM):
 ύ prog 51 #[η #[.string x.name,Y I x.aL,kv]] w λe w'=>e=Ω (.bool (sI x))/\φ w w':=by
 obtain⟨A,m,c,rfl,hl,ey,hc,-⟩:=hk.Φ;unfold ϕ at hc dD;have HL:=K hl;clear hl hk;by_cases h1:100<x.name.size
 ·go_enter func51,Tryz.ntmps51;go_wp2;go_ret;exact⟨bU (by unfold sI;simp[h1]),(ό _ _).alloc (ϊ _) _⟩
 ·by_cases h2:20<m
  ·go_enter func51,Tryz.ntmps51;go_wp2;go_ret;exact⟨bU (by unfold sI;rw[HL.e];simp[h2];omega),(ό _ _).alloc (ϊ _) _⟩
  ·go_enter func51,Tryz.ntmps51;go_wp2;go_ret;exact⟨bU (by unfold sI;rw[HL.e];simp[h1,h2];omega),(ό _ _).alloc (ϊ _) _⟩
def L8{p:α->Bool}{l:List α}{x:α}(h:l[i]?=J x)(hp:p x=D):l.any p=D:=Ajb.2 ⟨x,ϡ h,hp⟩
def L7{p:α->Bool}{l:List α}(hn:l.length=n)(h:∀(j:Nat) (x:α),j<n->l[j]?=J x->p x=U):l.any p=U:=by rw[Ajd];intro υ hz;obtain⟨q,hq⟩:=Ai6 hz;simpa using h q υ (by have:=(Ϫ.1 hq).1;omega) hq
def ago(ah:aQ w B b pv bv tv)(hB:B<=w.heap.size):
 ύ prog 20 #[η #[Y I b.ab,pv,bv,tv]] w λe w'=>e=Ω (.bool (wX b))/\φ w w':=by
 obtain⟨PA,np,pc,rfl,kX,rV,xO,V6⟩:=ah.pieces.Φ;obtain⟨TA,nt,tc,rfl,Af,htc,OY,kB⟩:=ah.aI.Φ;obtain⟨A,m,c,rfl,hl,ey,hc,T⟩:=ah.aC.Φ;have Ls:=K kX;have Lr:=K hl;have Lu:=K Af;have HP:=K V6;have HT:=K kB;have H2:=K T;unfold ϕ at hc xO OY;have kb:Bk (w.alloc (Ξ #[Y I b.ab,E PA np pc,E A m c,E TA nt tc] 26)) w.heap.size 26 #[Y I b.ab,E PA np pc,E A m c,E TA nt tc]:=Bk.new _ _ _;have KB:=K kb;have iN:Hid (φ w (w.alloc (Ξ #[Y I b.ab,E PA np pc,E A m c,E TA nt tc] 26))):=K ((ό _ _).alloc (ϊ _) _);have LF:Hid ((w.alloc (Ξ #[Y I b.ab,E PA np pc,E A m c,E TA nt tc] 26)).heap.size=w.heap.size+1):=K (by simp)
 have I7:∀q:Bool,q=D->(decide (20<b.pieces.length) || (decide (20<b.aC.length) ||decide (20<b.aI.length)))=q->D=wX b:=λq h1 h2=>by unfold wX;rw[h2,h1];rfl
 have LD:=K I7;clear hl T ah kX Af kb V6 kB I7;by_cases h1:20<np
 ·go_enter func20,Tryz.ntmps20;go_wp2;go_ret;exact⟨bU (LD.e D rfl (by rw[Ls.e];simp[h1])),iN.e⟩
 by_cases h2:20<m
 ·go_enter func20,Tryz.ntmps20;go_wp2;go_ret;exact⟨bU (LD.e D rfl (by rw[Lr.e];simp[h2])),iN.e⟩
 by_cases h3:20<nt
 ·go_enter func20,Tryz.ntmps20;go_wp2;go_ret;exact⟨bU (LD.e D rfl (by rw[Lu.e];simp[h3])),iN.e⟩
 have br:wX b=(b.pieces.any By|| (b.aC.any sI||b.aI.any Bz)):=by unfold wX;rw[Ls.e,Lr.e,Lu.e];simp[h1,h2,h3]
 have rj:=K br;clear br;go_enter func20,Tryz.ntmps20;go_wp2;go_loopw [2,3] (λr k wr=>∃i:Nat,i<=np/\k=Y I i/\(∀(j:Nat) (x:Piece),j<i->b.pieces[j]?=J x->By x=U)/\Γ (w.heap.size+1) (w.alloc (Ξ #[Y I b.ab,E PA np pc,E A m c,E TA nt tc] 26)) wr) (λ_ k _=>np - (ϑ k).toNat);case atStart=>exact⟨0,ϛ _,rfl,λj _ hj=>by omega,by rw[<-LF.e];exact ό _ _⟩
 case round=>
  obtain⟨i,hi,rfl,bS,hb⟩:=hrel;have HH:=K (Ϗ bS hb);have gI:φ w wr:=iN.e.trans (hb.mono (by omega))
  have BW:=K gI;have kr:=KB.e.below hb (by omega)
  have aN:w.heap.size<wr.heap.size:=kr.lt;have r0:=kr.cell 0;have r1:=kr.cell 1;have r2:=kr.cell 2;have r3:=kr.cell 3;have st:Δ B w wr:=Δ.aJ gI hB;clear bS hb gI kr;by_cases ao:i<np
  ·obtain⟨ad,x,cs,rfl,aE,hx,⟨rfl,dD⟩,-,aq⟩:=HP.e i ao;have g0:=cA aq st aE rfl;have qc:(ad.add (i * 4)).block<wr.heap.size:=by rw[b9];omega
   have HX:=K hx;unfold ϕ at dD;clear hx aq st;by_cases hg:100<x.name.size
   ·go_wp2;go_ret;exact⟨bU (by rw[rj.e,L8 HX.e (by unfold By;simpa using hg)];rfl),BW.e⟩
   ·go_wp2;go_roundw;case rel=>exact⟨i+1,by omega,by go_num,λj y hj hy=>by
     rcases Ϯ.1 hj with h|rfl
     ·exact HH.e.1 j y h hy
     ·rw[HX.e] at hy;cases hy;unfold By;simpa using hg,HH.e.2⟩
    case measure=>simp[ϑ];omega
  ·obtain rfl:i=np:=by omega
   have qF:b.pieces.any By=U:=L7 Ls.e HH.e.1;have lP:=K qF;have pe:=K HH.e.2;clear qF st;go_wp2;clear r0 r1 r2 r3;go_loopw [2,4] (λr k wr=>∃j:Nat,j<=m/\k=Y I j/\(∀(q:Nat) (x:bN),q<j->b.aC[q]?=J x->sI x=U)/\Γ (w.heap.size+1) (w.alloc (Ξ #[Y I b.ab,E PA i pc,E A m c,E TA nt tc] 26)) wr) (λ_ k _=>m - (ϑ k).toNat)
   case atStart=>exact⟨0,ϛ _,rfl,λj _ hj=>by omega,pe.e⟩
   case round=>
    obtain⟨j,hj,rfl,bS,hb⟩:=hrel;have HG:=K (Ϗ bS hb);have gI:φ w wr:=iN.e.trans (hb.mono (by omega))
    have BV:=K gI;have kr:=KB.e.below hb (by omega)
    have nQ:w.heap.size<wr.heap.size:=kr.lt;have hle:w.heap.size+1<=wr.heap.size:=nQ;have r0:=kr.cell 0;have r1:=kr.cell 1;have r2:=kr.cell 2;have r3:=kr.cell 3;have st:Δ B w wr:=Δ.aJ gI hB;have ST:=K st;clear bS hb gI kr;by_cases ao:j<m
    ·obtain⟨ad,x,cs,rfl,aE,hx,⟨kv,rfl,dD,dC⟩,-,aq⟩:=H2.e j ao;obtain⟨A2,c2,rfl,-⟩:=id dC;obtain⟨n2,dn⟩:∃n2,n2=x.cM.length:=⟨_,rfl⟩
     rw[<-dn] at dC aq;clear dn;have Rv:Hid (ύ prog 51 #[η #[.string x.name,Y I x.aL,E A2 n2 c2]] wr λe w'=>e=Ω (.bool (sI x))/\φ wr w'):=K (acD dD (dC.still st λ_ _ h=>h))
     have g0:=cA aq st aE rfl;have g1:=bj aq st aE 0 rfl;have g2:=bj aq st aE 1 rfl;have qc:(ad.add (j * 3)).block<wr.heap.size:=by rw[b9];omega
     have HX:=K hx;clear hx aq st dC;cases hg:sI x with
     |true=>
      go_wp2;go_at_call 51;refine Rv.e.mono ?_;rintro e w2 ⟨rfl,an⟩;rw[hg];have BX:=K (BV.e.trans (an.mono (by omega)))
      clear an;go_wp2;go_ret;exact⟨bU (by rw[rj.e,L8 HX.e hg];simp),BX.e⟩
     |false=>
      go_wp2;go_at_call 51;refine Rv.e.mono ?_;rintro e w2 ⟨rfl,an⟩;rw[hg];have BX:=K (HG.e.2.trans (an.mono hle));clear an;go_wp2;go_roundw;case rel=>exact⟨j+1,by omega,by go_num,λq y hq hy=>by
       rcases Ϯ.1 hq with h|rfl
       ·exact HG.e.1 q y h hy
       ·rw[HX.e] at hy;cases hy;exact hg,BX.e⟩
      case measure=>simp[ϑ];omega
    ·obtain rfl:j=m:=by omega
     have dn:b.aC.any sI=U:=L7 Lr.e HG.e.1;have Zm:=K dn;have tn:=K HG.e.2;clear dn st;go_wp2;clear r0 r1 r2 r3;go_loopw [2,5] (λr k wr=>∃q:Nat,q<=nt/\k=Y I q/\(∀(υ:Nat) (x:Tape),υ<q->b.aI[υ]?=J x->Bz x=U)/\Γ (w.heap.size+1) (w.alloc (Ξ #[Y I b.ab,E PA i pc,E A j c,E TA nt tc] 26)) wr) (λ_ k _=>nt - (ϑ k).toNat)
     case atStart=>exact⟨0,ϛ _,rfl,λj _ hj=>by omega,tn.e⟩
     case round=>
      obtain⟨q,hq,rfl,bS,hb⟩:=hrel;have HK:=K (Ϗ bS hb);have gI:φ w wr:=iN.e.trans (hb.mono (by omega))
      have BZ:=K gI;have kr:=KB.e.below hb (by omega)
      have E9:w.heap.size<wr.heap.size:=kr.lt;have r0:=kr.cell 0;have r1:=kr.cell 1;have r2:=kr.cell 2;have r3:=kr.cell 3;have st:Δ B w wr:=Δ.aJ gI hB;clear bS hb gI kr;by_cases ao:q<nt
      ·obtain⟨ad,x,cs,rfl,aE,hx,⟨kv,rfl,dC⟩,-,aq⟩:=HT.e q ao;obtain⟨KA,kn,kc,rfl,cP,Vr,EO,-⟩:=dC.Φ;unfold ϕ at EO;have KL:=K cP;have g0:=cA aq st aE rfl;have qc:(ad.add (q * 3)).block<wr.heap.size:=by rw[b9];omega
       have HX:=K hx;clear hx aq st dC cP;by_cases hg:20<kn
       ·go_wp2;go_ret;exact⟨bU (by rw[rj.e,L8 HX.e (by unfold Bz;rw[KL.e];simpa using hg)];simp),BZ.e⟩
       ·go_wp2;go_roundw;case rel=>exact⟨q+1,by omega,by go_num,λυ y hz hy=>by
             rcases Ϯ.1 hz with h|rfl
             ·exact HK.e.1 υ y h hy
             ·rw[HX.e] at hy;cases hy;unfold Bz;rw[KL.e];simpa using hg,HK.e.2⟩
        case measure=>simp[ϑ];omega
      ·obtain rfl:q=nt:=by omega
       have iW:b.aI.any Bz=U:=L7 Lu.e HK.e.1;have Zs:=K iW;clear iW st;go_wp2;go_ret;exact⟨bU (by rw[rj.e,lP.e,Zm.e,Zs.e];rfl),BZ.e⟩
def bV(n:Nat)(ω:al):List Int:=(ϣ n).map ω.at
def Pw(ω:al)(h:k<n):(bV n ω)[k]?=J (ω.at k):=by unfold bV;rw[ú,List.getElem?_range h];rfl
def KY(n:Nat)(ω:al):(bV n ω).length=n:=by simp[bV]
def atG{ps:List Int}(hl:Row w B 1 bI lv (bV n ω))(hp:Row w B 1 bI pv ps)(hk:∀k∈ps,0<=k/\k<n)(h3:ps.length<=1000)(hL:ω.Ok):
 ύ prog 77 #[lv,pv] w λe w'=>e=Ω (Y I (tE ω ps))/\w=w':=by
 obtain⟨A,m,c,rfl,e1,h1,du,r1⟩:=hl.Φ;obtain⟨θ,q,d,rfl,e2,h2,ei,r2⟩:=hp.Φ;rw[KY] at e1;obtain rfl:=e1;unfold ϕ at du ei;have hq:q<=1000:=by omega
 have R1:=K r1;have R2:=K r2;have E2:=K e2;have HK:=K hk;have HL:=K hL;clear hl hp e2 r1 r2 hk hL;go_enter func77,Tryz.ntmps77;go_wp2
 go_loop [5,6] (λs k=>∃i:Nat,i<=q/\k=Y I i/\s=Y I (tE ω (ps.take i))) (λ_ k=>q - (ϑ k).toNat)
 case atStart=>exact⟨0,ϛ _,rfl,rfl⟩
 case round=>
  obtain⟨i,hi,rfl,rfl⟩:=hrel;have xR:=(QM ω HL.e (ps.take i)).1;have xQ:tE ω (ps.take i)<=1000000:=by have:=(QM ω HL.e (ps.take i)).2;have:(ps.take i).length<=i:=ō _ _;omega
  by_cases ao:i<q
  ·obtain⟨ad,x,cs,rfl,aE,hx,rfl,-,aq⟩:=R2.e i ao;have Wy:=HK.e x (ϡ hx);obtain⟨j,rfl⟩:=Int.eq_ofNat_of_zero_le Wy.1;have RF:j<n:=by omega
   have Vo:(j:Int)<n:=(by omega);have h0:=cA aq (Δ.refl (B:=B) w) aE rfl;rw[Ì] at h0;obtain⟨DE,y,bu,rfl,ag7,hy,rfl,-,Cb⟩:=R1.e j RF;have h0':=cA Cb (Δ.refl (B:=B) w) ag7 rfl;rw[Ì] at h0';rw[Pw ω RF] at hy;cases hy;have HX:=K hx;have VH:=HL.e j;obtain⟨VH,asm⟩:=VH;clear hx aq Cb Wy;go_wp2
   go_round
   case rel=>exact⟨i+1,by omega,by go_num,by rw[pT HX.e,apE];rfl⟩
   case measure=>simp[ϑ];omega
  ·obtain rfl:i=q:=by omega
   go_wp2;go_ret;exact⟨bm (by rw[Õ (ò E2.e)]),rfl⟩
def tf(n:Nat):List Int:=(ϣ n).map λ(k:Nat)=>(k:Int)
def aeN(hn:n<=1000)(w:N):
 ύ prog 78 #[Y I n] w λe w'=>∃u,e=Ω u/\w'.ownsRow w.heap.size 3 1 u n ((tf n).map (Y I))/\φ w w':=by
 obtain⟨i0,cJ,cK,aO,aZ⟩:=Ö Pd;have HI:=K (Ϗ cJ (Ϗ cK (Ϗ aO aZ)));clear cJ cK aO aZ;go_enter func78,Tryz.ntmps78;go_wp2;go_loopw [3,4] (λo k wr=>∃i:Nat,i<=n/\k=Y I i/\wr.ownsRow w.heap.size 3 1 o i ((tf i).map (Y I))/\φ w wr) (λ_ k _=>n - (ϑ k).toNat)
 case atStart=>exact⟨0,ϛ _,rfl,⟨by simp[tf],.inl ⟨rfl,rfl⟩⟩,ό _ _⟩
 case round=>
  obtain⟨i,hi,rfl,aH,hb⟩:=hrel;have HO:=K aH;have HB:=K hb;have aN:=hb.size;by_cases ao:i<n
  ·have xI:(i:Int)<n:=by omega
   clear hb aH;go_wp2_with (first
    | (at_builtin
       refine ĝ _ rfl (.tmp 10) (.tmp 12) 33 rfl w.heap.size 3 i0 (Y I 0) 1 8 (χ Tryz.underlying33) HI.e.1 HI.e.2.1 HI.e.2.2.1 HI.e.2.2.2 rfl (by decide) _ i _ rfl (HO.e.alloc _) ⟨wr.heap.size,0,H⟩ 1 1 [Y I i] rfl rfl ?c1 ?c2 ?c3 ?c4 ?c5 ?_;case c1=>(intro j u hu;match j,hu with|0,hu=>(simp at hu;subst hu;simp[go_sem,Addr.add]))
       case c2=>simp[Value.oneCell']
       case c3=>(simp only[ϕ];omega)
       case c4=>omega
       case c5=>(simp;omega)
       intro v' w1 b7 cW _;have gC:=K b7;have gX:=K cW;clear b7 cW))
   go_roundw;case rel=>exact⟨i+1,by omega,by go_num,by
    rw[show tf (i+1)=tf i++ [(i:Int)] by simp[tf,œ],È];exact gC.e,
    (HB.e.trans ((ό _ _).alloc aN _)).grown gX.e (by simp;omega) (λk hk=>dX HO.e k hk)⟩
   case measure=>simp[ϑ];omega
  ·obtain rfl:i=n:=by omega
   clear hb aH;go_wp2;go_ret;exact⟨_,rfl,HO.e,HB.e⟩
def LN(b:eR)(ω:al)(i:Nat):Bool:=match b.pieces[i]? with
 |some p=>cj (ω.at i) p.len.lo p.len.hi
 |none=>D
def z7(b:eR)(n:Nat)(ω:al):Bool:=(ϣ n).all (LN b ω) && tC ω b.aI
def ai5(hb:aQ w B b pv bv tv)(hB:B<=w.heap.size)(hl:Row w B 1 bI lv (bV b.pieces.length ω))(hv:Valid b)(hL:ω.Ok):
 ύ prog 152 #[η #[Y I b.ab,pv,bv,tv],lv] w λe w'=>e=Ω (.bool (z7 b b.pieces.length ω))/\φ w w':=by
 obtain⟨A1,n1,c1,rfl,e1,h1,du,r1⟩:=hb.pieces.Φ;obtain⟨A2,n2,c2,rfl,-⟩:=hb.aC.Φ;obtain⟨A3,n3,c3,rfl,e3,h3,xd,r3⟩:=hb.aI.Φ;have Vw:=hl;obtain⟨A,m,c,rfl,e2,h2,ei,r2⟩:=hl.Φ;rw[KY,e1] at e2;obtain rfl:=e2;unfold ϕ at du ei xd;have iW:n1<=3:=by have:=hv.np;omega
 have htp:Hid (∀t∈b.aI,(∀k∈t.pieces,0<=k/\k<n1)/\t.pieces.length<=3):=K λt ht=>⟨λk hk=>by have:=(hv.tape t ht).1 k hk;omega,by have:=(hv.tape t ht).2;omega⟩
 have E1:=K e1;have E3:=K e3;have R1:=K r1;have R2:=K r2;have R3:=K r3;have HL:=K hL;have HR:=K Vw;clear hb hl Vw e1 e3 r1 r2 r3 hL hv;go_enter func152,Tryz.ntmps152;go_wp2;have KB:Hid (Bk (w.alloc (Ξ #[Y I b.ab,E A1 n1 c1,E A2 n2 c2,E A3 n3 c3] 26)) w.heap.size 26 #[Y I b.ab,E A1 n1 c1,E A2 n2 c2,E A3 n3 c3]):=K (Bk.new _ _ _);go_loopw [5] (λk wr=>∃i:Nat,i<=n1/\k=Y I i/\(∀j,j<i->LN b ω j=D)/\Γ (w.heap.size+1) (w.alloc (Ξ #[Y I b.ab,E A1 n1 c1,E A2 n2 c2,E A3 n3 c3] 26)) wr) (λk _=>n1 - (ϑ k).toNat)
 case atStart=>exact⟨0,ϛ _,rfl,λj hj=>by omega,by have:=ό (w.heap.size+1) (w.alloc (Ξ #[Y I b.ab,E A1 n1 c1,E A2 n2 c2,E A3 n3 c3] 26));exact this⟩
 case round=>
  obtain⟨i,hi,rfl,bS,dk⟩:=hrel;have HA:=K bS;have HB:=K dk;have kb:=KB.e.below dk (by simp)
  have f1: wr.cell? ⟨w.heap.size,1,H⟩=J (E A1 n1 c1):=kb.cell 1;have f3: wr.cell? ⟨w.heap.size,3,H⟩=J (E A3 n3 c3):=kb.cell 3;have aN:w.heap.size+1<=wr.heap.size:=by have:=dk.size;simpa using this
  have st:Δ B w wr:=((Δ.refl w).alloc hB _).trans (Δ.aJ dk (by omega));by_cases ao:i<n1
  ·obtain⟨ad,p,cs,rfl,aE,hp,⟨rfl,-⟩,-,aq⟩:=R1.e i ao;obtain⟨DE,x,bu,rfl,ag7,hx,rfl,-,Cb⟩:=R2.e i ao;rw[Pw ω (by rw[E1.e];exact ao)] at hx;cases hx;have g1:=bj aq st aE 0 rfl;have g2:=bj aq st aE 1 rfl;have g0:=cA Cb st ag7 rfl;rw[Ì] at g0;have xI:(i:Int)<n1:=by omega
   have mQ:LN b ω i=cj (ω.at i) p.len.lo p.len.hi:=(by unfold LN;rw[hp]);have Sa:=K mQ;have ST:=K st;clear aq Cb hp bS dk kb mQ st;cases dc:cj (ω.at i) p.len.lo p.len.hi with
   |false=>
    have HF:Hid (z7 b b.pieces.length ω=U):=K (by
     unfold z7;rw[Aio];refine Or.inl (List.all_eq_false.2 ⟨i,by rw[E1.e];exact Ď.2 ao,by rw[Sa.e,dc];simp⟩))
    go_wp2;go_quiet (first| (go_at_call 62;exact Aiv ((oS _ _ _ _).mono λe w' h=>⟨h.1,h.2.symm⟩)));go_wp2;go_ret;exact⟨bU HF.e.symm,jr (kg HB.e) _⟩
   |true=>
    go_wp2;go_quiet (first| (go_at_call 62;exact Aiv ((oS _ _ _ _).mono λe w' h=>⟨h.1,h.2.symm⟩)));go_wp2;go_roundw;case rel=>exact⟨i+1,by omega,by go_num,λj hj=>by
     rcases Ϯ.1 hj with h|rfl
     ·exact HA.e j h
     ·rw[Sa.e,dc],jr HB.e _⟩
    case measure=>simp[ϑ];omega
  ·obtain rfl:i=n1:=by omega
   rename N=>w1;have HS:Hid ((ϣ b.pieces.length).all (LN b ω)=D):=K (List.all_eq_true.2 λj hj=>HA.e j (by rw[E1.e] at hj;exact Ď.1 hj));clear bS dk kb st;go_wp2;go_loopw [6] (λk wr=>∃i:Nat,i<=n3/\k=Y I i/\(∀(j:Nat) (t:Tape),j<i->b.aI[j]?=J t->Gr ω t=U)/\Γ (w.heap.size+1) w1 wr) (λk _=>n3 - (ϑ k).toNat);case atStart=>exact⟨0,ϛ _,rfl,λj t hj=>by omega,ό _ _⟩
   case round=>
    obtain⟨k,hk,rfl,bS,Iu⟩:=hrel;have S3:=K bS;have uI:=K (HB.e.trans Iu);have HQ:=K Iu;have kb:=KB.e.below uI.e (by simp)
    have f3: wr.cell? ⟨w.heap.size,3,H⟩=J (E A3 n3 c3):=kb.cell 3;have E9:w.heap.size+1<=wr.heap.size:=by have:=Iu.size;omega
    have C7:Δ B w wr:=((Δ.refl w).alloc hB _).trans (Δ.aJ uI.e (by omega));by_cases ao:k<n3
    ·obtain⟨ad,t,cs,rfl,aE,ht,⟨pv,rfl,qG⟩,-,aq⟩:=R3.e k ao;have htk:=htp.e t (ϡ ht);have V6:=qG.still C7 (R':=bI) λ_ _ h=>h
     obtain⟨A5,n5,c5,rfl,e5,-⟩:=qG.Φ;have g0:=cA aq C7 aE rfl;have g1:=bj aq C7 aE 0 rfl;have g2:=bj aq C7 aE 1 rfl;have xI:(k:Int)<n3:=by omega
     have HT:=K ht;have HTK:=K htk;have HPR:=K V6;have ZX:=K C7;have CS:Hid (∀n:Nat,ύ prog 77 #[E A i c,E A5 n5 c5] ((wr.alloc (Ξ #[E A5 n5 c5,Y I t.sum.lo,Y I t.sum.hi] 95)).drewN n) λe w'=>e=Ω (Y I (tE ω t.pieces))/\w'=(wr.alloc (Ξ #[E A5 n5 c5,Y I t.sum.lo,Y I t.sum.hi] 95)).drewN n):=K λn=>by have q:Δ B w ((wr.alloc (Ξ #[E A5 n5 c5,Y I t.sum.lo,Y I t.sum.hi] 95)).drewN n):=(ZX.e.alloc (by omega) _).trans (Δ.aJ (jr (ό B _) n) (ϊ _));exact(atG (n:=b.pieces.length) (HR.e.still q λ_ _ h=>h) ((HPR.e.still (Δ.refl _) λ_ _ h=>h).still (((Δ.refl wr).alloc (by omega) _).trans (Δ.aJ (jr (ό B _) n) (ϊ _))) λ_ _ h=>h) (by rw[E1.e];exact HTK.e.1) (by have:=HTK.e.2;omega) HL.e).mono λe w' h=>⟨h.1,h.2.symm⟩
     clear aq ht htk qG V6 C7 bS Iu kb e5;cases hw:cj (tE ω t.pieces) t.sum.lo t.sum.hi with
     |false=>
      have HF:Hid (z7 b b.pieces.length ω=U):=K (by
       unfold z7 tC;rw[L8 HT.e (show Gr ω t=D by unfold Gr;rw[hw];rfl)];simp)
      go_wp2;go_quiet (first| (go_at_call 62;exact Aiv ((oS _ _ _ _).mono λe w' h=>⟨h.1,h.2.symm⟩)) | (go_at_call 77;exact Aiv (CS.e _)));go_wp2;go_ret;exact⟨bU HF.e.symm,jr ((kg uI.e).alloc (by omega) _) _⟩
     |true=>
      go_wp2;go_quiet (first| (go_at_call 62;exact Aiv ((oS _ _ _ _).mono λe w' h=>⟨h.1,h.2.symm⟩)) | (go_at_call 77;exact Aiv (CS.e _)));go_wp2;go_roundw;case rel=>exact⟨k+1,by omega,by go_num,λj u hj hu=>by
       rcases Ϯ.1 hj with h|rfl
       ·exact S3.e j u h hu
       ·rw[HT.e] at hu;cases hu;unfold Gr;rw[hw];rfl,jr (HQ.e.alloc (by omega) _) _⟩
      case measure=>simp[ϑ];omega
    ·obtain rfl:k=n3:=by omega
     have HW:Hid (z7 b b.pieces.length ω=D):=K (by
      unfold z7 tC;rw[HS.e,L7 E3.e (λj t hj ht=>S3.e j t hj ht)];rfl)
     clear bS Iu kb C7;go_wp2;go_ret;exact⟨bU HW.e.symm,kg uI.e⟩
def PL(b:eR)(i:Nat)(ls:List al):List al:=match b.pieces[i]? with
 |some p=>ls.flatMap λω=>(iJ p.len).map λk=>ω.set i k
 |none=> []
def jW(b:eR):Nat->List al
 |0=> [⟨0,0,0⟩]
 |i+1=>PL b i (jW b i)
def ak5{γ:Type}(l:List α)(f:α->List β)(g:β->List γ):(l.flatMap f).flatMap g=l.flatMap λx=>(f x).flatMap g:=by
 induction l with
 |nil=>rfl
 |cons a l ih=>simp[Ĥ,ih]
def ak3(p:α->Bool)(l:List α):l.filter p=l.flatMap λx=>if p x then [x] else []:=by
 induction l with
 |nil=>rfl
 |cons a l ih=>by_cases h:p a<;>simp[List.filter_cons,h,ih]
def ac9{b:eR}:∀(f i:Nat),i+f=b.pieces.length->(jW b (i+f)).filter (λω=>tC ω b.aI)=(jW b i).flatMap (dU b f i)
 |0,i,_=>by rw[ak3];rfl
 |f+1,i,h=>by
  have e:i+(f+1)=(i+1)+f:=by omega
  have hi:i<b.pieces.length:=by omega
  obtain⟨p,hp⟩:∃p,b.pieces[i]?=J p:=⟨_,Ñ hi⟩
  rw[e,ac9 f (i+1) (by omega)];show(PL b i (jW b i)).flatMap _=_;unfold PL;rw[hp];simp only;rw[ak5];congr 1;funext ω;rw[Mj hp,List.flatMap_map]
def aiv(b:eR):(jW b b.pieces.length).filter (λω=>tC ω b.aI)=aB b:=by have:=ac9 (b:=b) b.pieces.length 0 (by omega);rw[ŝ] at this;rw[this];simp[jW,aB]
def ZU{k:Int}(hi:i<3):(ω.set i k).at j=if j=i\/(i=2/\2<=j) then k else ω.at j:=by
 unfold al.set al.at;rcases(by omega:i=0\/i=1\/i=2) with rfl|rfl|rfl
 ·rcases(by omega:j=0\/j=1\/2<=j) with rfl|rfl|h
  ·simp
  ·simp
  ·simp[show j≠0 by omega,show j≠1 by omega]
 ·rcases(by omega:j=0\/j=1\/2<=j) with rfl|rfl|h
  ·simp
  ·simp
  ·simp[show j≠0 by omega,show j≠1 by omega]
 ·rcases(by omega:j=0\/j=1\/2<=j) with rfl|rfl|h
  ·simp
  ·simp
  ·simp[show j≠0 by omega,show j≠1 by omega,h]
def aq4(k:Int)(hi:i<3):bV i ω++ [k]=bV (i+1) (ω.set i k):=by
 unfold bV;rw[œ,È];congr 1
 ·refine List.map_congr_left λj hj=>?_;have:=Ď.1 hj;rw[ZU hi,if_neg (by omega)]
 ·simp[ZU hi]
def atB{s:Span}{k:Int}(h:k∈iJ s):s.lo<=k/\k<=s.hi:=by unfold iJ at h;obtain⟨j,hj,rfl⟩:=ô.1 h;have:=Ď.1 hj;omega
def aa8{b:eR}(hv:Valid b):∀i,i<=b.pieces.length->∀ω∈jW b i,ω.Ok/\∀j,j<i->LN b ω j=D
 |0,_,ω,hL=>by simp[jW] at hL;subst hL;exact⟨λq=>by unfold al.at;simp,λj hj=>by omega⟩
 |i+1,hi,ω,hL=>by
  obtain⟨p,hp⟩:∃p,b.pieces[i]?=J p:=⟨_,Ñ (by omega)⟩
  have fM:i<3:=by have:=hv.np;omega
  simp only[jW,PL,hp] at hL;obtain⟨M,hM,hL⟩:=List.mem_flatMap.1 hL;obtain⟨k,hk,rfl⟩:=ô.1 hL;obtain⟨h1,h2⟩:=aa8 hv i (by omega) M hM;have kU:=atB hk;have vu:=hv.piece p (ϡ hp);have l0:=vu.lo;have l1:=vu.hi;refine⟨λq=>?_,λj hj=>?_⟩
  ·rw[ZU fM];split
   ·omega
   ·exact h1 q
  ·rcases Ϯ.1 hj with h|rfl
   ·have:=h2 j h;unfold LN at this |-;rw[ZU fM,if_neg (by omega)];exact this
   ·unfold LN;rw[hp,ZU fM,if_pos (Or.inl rfl)];simp[cj,kU.1,kU.2]
def aiI(hv:Valid b):(jW b b.pieces.length).filter (z7 b b.pieces.length)=aB b:=by rw[<-aiv];refine List.filter_congr λω hL=>?_;unfold z7;rw[List.all_eq_true.2 λj hj=>(aa8 hv _ (ϊ _) ω hL).2 j (Ď.1 hj)];simp
def ada{b:eR}(hv:Valid b):∀i,(jW b i).length<=3 ^ i
 |0=>by simp[jW]
 |i+1=>by
  simp only[jW,PL];cases hp:b.pieces[i]? with
  |none=>simp
  |some p=>
   have hw:=(hv.piece p (ϡ hp)).wide;have h2:(iJ p.len).length<=3:=by rw[QG];omega
   have key:∀l:List al,(l.flatMap λω=>(iJ p.len).map λk=>ω.set i k).length<=l.length * 3:=by
    intro l;induction l with
    |nil=>simp|cons a l ih=>rw[č,Þ,Ė,ã];omega
   have h3:=ada hv i;have h4:=key (jW b i);rw[Nat.pow_succ];exact Ϥ h4 (ž _ h3)
def en(w:N)(base:Nat)(v:z)(ts:List (List Int×z)):Prop:=
 w.ownsRow base 33 1 v ts.length (ts.map Prod.snd)/\∀p∈ts,w.ownsRow 0 3 1 p.2 p.1.length (p.1.map (Y I))
def ag4{e1 e2:ώ}(h:w.ownsRow b1 e1 s1 v n1 xs)(k:w.ownsRow b2 e2 s2 u n2 ys)(he:e1≠e2)(q:Nat)(hq:u.ownBlock=J q):v.ownBlock≠J q:=by
 rcases h.2 with⟨rfl,_⟩ | ⟨g,cap,cur,rfl,_,h3,_⟩
 ·simp[Value.ownBlock]
 ·rcases k.2 with⟨rfl,_⟩ | ⟨g',ze,ary,rfl,_,k3,_⟩
  ·simp[Value.ownBlock] at hq
  ·intro e;have e1:g'=g:=Option.some.inj (hq.trans e.symm);subst e1;rw[h3] at k3;injection k3 with k3;injection k3 with _ k4;exact he k4
def en.below{base:Nat}{ts:List (List Int×z)}(h:en w base v ts)(hb:Γ B w w')(hB:w.heap.size<=B):en w' base v ts:=
 ⟨si h.1 hb hB,λp hp=>si (h.2 p hp) hb hB⟩
def en.base{w:N}{base fB:Nat}{v:z}{ts:List (List Int×z)}(h:en w base v ts)(hb:fB<=base):en w fB v ts:=⟨World.ownsRow.base h.1 hb,h.2⟩
def en.nil{base:Nat}:en w base (E H 0 0) []:=⟨⟨by simp,.inl ⟨rfl,rfl⟩⟩,λp hp=>by cases hp⟩
def en.snoc{base:Nat}{v':z}{ts:List (List Int×z)}(h:en w base v ts)(hg:w.grownBy w' v.ownBlock)(hu:w.ownsRow 0 3 1 u l.length (l.map (Y I)))
 (ho:w'.ownsRow base 33 1 v' (ts.length+1) (ts.map Prod.snd++ [u])):en w' base v' (ts++ [(l,u)]):=by
 refine⟨by rw[Þ,È];exact ho,λp hp=>?_⟩;rcases ĉ.1 hp with hp|hp
 ·exact UA (h.2 p hp) hg λk hk=>ag4 h.1 (h.2 p hp) (by decide) k hk
 ·rw[Ô.1 hp];exact UA hu hg λk hk=>ag4 h.1 hu (by decide) k hk
def agH:(prog.info? 33).map (λi=>(i.zero,i.size,i.bytes))=J (J (E H 0 0),1,24):=by rw[qS];kernel_rfl
def Bo(w:N){base:Nat}(n:Nat)(cur:List z)(hc:cur.length=n)(hn:n<=1000)(hb:base<=w.heap.size):(w.alloc (.cells cur.toArray e)).ownsRow base e 1 (E (J ⟨w.heap.size,0,H⟩) n n) n cur:=
 ⟨by omega,.inr ⟨w.heap.size,n,_,rfl,hb,Ľ _ _,ϊ _,by unfold ϕ;omega,by simp[hc],by simp[<-hc]⟩⟩
def U2{P:Program}{w:N}{ops:Array Oper}{rest:List Oper}{a:Act}{Q:Exit->Act->N->Prop}(ig:o.guard=H)(s x:Operand)(t:ώ)
 (ho:o.op=.call {callee:=.builtin .append,args:=#[s,x],argTypes:=#[t,t]})
 (base:Nat)(e:ώ)(i:ă)(υ:z)(size bytes:Nat)(ht:P.underlying t=J (.slice e))(hi: P.info? e=J i)(hz:i.zero=J υ)
 (vB:i.size=size)(Ey:i.bytes=bytes)(Pc:υ.cells.size=size)(aN:0<size)
 (v:z)(n:Nat)(xs:List z)(V:a.eval s=v)(aH:w.ownsRow base e size v n xs)
 (u:z)(m b2:Nat)(ys:List z)(hx:a.eval x=u)(hu:w.ownsRow b2 e size u m ys)(h1:∀u∈ys,u.oneCell'=D)
 (Ia:n+m<=ϕ)(Gy:(n+m) * bytes<=140737488355328)(Eu:base<=w.heap.size)
 (h:∀v' w',w'.ownsRow base e size v' (n+m) (xs++ys)->w.grownBy w' v.ownBlock->wpList P ops Q rest (a.put o.dst v') w'):wpList P ops Q (o::rest) a w:=by
 rcases hu.2 with⟨rfl,rfl⟩ | ⟨g,cap,cur,rfl,T⟩
 ·have hy:ys=[]:=List.length_eq_zero_iff.1 (by rw[hu.1,Nat.zero_mul]);subst hy;refine wpList_append_own_none ig s x t ho base e i size ht hi v n xs V aH hx (h v w ?_ ⟨rfl,rfl,rfl,ϊ _,λ_ _ _=>rfl⟩);rw[List.append_nil];exact aH
 ·exact ĝ w ig s x t ho base e i υ size bytes ht hi hz vB Ey Pc aN v n xs V aH _ m cap ys hx hu.1 (vK hu) h1 Ia Gy Eu λv' w' h2 h3 _=>h v' w' h2 h3
def en.anQ{base:Nat}{ts:List (List Int×z)}(h:en w base v ts):Row w w.heap.size 1 (λp cs=>cs=[p.2]) v ts:=by
 have h1:w.ownsRow base 33 1 v ts.length (ts.flatMap λp=> [p.2]):=by
  rw[show(ts.flatMap λp=> [p.2])=ts.map Prod.snd by
   have h2:=h.1;clear h2 h;induction ts with
   |nil=>rfl|cons a l ih=>rw[č,ih];rfl]
  exact h.1
 exact mZ (R:=λp cs=>cs=[p.2]) h1 (λ_=>rfl) λ_ _=>rfl
def ak6{f:α->List β}(hf:∀x,(f x).length<=k)(l:List α):(l.flatMap f).length<=l.length * k:=by
 induction l with
 |nil=>simp
 |cons a l ih=>have:=hf a;rw[č,Þ,Ė,Nat.add_mul];omega
def Q8(i:Nat)(p:Piece)(ω:al):List (List Int):=(iJ p.len).map λk=>bV (i+1) (ω.set i k)
def apO{p:Piece}(hp:b.pieces[i]?=J p):(jW b (i+1)).map (bV (i+1))=(jW b i).flatMap (Q8 i p):=by show(PL b i (jW b i)).map _=_;unfold PL Q8;rw[hp];simp only[List.map_flatMap,List.map_map];rfl
def apP(i:Nat){p:Piece}(hw:p.len.hi - p.len.lo<3)(ω:al):(Q8 i p ω).length<=3:=by unfold Q8;rw[ã,QG];omega
def Y9{ts:List (List Int×z)}{ls:List (List Int)}(h:ts.map É=ls){p:List Int×z}(hp:ts[j]?=J p):ls[j]?=J p.1:=by rw[<-h,ú,hp];rfl
def LU(l:List Int):∀u∈l.map (Y I),u.oneCell'=D:=by intro u hu;obtain⟨y,_,rfl⟩:=ô.1 hu;rfl
def aeo(hb:aQ w B b pv bv tv)(hB:B<=w.heap.size)(hv:Valid b):
 ύ prog 97 #[η #[Y I b.ab,pv,bv,tv]] w λe w'=>∃v ts,e=Ω v/\en w' w.heap.size v ts/\ts.map É=(aB b).map (bV b.pieces.length)/\φ w w':=by
 have bD:=K hb;obtain⟨A1,n1,c1,rfl,e1,h1,du,r1⟩:=hb.pieces.Φ;obtain⟨A2,n2,c2,rfl,-⟩:=hb.aC.Φ;obtain⟨A3,n3,c3,rfl,-⟩:=hb.aI.Φ;unfold ϕ at du;have iW:n1<=3:=by have:=hv.np;omega
 have E1:=K e1;have R1:=K r1;have HV:=K hv;obtain⟨i0,cJ,cK,aO,aZ⟩:=Ö Pd;have HI:=K (Ϗ cJ (Ϗ cK (Ϗ aO aZ)));obtain⟨j0,Wp,OX,kC,pL⟩:=Ö agH;have HJ:=K (Ϗ Wp (Ϗ OX (Ϗ kC pL)));clear hb e1 r1 hv cJ cK aO aZ Wp OX kC pL;go_enter func97,Tryz.ntmps97;go_wp2;obtain⟨W0,bY⟩:∃W0,W0=w.alloc (Ξ #[Y I b.ab,E A1 n1 c1,E A2 n2 c2,E A3 n3 c3] 26):=⟨_,rfl⟩
 have KB:Hid (Bk W0 w.heap.size 26 #[Y I b.ab,E A1 n1 c1,E A2 n2 c2,E A3 n3 c3]):=K (by rw[bY];exact Bk.new _ _ _);have S0:Hid (Δ B w W0):=K (by rw[bY];exact(Δ.refl w).alloc hB _);have Z0:W0.heap.size=w.heap.size+1:=by rw[bY];simp
 have B0:Hid (φ w W0):=K (by rw[bY];exact(ό _ _).alloc (ϊ _) _);rw[<-bY];clear bY;have N0:=K (Bo W0 (base:=w.heap.size+1) (e:=33) 1 [E H 0 0] rfl (by omega) (by omega))
 go_loopw [3,4] (λo k wr=>∃(i:Nat) (ts:List (List Int×z)),i<=n1/\k=Y I i/\en wr (w.heap.size+1) o ts/\Hid (ts.map É=(jW b i).map (bV i))/\Γ (w.heap.size+1) W0 wr) (λ_ k _=>n1 - (ϑ k).toNat)
 case atStart=>exact⟨0,[([],E H 0 0)],ϛ _,rfl,⟨by have h:=N0.e;rw[Z0] at h;exact h,λp hp=>by rw[Ô.1 hp];exact⟨rfl,.inl ⟨rfl,rfl⟩⟩⟩,K rfl,(ό _ _).alloc (by omega) _⟩
 case round=>
  rename N=>W1;obtain⟨i,ts,hi,rfl,aH,eK,hb⟩:=hrel;obtain⟨hr,m,c,rfl,em,qy,qz,E6⟩:=aH.anQ.Φ;have HB:=K hb;have HO:=K aH;have Z1:w.heap.size+1<=W1.heap.size:=by have:=hb.size;omega
  have kb:=K (KB.e.below hb (by omega));have s1:Hid (Δ B w W1):=K (S0.e.trans (Δ.aJ hb (by omega)));have EM:=K em;have RO:=K E6;have hm9:m<=27:=by
   have e:ts.length=(jW b i).length:=(by have:=congrArg ŭ eK.e;simpa using this);have:=ada HV.e i;have:3 ^ i<=3 ^ 3:=Ail (by omega) (by omega)
   omega
  clear hb aH E6 em;have f1: W1.cell? ⟨w.heap.size,1,H⟩=J (E A1 n1 c1):=kb.e.cell 1;by_cases ao:i<n1
  ·obtain⟨ad,p,cs,rfl,aE,hp,⟨rfl,-⟩,-,aq⟩:=R1.e i ao;have Yt:=HV.e.piece p (ϡ hp);have qx:=Yt.lo;have Vj:=Yt.hi;have hwd:=Yt.wide;have xI:(i:Int)<n1:=by omega
   have HP:=K hp;have HC:=K aq;clear hp aq Yt;go_wp2;go_loopw [5,6] (λo k wr=>∃(j:Nat) (ns:List (List Int×z)),j<=m/\k=Y I j/\en wr W1.heap.size o ns/\Hid (ns.map É=((jW b i).take j).flatMap (Q8 i p))/\φ W1 wr) (λ_ k _=>m - (ϑ k).toNat)
   case atStart=>exact⟨0,[],ϛ _,rfl,en.nil,K rfl,ό _ _⟩
   case round=>
    rename N=>W2;obtain⟨j,ns,hj,rfl,aH,KV,hb⟩:=hrel;have dj:=K hb;have sB:=K aH;have Z2:=hb.size;have s2:Hid (Δ B w W2):=K (s1.e.trans (Δ.aJ hb (by omega)))
    have nT:=K (kb.e.below hb (by omega));have f1: W2.cell? ⟨w.heap.size,1,H⟩=J (E (J ad) n1 c1):=nT.e.cell 1;have g1:=bj HC.e s2.e aE 0 rfl;have g2:=bj HC.e s2.e aE 1 rfl;clear hb aH;by_cases Vp:j<m
    ·have aas:(j:Int)<m:=by omega
     obtain⟨cR,t,ju,rfl,gT,ht,rfl,-,fa⟩:=RO.e j Vp;have HT:=K ht;have uJ:=K fa;obtain⟨ω,hL⟩:∃ω,(jW b i)[j]?=J ω/\t.1=bV i ω:=by
      have:=Y9 eK.e ht;rw[ú] at this;cases e:(jW b i)[j]? with
      |none=>rw[e] at this;cases this
      |some ω=>rw[e] at this;injection this with this;exact⟨ω,rfl,this.symm⟩
     have HL:=K hL;clear ht fa hL;go_wp2;go_loopw [5,7] (λo k wr=>∃(q:Nat) (ms:List (List Int×z)),q<=(iJ p.len).length/\k=Y I (p.len.lo+q)/\en wr W1.heap.size o ms/\Hid (ms.map É=((jW b i).take j).flatMap (Q8 i p)++((iJ p.len).take q).map λk=>bV (i+1) (ω.set i k))/\φ W1 wr) (λ_ k _=>(p.len.hi+1 - ϑ k).toNat);case atStart=>exact⟨0,ns,ϛ _,by go_num,sB.e,K (by rw[KV.e];simp),dj.e⟩
     case round=>
      rename N=>W3;obtain⟨q,ms,hq,rfl,aH,IM,hb⟩:=hrel;have dR:=K hb;have wA:=K aH;have Z3:=hb.size;have s3:Hid (Δ B w W3):=K (s1.e.trans (Δ.aJ hb (by omega)))
      have kb3:=K (kb.e.below hb (by omega));have f1: W3.cell? ⟨w.heap.size,1,H⟩=J (E (J ad) n1 c1):=kb3.e.cell 1;have g1:=bj HC.e s3.e aE 0 rfl;have g2:=bj HC.e s3.e aE 1 rfl;rw[QG] at hq;clear hb aH;by_cases oQ:p.len.lo+q<=p.len.hi
      ·obtain⟨l,u⟩:=t;obtain⟨Eh,rfl⟩:(jW b i)[j]?=J ω/\l=bV i ω:=HL.e;have hu:=HO.e.2 _ (ϡ HT.e);rw[KY] at hu;simp only at hu;obtain⟨A5,m5,c5,rfl⟩:=iI hu;have e5:i=m5:=(yq hu).symm;subst e5;have y0: W3.cell? (cR.add j)=J (E A5 i c5):=by have:=cA uJ.e (Δ.aJ dR.e (ϊ _)) gT rfl;rwa[Ì] at this
       have y1:(cR.add j).block<W3.heap.size:=(by rw[b9];omega);have N1:=K (Bo W3 (base:=W3.heap.size) (e:=3) 0 [] rfl (by omega) (ϊ _));have N2:=K ((si hu dR.e (ϊ _)).alloc (Ξ #[] 3));have Wx:ms.length<=100:=by
           have e:=congrArg ŭ IM.e;rw[ã,Þ,ã] at e;have e1:=ak6 (λω=>apP i hwd ω) ((jW b i).take j)
           have e2:=ō j (jW b i);have e3:=ō q (iJ p.len);omega
       have hLL:=K Eh;clear hu Eh;go_wp2_with (first
           | (at_builtin
              refine U2 rfl (.tmp 43) (.tmp 47) 33 rfl W3.heap.size 3 i0 (Y I 0) 1 8 (χ Tryz.underlying33) HI.e.1 HI.e.2.1 HI.e.2.2.1 HI.e.2.2.2 rfl (by decide) _ 0 _ rfl N1.e _ i 0 _ rfl N2.e (LU _) (by simp only[ϕ];omega) (by omega) (by simp) ?_;intro v1 w1 b7 cW;obtain⟨A4,m4,c4,rfl⟩:=iI b7;have yU:=K b7;have HG4:=K cW;clear b7 cW)
           | (at_builtin
              refine U2 rfl (.tmp 48) (.tmp 50) 33 rfl W3.heap.size 3 i0 (Y I 0) 1 8 (χ Tryz.underlying33) HI.e.1 HI.e.2.1 HI.e.2.2.1 HI.e.2.2.2 rfl (by decide) _ (0+i) _ rfl (yU.e.alloc _) _ 1 0 _ rfl (Bo _ 1 [Y I (p.len.lo+q)] rfl (by omega) (ϛ _)) (LU [p.len.lo+q]) (by simp only[ϕ];omega) (by omega) (by have:=HG4.e.size;simp at this |-;omega) ?_;intro v2 w2 gv xA;obtain⟨A6,m6,c6,rfl⟩:=iI gv;have Mf:=K gv;have HG5:=K xA;have B5:Hid (φ W3 w2):=K (by
               have e1:=((ό W3.heap.size W3).alloc (ϊ _) (Ξ #[] 3)).grown HG4.e (by simp) (λk hk=>dX N1.e k hk);exact(e1.alloc e1.size _).grown HG5.e (by have:=e1.size;simp;omega) (λk hk=>dX yU.e k hk))
              have O5:=K (wA.e.below B5.e (ϊ _));clear gv xA)
           | (at_builtin
              refine U2 rfl (.tmp 42) (.tmp 52) 119 rfl W1.heap.size 33 j0 (E H 0 0) 1 24 (χ Tryz.underlying119) HJ.e.1 HJ.e.2.1 HJ.e.2.2.1 HJ.e.2.2.2 rfl (by decide) _ ms.length _ rfl (O5.e.1.alloc _) _ 1 0 _ rfl (Bo _ 1 [E A6 m6 c6] rfl (by omega) (ϛ _)) (λu hu=>by rw[Ô] at hu;subst hu;rfl) (by simp only[ϕ];omega) (by omega) (by have:=B5.e.size;simp;omega) ?_;intro v3 w3 vt We;obtain⟨A7,m7,c7,rfl⟩:=iI vt;have Bx:=K vt;have Tf:=K We;clear vt We))
       go_roundw;case rel=>exact⟨q+1,ms++ [(bV (i+1) (ω.set i (p.len.lo+q)),E A6 m6 c6)],by rw[QG];omega,by go_num,
           (O5.e.below ((ό _ _).alloc (ϊ _) _) (ϊ _)).snoc Tf.e (by
            rw[<-aq4 (p.len.lo+q) (by omega),È,Þ,KY];have:=(Mf.e.alloc (Ξ #[E A6 m6 c6] 33)).base (ϛ _);rwa[ù,ŝ] at this) Bx.e,
           K (by rw[È,IM.e,pT (YJ oQ),È,List.append_assoc];rfl),
           (dR.e.trans ((B5.e.alloc B5.e.size _).mono (by omega))).grown Tf.e (by have:=B5.e.size;simp;omega) (λk hk=>dX O5.e.1 k hk)⟩
       case measure=>simp[ϑ];omega
      ·have eq:q=(iJ p.len).length:=by rw[QG];omega
       go_wp2;go_roundw;case rel=>exact⟨j+1,ms,by omega,by go_num,wA.e,K (by
           rw[IM.e,pT HL.e.1,Ĥ,List.flatMap_singleton,Õ (ò eq.symm)];rfl),dR.e⟩
       case measure=>simp[ϑ];omega
    ·obtain rfl:j=m:=by omega
     go_wp2;go_roundw;case rel=>exact⟨i+1,ns,by omega,by go_num,sB.e.base Z1,K (by
      have e:ts.length=(jW b i).length:=(by have:=congrArg ŭ eK.e;simpa using this);rw[KV.e,apO HP.e,Õ (by rw[<-e,EM.e];exact ϊ _)]),HB.e.trans (dj.e.mono Z1)⟩
     case measure=>simp[ϑ];omega
  ·obtain rfl:i=n1:=by omega
   have afL:=(bD.e.still s1.e).more (B':=W1.heap.size) (by omega);have HBO:=K afL;clear afL;go_wp2;go_loopw [8,9] (λo k wr=>∃(j:Nat) (ns:List (List Int×z)),j<=m/\k=Y I j/\en wr W1.heap.size o ns/\Hid (ns.map É=(((jW b i).take j).filter (z7 b b.pieces.length)).map (bV i))/\Hid (ns.length<=j)/\φ W1 wr) (λ_ k _=>m - (ϑ k).toNat);case atStart=>exact⟨0,[],ϛ _,rfl,en.nil,K rfl,K (ϊ _),ό _ _⟩
   case round=>
    rename N=>W2;obtain⟨j,ns,hj,rfl,aH,KV,Ck,hb⟩:=hrel;have dj:=K hb;have sB:=K aH;have Z2:=hb.size;have nT:=K (kb.e.below hb (by omega))
    have f0: W2.cell? ⟨w.heap.size,0,H⟩=J (Y I b.ab):=nT.e.cell 0;have f1: W2.cell? ⟨w.heap.size,1,H⟩=J (E A1 i c1):=nT.e.cell 1;have f2: W2.cell? ⟨w.heap.size,2,H⟩=J (E A2 n2 c2):=nT.e.cell 2;have f3: W2.cell? ⟨w.heap.size,3,H⟩=J (E A3 n3 c3):=nT.e.cell 3;have hnj:=Ck.e;clear hb aH;by_cases Vp:j<m
    ·have aas:(j:Int)<m:=by omega
     obtain⟨cR,⟨l,u⟩,ju,rfl,gT,ht,rfl,-,fa⟩:=RO.e j Vp;obtain⟨ω,Eh,rfl⟩:∃ω,(jW b i)[j]?=J ω/\l=bV i ω:=by
      have:=Y9 eK.e ht;rw[ú] at this;cases e:(jW b i)[j]? with
      |none=>rw[e] at this;cases this
      |some ω=>rw[e] at this;injection this with this;exact⟨ω,rfl,this.symm⟩
     have hu:=HO.e.2 _ (ϡ ht);simp only at hu;obtain⟨A5,m5,c5,rfl⟩:=iI hu;have y0: W2.cell? (cR.add j)=J (E A5 m5 c5):=by have:=cA fa (Δ.aJ dj.e (ϊ _)) gT rfl;rwa[Ì] at this
     have y1:(cR.add j).block<W2.heap.size:=(by rw[b9];omega);have aG:=K (ai5 (w:=W2.drew) (B:=W1.heap.size) (HBO.e.still (Δ.aJ (dT dj.e) (ϊ _))) Z2 (ω:=ω) (lv:=E A5 m5 c5) (by
      rw[E1.e];exact(CF hu).still (Δ.aJ (dT dj.e) (ϊ _)) λ_ _ h=>h) HV.e ((aa8 HV.e i (by rw[E1.e];exact ϊ _) ω (ϡ Eh)).1))
     have HU:=K hu;have uJ:=K fa;have hLL:=K Eh;clear hu Eh ht fa;obtain⟨q,hq⟩:∃q,q=z7 b b.pieces.length ω:=⟨_,rfl⟩
     rw[<-hq] at aG;have HQ:=K hq;clear hq;go_wp2;refine tA 5 (by kernel_rfl) (by kernel_rfl) ?_
     simp only[ñ,þ,õ,ö];repeat still_step
     refine Ait ?_;cases q with
     |false=>
      go_wp2_with (first
       | (go_at_call 152;refine aG.e.mono ?_;rintro e W3 ⟨rfl,ai⟩
          have dR:Hid (φ W1 W3):=K ((dT dj.e).trans (ai.mono Z2));have O3:=K ((show en W2.drew _ _ _ from sB.e).below ai (ϊ _))
          clear ai))
      go_roundw;case rel=>exact⟨j+1,ns,by omega,by go_num,O3.e,K (by
       rw[KV.e,pT hLL.e,List.filter_append,È];simp[<-HQ.e]),K (by omega),dR.e⟩
      case measure=>simp[ϑ];omega
     |true=>
      go_wp2_with (first
       | (go_at_call 152;refine aG.e.mono ?_;rintro e W3 ⟨rfl,ai⟩
          have dR:Hid (φ W1 W3):=K ((dT dj.e).trans (ai.mono Z2));have O3:=K ((show en W2.drew _ _ _ from sB.e).below ai (ϊ _))
          have x0: W3.cell? (cR.add j)=J (E A5 m5 c5):=(by have:=cA uJ.e (Δ.aJ dR.e (ϊ _)) gT rfl;rwa[Ì] at this);have x1:(cR.add j).block<W3.heap.size:=(by have:=dR.e.size;rw[b9];omega);clear ai)
       | (at_builtin
          refine U2 rfl (.tmp 67) (.tmp 72) 119 rfl W1.heap.size 33 j0 (E H 0 0) 1 24 (χ Tryz.underlying119) HJ.e.1 HJ.e.2.1 HJ.e.2.2.1 HJ.e.2.2.2 rfl (by decide) _ ns.length _ rfl (O3.e.1.alloc _) _ 1 0 _ rfl (Bo _ 1 [E A5 m5 c5] rfl (by omega) (ϛ _)) (λu hu=>by rw[Ô] at hu;subst hu;rfl) (by simp only[ϕ];omega) (by omega) (by have:=dR.e.size;simp;omega) ?_;intro v3 W4 vt We;have Bx:=K vt;have Tf:=K We;clear vt We))
      go_roundw;case rel=>exact⟨j+1,ns++ [(bV i ω,E A5 m5 c5)],by omega,by go_num,
       (O3.e.below ((ό _ _).alloc (ϊ _) _) (ϊ _)).snoc Tf.e (si HU.e (dR.e.alloc dR.e.size _) (ϊ _)) Bx.e,K (by
       rw[È,KV.e,pT hLL.e,List.filter_append,È];simp[<-HQ.e]),K (by simp;omega),
       (dR.e.alloc dR.e.size _).grown Tf.e (by have:=dR.e.size;simp;omega) (λk hk=>dX O3.e.1 k hk)⟩
      case measure=>simp[ϑ];omega
    ·obtain rfl:j=m:=by omega
     go_wp2;go_ret;exact⟨_,ns,rfl,sB.e.base (by omega),by
      have e:ts.length=(jW b i).length:=(by have:=congrArg ŭ eK.e;simpa using this);rw[KV.e,Õ (by rw[<-e,EM.e];exact ϊ _),E1.e];have:=aiI HV.e;rw[E1.e] at this;rw[this],B0.e.trans ((HB.e.mono (by omega)).trans (dj.e.mono (by omega)))⟩
def z8(b:eR)(s:Int):List (List Int):=if bT b s=0 then(aB b).map (bV b.pieces.length) else []
def abi{ts:List (List Int×z)}{l:List α}{f:α->List Int}(h:ts.map É=l.map f):ts.length=l.length:=by have:=congrArg ŭ h;simpa using this
def ab8(ah:aQ w B b pv bv tv)(hB:B<=w.heap.size):
 ύ prog 103 #[η #[Y I b.ab,pv,bv,tv],Y I s] w λe w'=>∃v ts,e=Ω (μ #[v,Y I (bT b s)])/\en w' w.heap.size v ts/\ts.map É=z8 b s/\φ w w':=by
 have bD:=K ah;obtain⟨A1,n1,c1,A2,n2,c2,A3,n3,c3,rfl,rfl,rfl⟩:=ah.op;clear ah;have aG:=K (anp (bD.e.still ((Δ.refl w).alloc hB (Ξ #[Y I b.ab,E A1 n1 c1,E A2 n2 c2,E A3 n3 c3] 26))) (by simp;omega))
 by_cases hc:cZ b=0
 ·rw[hc] at aG;by_cases V:s=0
  ·subst V;have hv:=K (fG hc);have HC:=K hc;clear hc;by_cases hn:(aB b).length=0
   ·have HN:=K hn;clear hn;go_enter func103,Tryz.ntmps103;go_wp2_with (first
      | (go_at_call 69;refine aG.e.mono ?_;rintro e w1 ⟨rfl,ai⟩
         have kb:Bk w1 w.heap.size 26 #[Y I b.ab,E A1 n1 c1,E A2 n2 c2,E A3 n3 c3]:=(Bk.new w _ _).below ai (by simp);have b0:=kb.cell 0;have b1:=kb.cell 1;have b2:=kb.cell 2;have b3:=kb.cell 3;have aW:=K (da (ό _ _) ai (ϊ _));have S1:=K (bD.e.still (((Δ.refl w).alloc hB _).trans (Δ.aJ ai (by simp;omega))))
         clear kb ai)
      | (go_at_call 97;refine(aeo S1.e (by have:=aW.e.size;omega) hv.e).mono ?_;rintro e w2 ⟨v,ts,rfl,aH,eK,an⟩
         obtain⟨A9,n9,c9,rfl⟩:=iI aH.1;have dh:n9=0:=by rw[yq aH.1,abi eK,HN.e]
         have dj:=K (aW.e.trans (an.mono aW.e.size));subst dh;clear aH eK an))
    go_ret2
    have e9:bT b 0=9:=(by unfold bT;rw[if_neg (by simpa using HC.e),if_neg (by simp),if_pos HN.e]);exact⟨_,[],aaG rfl e9.symm,en.nil,by unfold z8;rw[e9];rfl,dj.e⟩
   ·have HN:=K hn;have aif:(aB b).length<=27:=DF hv.e;clear hn;go_enter func103,Tryz.ntmps103;go_wp2_with (first
      | (go_at_call 69;refine aG.e.mono ?_;rintro e w1 ⟨rfl,ai⟩
         have kb:Bk w1 w.heap.size 26 #[Y I b.ab,E A1 n1 c1,E A2 n2 c2,E A3 n3 c3]:=(Bk.new w _ _).below ai (by simp);have b0:=kb.cell 0;have b1:=kb.cell 1;have b2:=kb.cell 2;have b3:=kb.cell 3;have aW:=K (da (ό _ _) ai (ϊ _));have S1:=K (bD.e.still (((Δ.refl w).alloc hB _).trans (Δ.aJ ai (by simp;omega))))
         clear kb ai)
      | (go_at_call 97;refine(aeo S1.e (by have:=aW.e.size;omega) hv.e).mono ?_;rintro e w2 ⟨v,ts,rfl,aH,eK,an⟩
         obtain⟨A9,n9,c9,rfl⟩:=iI aH.1;have dh:n9=(aB b).length:=by rw[yq aH.1,abi eK]
         have dj:=K (aW.e.trans (an.mono aW.e.size));have HO:=K aH;have HT:=K eK;have Fq:((n9:Int)==0)=U:=by have:=HN.e;simp;omega
         have Cs:n9<=27:=(by omega);clear aH eK an dh))
    go_ret2
    have e9:bT b 0=0:=(by unfold bT;rw[if_neg (by simpa using HC.e),if_neg (by simp),if_neg HN.e]);exact⟨_,ts,aaG rfl e9.symm,HO.e.base aW.e.size,by unfold z8;rw[if_pos e9];exact HT.e,dj.e⟩
  ·have hz:(s !=0)=D:=by simpa using V
   have es:bT b s=s:=(by unfold bT;rw[if_neg (by simpa using hc),if_pos V]);have HS:=K (Ϗ es V);clear V hc es;go_enter func103,Tryz.ntmps103;go_wp2_with (first
     | (go_at_call 69;refine aG.e.mono ?_;rintro e w1 ⟨rfl,ai⟩
        have aW:=K (da (ό _ _) ai (ϊ _));clear ai))
   go_ret2
   exact⟨_,[],aaG rfl HS.e.1.symm,en.nil,by unfold z8;rw[HS.e.1,if_neg HS.e.2];rfl,aW.e⟩
 ·obtain⟨c,dg⟩:∃c,c=cZ b:=⟨_,rfl⟩
  rw[<-dg] at aG hc;have hz:(c !=0)=D:=by simpa using hc
  have es:bT b s=c:=by unfold bT;rw[if_pos (by rw[<-dg];exact hc)];exact dg.symm
  have HS:=K (Ϗ es hc);clear dg hc es;go_enter func103,Tryz.ntmps103;go_wp2_with (first
   | (go_at_call 69;refine aG.e.mono ?_;rintro e w1 ⟨rfl,ai⟩
      have aW:=K (da (ό _ _) ai (ϊ _));clear ai))
  go_ret2
  exact⟨_,[],aaG rfl HS.e.1.symm,en.nil,by unfold z8;rw[HS.e.1,if_neg HS.e.2];rfl,aW.e⟩
def aiN(s:Int)(c d:Cut)(n m:Int):nA s d c m n=nA s c d n m:=by
 unfold nA;by_cases h:c.bt=d.bt
 ·rw[Aip];simp[h,or_comm]
 ·have h':d.bt≠c.bt:=λe=>h e.symm;rw[Aip];simp[h,h']
def ak4{l:List Cut}(hb:aQ w B b pv bv tv)(V:Row w B 1 bI sv (bV b.pieces.length ω))(hl:Row w B 2 Cut.R lv l)(hB:B<=w.heap.size)
 (hlen:l.length<=b.pieces.length)(iX:b.pieces.length<=3)(cD:∀(i:Nat) (c:Cut),l[i]?=J c->q9 b c)(hL:ω.Ok)(r8:0<=b.ab/\b.ab<=1000):
 ύ prog 111 #[η #[Y I b.ab,pv,bv,tv],sv,lv] w λe w'=>e=Ω (.bool (db b ω l))/\φ w w':=by
 have bD:=K hb;obtain⟨A1,n1,c1,rfl,e1,h1,du,-⟩:=hb.pieces.Φ;obtain⟨A2,nb,c2,rfl,eb,h2,ei,-⟩:=hb.aC.Φ;obtain⟨A3,n3,c3,rfl,-⟩:=hb.aI.Φ;obtain⟨A,m,c,rfl,e2,h3,xd,T⟩:=hl.Φ;obtain⟨A5,n5,c5,rfl,e5,h5,H9,V8⟩:=V.Φ;rw[KY] at e5;have iB:m<=n5:=by omega
 have auO:n5<=3:=by omega
 have E5:=K e5;unfold ϕ at du ei xd;have IL:m<=3:=by omega
 have E2:=K e2;have EN:=K hlen;have H2:=K T;have H5:=K V8;have OK:=K cD;have HL:=K hL;have ZO:=K r8;obtain⟨W0,bY⟩:∃W0,W0=w.alloc (Ξ #[Y I b.ab,E A1 n1 c1,E A2 nb c2,E A3 n3 c3] 26):=⟨_,rfl⟩
 have Z0:W0.heap.size=w.heap.size+1:=by rw[bY];simp
 have BW:Hid (φ w W0):=K (by rw[bY];exact(ό _ _).alloc (ϊ _) _);have KB:Hid (Bk W0 w.heap.size 26 #[Y I b.ab,E A1 n1 c1,E A2 nb c2,E A3 n3 c3]):=K (by rw[bY];exact Bk.new _ _ _);have S0:Hid (Δ B w W0):=K (by rw[bY];exact(Δ.refl w).alloc hB _);clear hb hl e1 eb e2 e5 T cD hL r8 hlen iX V V8;go_enter func111,Tryz.ntmps111;go_wp2;rw[<-bY];clear bY;go_loopw [7] (λk wr=>∃i:Nat,i<=m/\k=Y I i/\(∀j:Nat,j<i->ql b ω l j=D)/\Γ (w.heap.size+1) W0 wr) (λk _=>m - (ϑ k).toNat);case atStart=>exact⟨0,ϛ _,rfl,λj hj=>by omega,ό _ _⟩
 case round=>
  rename N=>wo;obtain⟨i,hi,rfl,bS,hb⟩:=hrel;have HAL:=K bS;have HB:=K hb;have aN:=hb.size;have kb:=KB.e.below hb (by omega)
  have f0:=kb.cell 0;have f1:=kb.cell 1;have f2:=kb.cell 2;have f3:=kb.cell 3;have st:Δ B w wo:=S0.e.trans (Δ.aJ hb (by omega))
  have ST:=K st;by_cases ao:i<m
  ·obtain⟨ad,x,cs,rfl,aE,hx,rfl,-,aq⟩:=H2.e i ao;obtain⟨ad5,y,cs5,rfl,abp,hy,rfl,-,V9⟩:=H5.e i (by omega);rw[Pw ω (by rw[E5.e];omega)] at hy;cases hy;have g0:=cA V9 st abp rfl;rw[Ì] at g0;have ok:=OK.e i x hx;obtain⟨bd,fr⟩:=x;obtain⟨k,hk,cP⟩:=ok.bt;obtain rfl:bd=(k:Int):=hk;have cq:0<=fr/\fr<=40:=ok.from_;have h0:=cA aq st aE rfl;have h1:=bj aq st aE 0 rfl;have HX:=K hx;obtain⟨p,hp⟩:∃p,b.pieces[i]?=J p:=⟨_,Ñ (by have:=E2.e;have:=EN.e;omega)⟩
   obtain⟨bx,nH⟩:∃bx,b.aC[k]?=J bx:=⟨_,Ñ cP⟩
   have Ot:pN b i (ω.at i) ⟨k,fr⟩=pO bx p.bears (ω.at i) ⟨k,fr⟩:=(by unfold pN;simp[hp,nH]);have Lt:=K Ot;have call:ύ prog 167 #[η #[Y I b.ab,E A1 n1 c1,E A2 nb c2,E A3 n3 c3],Y I i,Y I (ω.at i),η #[Y I k,Y I fr]] wo.drew
    λe w'=>e=Ω (.bool (pO bx p.bears (ω.at i) ⟨k,fr⟩))/\Γ wo.drew.heap.size wo.drew w':=
    arc (B:=B) (bD.e.still λq hq=>st q hq) (by simp;omega) hp nH ⟨cq.1,by omega⟩ (HL.e i)
   have aG:=K call;have xI:(i:Int)<m:=by omega
   have auJ:(i:Int)<n5:=(by omega);clear call hp nH Ot st bS hb hx aq V9 ok kb;obtain⟨q1,rW⟩:∃q,q=pO bx p.bears (ω.at i) ⟨k,fr⟩:=⟨_,rfl⟩
   rw[<-rW] at aG Lt;clear rW;go_wp2;refine tA 10 (by kernel_rfl) (by kernel_rfl) ?_;simp only[ñ,þ,õ,ö];repeat still_step
   refine Ait ?_;cases q1 with
   |false=>
    go_wp2_with (first
     | (go_at_call 167;refine aG.e.mono ?_;rintro e w1 ⟨rfl,ai⟩;have dY:=K (HB.e.trans ((uN ai).mono (show w.heap.size+1<=wo.heap.size by omega)));clear ai))
    go_ret;refine⟨bU ?_,BW.e.trans (dY.e.mono (by omega))⟩;unfold db;rw[E2.e];exact(Mg ao (by unfold ql;rw[HX.e];simp[Lt.e])).symm
   |true=>
    go_wp2_with (first
     | (go_at_call 167;refine aG.e.mono ?_;rintro e w1 ⟨rfl,ai⟩;have dY:=K (HB.e.trans ((uN ai).mono (show w.heap.size+1<=wo.heap.size by omega)));clear ai))
    go_loopw [8] (λυ W=>∃j:Nat,j<=i/\υ=Y I j/\(∀q:Nat,q<j->sg b ω l i ⟨k,fr⟩ q=D)/\Γ (w.heap.size+1) W0 W) (λυ _=>i - (ϑ υ).toNat)
    case atStart=>exact⟨0,ϛ _,rfl,λj hj=>by omega,dY.e⟩
    case round=>
     rename N=>wq;obtain⟨j,hj,rfl,UR,zK⟩:=hrel;have S3:=K UR;have dj:=K zK;have aiM:=zK.size;have kb:=KB.e.below zK (by omega)
     have f0:=kb.cell 0;have f1:=kb.cell 1;have f2:=kb.cell 2;have f3:=kb.cell 3;have st:Δ B w wq:=S0.e.trans (Δ.aJ zK (by omega))
     by_cases oL:j<i
     ·obtain⟨DE,x,bu,lZ,ag7,hx,rfl,-,aq⟩:=H2.e i ao;cases lZ;rw[HX.e] at hx;cases hx;obtain⟨DE,y,bu,lZ,ag7,hy,rfl,-,Cb⟩:=H2.e j (by omega);cases lZ;obtain⟨ad6,υ,cs5,lZ,ae3,hz,rfl,-,V9⟩:=H5.e i (by omega);cases lZ;rw[Pw ω (by rw[E5.e];omega)] at hz;cases hz;obtain⟨ad6,υ,cs5,lZ,ae3,hz,rfl,-,Wc⟩:=H5.e j (by omega);cases lZ;rw[Pw ω (by rw[E5.e];omega)] at hz;cases hz;have XP:=OK.e j y hy;obtain⟨nC,jv⟩:=y;have nI:0<=jv/\jv<=40:=XP.from_;have h0:=cA aq st aE rfl;have h1:=bj aq st aE 0 rfl;have h0':=cA Cb st aE rfl;have du:=bj Cb st aE 0 rfl;have g5:=cA V9 st abp rfl;have g6:=cA Wc st abp rfl;rw[Ì] at g5 g6;have HY:=K hy;have auF:(j:Int)<i:=by omega
      have Vp:j<m:=(by omega);have aas:(j:Int)<m:=(by omega);have hj5:(j:Int)<n5:=(by omega);have hi5:(i:Int)<n5:=(by omega);clear zK hy aq Cb V9 Wc XP st UR kb;have KG:sg b ω l i ⟨k,fr⟩ j=nA b.ab ⟨nC,jv⟩ ⟨k,fr⟩ (ω.at j) (ω.at i):=by unfold sg;rw[HY.e,aiN]
      have Dt:=K KG;clear KG;have call:∀W:N,ύ prog 168 #[η #[Y I b.ab,E A1 n1 c1,E A2 nb c2,E A3 n3 c3],η #[Y I nC,Y I jv],η #[Y I k,Y I fr],Y I (ω.at j),Y I (ω.at i)] W
           λe w'=>e=Ω (.bool (nA b.ab ⟨nC,jv⟩ ⟨k,fr⟩ (ω.at j) (ω.at i)))/\φ W w':=λW=>
          aiJ (c:=⟨nC,jv⟩) (d:=⟨k,fr⟩) ZO.e.1 ZO.e.2 (HL.e j).1 (HL.e j).2 (HL.e i).1 (HL.e i).2 nI.1 (by have:=nI.2;show jv<=1000;omega) cq.1 (by have:=cq.2;show fr<=1000;omega)
      have wh:=K call;clear call;obtain⟨q2,rX⟩:∃q,q=nA b.ab ⟨nC,jv⟩ ⟨k,fr⟩ (ω.at j) (ω.at i):=⟨_,rfl⟩
      rw[<-rX] at wh Dt;clear rX;go_wp2;refine tA 17 (by kernel_rfl) (by kernel_rfl) ?_;simp only[ñ,þ,õ,ö];repeat still_step
      refine Ait ?_;cases q2 with
      |false=>
       go_wp2_with (first
           | (go_at_call 168;refine(wh.e _).mono ?_;rintro e w2 ⟨rfl,an⟩;have eH:=K (dj.e.trans ((uN an).mono (show w.heap.size+1<=wq.heap.size by omega)));clear an))
       go_ret;refine⟨bU ?_,BW.e.trans (eH.e.mono (by omega))⟩;unfold db;rw[E2.e];refine(Mg ao ?_).symm;unfold ql;rw[HX.e];simp only[Lt.e,Aiq];exact Mg oL Dt.e
      |true=>
       go_wp2_with (first
           | (go_at_call 168;refine(wh.e _).mono ?_;rintro e w2 ⟨rfl,an⟩;have eH:=K (dj.e.trans ((uN an).mono (show w.heap.size+1<=wq.heap.size by omega)));clear an))
       go_roundw;case rel=>exact⟨j+1,by omega,by go_num,λq hq=>by
           rcases Ϯ.1 hq with h|rfl
           ·exact S3.e q h
           ·exact Dt.e,eH.e⟩
       case measure=>simp[ϑ];omega
     ·obtain rfl:j=i:=by omega
      clear zK;go_wp2;go_roundw;case rel=>exact⟨j+1,by omega,by go_num,λq hq=>by
          rcases Ϯ.1 hq with h|rfl
          ·exact HAL.e q h
          ·unfold ql;rw[HX.e];simp only[Lt.e,Aiq];exact j7.2 S3.e,dj.e⟩
      case measure=>simp[ϑ];omega
  ·obtain rfl:i=m:=by omega
   clear hb;go_wp2;go_ret;refine⟨bU ?_,BW.e.trans (HB.e.mono (by omega))⟩;unfold db;rw[E2.e];exact(j7.2 HAL.e).symm
def atO{base:Nat}{ts:List (List Int×z)}{ls:List al}{hr:Option ϖ}(h:en w base (E hr m c) ts)(eK:ts.map É=ls.map (bV n))(hj:j<m):
 ∃ad ω A5 c5,hr=J ad/\ad.block<w.heap.size/\ls[j]?=J ω/\w.ownsRow 0 3 1 (E A5 n c5) n ((bV n ω).map (Y I))/\∀w':N,φ w w'-> w'.cell? (ad.add j)=J (E A5 n c5):=by
 obtain⟨T',m',c',e,em,qy,qz,E6⟩:=h.anQ.Φ;injection e with e1 e2 e3;subst e1 e2 e3;obtain⟨ad,⟨l,u⟩,cs,rfl,aE,ht,rfl,-,aq⟩:=E6 j hj;obtain⟨ω,Eh,rfl⟩:∃ω,ls[j]?=J ω/\l=bV n ω:=by
  have:=Y9 eK ht;rw[ú] at this;cases e:ls[j]? with
  |none=>rw[e] at this;cases this
  |some ω=>rw[e] at this;injection this with this;exact⟨ω,rfl,this.symm⟩
 have hu:=h.2 _ (ϡ ht);simp only[KY] at hu;obtain⟨A5,m5,c5,rfl⟩:=iI hu;obtain rfl:=yq hu;exact⟨ad,ω,A5,c5,rfl,aE,Eh,hu,λw' hb=>by have:=cA aq (Δ.aJ hb (ϊ _)) aE rfl;rwa[Ì] at this⟩
def akn(a c:Cut):fO a c= - fO c a:=by
 unfold fO;by_cases h:a.bt=c.bt
 ·rw[if_neg (by simp[h]),if_neg (by simp[h])];omega
 ·rw[if_pos h,if_pos (λe=>h e.symm)];omega
def TD:∀ {l m:List Cut},l.length=m.length->ff l m= - ff m l
 | [],[],_=>rfl
 | [],_::_,h=>by simp at h
 |_::_,[],h=>by simp at h
 |a::l,c::m,h=>by
  unfold ff;rw[akn a c];by_cases e:fO c a=0
  ·rw[if_neg (by omega),if_neg (by omega)];exact TD (by simpa using h)
  ·rw[if_pos (by omega),if_pos e]
def TC:∀ {l m:List Cut},l.length=m.length->ff l m=0->l=m
 | [],[],_,_=>rfl
 | [],_::_,h,_=>by simp at h
 |_::_,[],h,_=>by simp at h
 |a::l,c::m,h,e=>by
  unfold ff at e;by_cases e1:fO a c=0
  ·rw[if_neg (by omega)] at e;rw[Ji e1,TC (by simpa using h) e]
  ·rw[if_pos e1] at e;exact absurd e e1
def alb(p:Nat->Bool):∀n,n<=3->∃k,k<2 ^ n/\∀i,i<n->k.testBit i=p i
 |0,_=>⟨0,by decide,λi hi=>by omega⟩
 |1,_=>by
  refine⟨(p 0).toNat,by cases p 0<;>decide,λi hi=>?_⟩;obtain rfl:i=0:=by omega
  cases p 0<;>decide
 |2,_=>by
  refine⟨(p 0).toNat+2 * (p 1).toNat,by cases p 0<;>cases p 1<;>decide,λi hi=>?_⟩;have:i=0\/i=1:=by omega
  rcases this with rfl|rfl<;>cases p 0<;>cases p 1<;>decide
 |3,_=>by
  refine⟨(p 0).toNat+2 * (p 1).toNat+4 * (p 2).toNat,by cases p 0<;>cases p 1<;>cases p 2<;>decide,λi hi=>?_⟩;have:i=0\/i=1\/i=2:=by omega
  rcases this with rfl|rfl|rfl<;>cases p 0<;>cases p 1<;>cases p 2<;>decide
 |n+4,h=>by omega
def rE:List Int->List Int->Int
 | [],[]=>0
 | [],_::_=> -1
 |_::_,[]=>1
 |x::xs,y::ys=>if Aiz x y=0 then rE xs ys else Aiz x y
def BI{xs ys:List Int}(hv:Row w B 1 bI v xs)(hu:Row w B 1 bI u ys)(hB:B<=w.heap.size):
 ύ prog 139 #[v,u] w λe w'=>e=Ω (Y I (rE xs ys))/\w=w':=by
 obtain⟨A1,n1,c1,rfl,e1,h1,du,r1⟩:=hv.Φ;obtain⟨A2,n2,c2,rfl,e2,h2,ei,r2⟩:=hu.Φ;unfold ϕ at du ei;have R1:=K r1;have R2:=K r2;have ζ:=K (Ϗ e1 e2);clear r1 r2 e1 e2 hv hu;have aG:Hid (∀(x y:Int) (w:N),ύ Tw.prog 181 #[Y I x,Y I y] w λe w'=>e=Ω (Y I (Aiz x y))/\w'=w):=K (λx y w=>Sh.cmp_Compare_int x y w)
 go_enter func139,Tryz.ntmps139;go_wp2;go_loopw [11] (λk wr=>wr=w/\∃i:Nat,i<=n1/\i<=n2/\k=Y I i/\Hid (rE xs ys=rE (xs.drop i) (ys.drop i))) (λk _=>n1 - (ϑ k).toNat);case atStart=>exact⟨rfl,0,ϛ _,ϛ _,rfl,K rfl⟩
 case round=>
  obtain⟨rfl,i,hi,xC,rfl,hc⟩:=hrel;by_cases ao:i<n1
  ·obtain⟨ad,x,cs,lZ,aE,hx,rfl,-,aq⟩:=R1.e i ao;subst lZ;have g0: wr.cell? (ad.add (i * 1))=J (Y I x):=cA aq (Δ.refl wr) aE rfl;rw[Ì] at g0;have EC:xs.drop i=x::xs.drop (i+1):=(Ajf (Ϫ.1 hx).1).trans (by rw[(Ϫ.1 hx).2])
   have Bh:=K EC;clear EC hx aq;by_cases IK:i<n2
   ·obtain⟨cR,y,ju,DX,gT,hy,rfl,-,fa⟩:=R2.e i IK;subst DX;have g1: wr.cell? (cR.add (i * 1))=J (Y I y):=cA fa (Δ.refl wr) gT rfl;rw[Ì] at g1;have xr:ys.drop i=y::ys.drop (i+1):=(Ajf (Ϫ.1 hy).1).trans (by rw[(Ϫ.1 hy).2])
    have wu:=K xr;clear xr hy fa;have asB:((n2:Int)<=(i:Int))=False:=by simp;omega
    obtain⟨c,dg⟩:∃c,c=Aiz x y:=⟨_,rfl⟩
    have CL:=K (aG.e x y wr);rw[<-dg] at CL;have Jm:=K dg;clear dg;by_cases jS:c=0
    ·have hb:(c !=0)=U:=by simp[jS]
     go_wp2_with (first
      | (go_at_call 181;refine CL.e.mono ?_;rintro e w1 ⟨rfl,rfl⟩))
     go_roundw;case rel=>exact⟨trivial,i+1,by omega,by omega,by go_num,K (by rw[hc.e,Bh.e,wu.e,rE,<-Jm.e,if_pos jS])⟩
     case measure=>simp[ϑ];omega
    ·have hb:(c !=0)=D:=by simp[jS]
     go_wp2_with (first
      | (go_at_call 181;refine CL.e.mono ?_;rintro e w1 ⟨rfl,rfl⟩))
     go_ret;exact⟨bm (by rw[hc.e,Bh.e,wu.e,rE,<-Jm.e,if_neg jS]),rfl⟩
   ·obtain rfl:i=n2:=by omega
    have xr:ys.drop i=[]:=Aja (ò ζ.e.2);have wu:=K xr;clear xr;go_wp2;go_ret;exact⟨bm (by rw[hc.e,Bh.e,wu.e,rE]),rfl⟩
  ·obtain rfl:i=n1:=by omega
   have EC:xs.drop i=[]:=Aja (ò ζ.e.1);have Bh:=K EC;clear EC;by_cases hl:i<n2
   ·obtain⟨y,Tr,hy⟩:∃y Tr,ys.drop i=y::Tr:=⟨_,_,Ajf (by rw[ζ.e.2];exact hl)⟩
    have wu:=K hy;clear hy;go_wp2;go_ret;exact⟨bm (by rw[hc.e,Bh.e,wu.e,rE]),rfl⟩
   ·have xr:ys.drop i=[]:=Aja (by rw[ζ.e.2];omega);have wu:=K xr;clear xr;go_wp2;go_ret;exact⟨bm (by rw[hc.e,Bh.e,wu.e,rE]),rfl⟩
def XV{e1 e2:Nat}{v1 v2:z}{x1 x2:List z}(h1:w.ownsRow b1 e1 s1 v1 n1 x1)(h2:w.ownsRow b2 e2 s2 v2 n2 x2)(aw:e1≠e2):∀k,v1.ownBlock=J k->v2.ownBlock≠J k:=by
 intro k hk eD;rcases h1.2 with⟨h0,_⟩ | ⟨g,cap,cur,a1,a2,a3,_⟩
 ·rw[h0] at hk;cases hk
 ·rcases h2.2 with⟨h0,_⟩ | ⟨g',ze,ary,c1,c2,c3,_⟩
  ·rw[h0] at eD;cases eD
  ·rw[a1] at hk;rw[c1] at eD;injection hk with hk;injection eD with eD;simp only at hk eD;subst hk;subst eD;rw[a3] at c3;injection c3 with c3;injection c3 with _ c3;exact aw c3
def dQ(m:Nat)(n:Nat):List Nat:=(ϣ n).filter (λi=>m.testBit i)
def I9(h:m.testBit n=D):dQ m (n+1)=dQ m n++ [n]:=by simp[dQ,œ,h]
def I8(h:m.testBit n=U):dQ m (n+1)=dQ m n:=by simp[dQ,œ,h]
def gy(l:List α)(m n:Nat):List α:=(dQ m n).filterMap (λi=>l[i]?)
def XZ{l:List α}{x:α}(h:m.testBit n=D)(hx:l[n]?=J x):gy l m (n+1)=gy l m n++ [x]:=by unfold gy;rw[I9 h,List.filterMap_append];simp[hx]
def XY{l:List α}(h:m.testBit n=U):gy l m (n+1)=gy l m n:=by unfold gy;rw[I8 h]
def nY(b:eR)(m:Nat):eR:={b with aI:=gy b.aI m b.aI.length}
def am5(f:α->β)(l:List α)(m n:Nat):gy (l.map f) m n=(gy l m n).map f:=by unfold gy;rw[List.map_filterMap];congr 1;funext i;simp
def P3{α:Type}(l:List α)(m:Nat):∀n,n<=l.length->(gy l m n).length=(dQ m n).length
 |0,_=>by simp[gy,dQ]
 |n+1,h=>by
  have ih:=P3 l m n (by omega);cases hb:m.testBit n with
  |true=>rw[XZ hb (Ñ (by omega)),I9 hb];simp[ih]
  |false=>rw[XY hb,I8 hb];exact ih
def mT(m n:Nat):List z:=(dQ m n).map λk:Nat=>Y I (k:Int)
def Fv(m:Nat)(n:Nat):(dQ m n).length<=n:=by unfold dQ;refine Ϥ (List.length_filter_le _ _) (by simp)
structure OI(w W:N)(g υ:Nat)(ab pv bv c7 v6 v7:z)(el:Array z)(n6 n7:Nat)(x6 x7:List z):Prop where
 o6:W.ownsRow (g+3) 3 1 v6 n6 x6
 o7:W.ownsRow (g+3) 95 3 v7 n7 x7
 kr:Bk W (g+1) 117 #[Y I 0,E H 0 0,E H 0 0,E H 0 0]
 kk:Bk W (g+2) 117 #[ab,pv,bv,c7]
 ke:Bk W υ 95 el
 hb:Γ g w W
section
variable {w W W':N}{g υ n6 n7 m:Nat}{ab pv bv c7 v6 v7 v':z}{el:Array z}{x6 x7 ys:List z}
def OI.alloc(h:OI w W g υ ab pv bv c7 v6 v7 el n6 n7 x6 x7)(o:Obj):OI w (W.alloc o) g υ ab pv bv c7 v6 v7 el n6 n7 x6 x7:=
 ⟨World.ownsRow.alloc h.o6 o,World.ownsRow.alloc h.o7 o,h.kr.alloc o,h.kk.alloc o,h.ke.alloc o,h.hb.alloc (by have:=h.kr.lt;omega) o⟩
def OI.SD(h:OI w W g υ ab pv bv c7 v6 v7 el n6 n7 x6 x7)(ho:W'.ownsRow (g+3) 3 1 v' m ys)(hg:W.grownBy W' v6.ownBlock):OI w W' g υ ab pv bv c7 v' v7 el m n7 ys x7:=by
 have ky:=dX h.o6;refine⟨ho,UA h.o7 hg (λk hk e=>XV h.o6 h.o7 (by decide) k e hk),h.kr.grown hg (λe=>by have:=ky _ e.symm;omega),h.kk.grown hg (λe=>by have:=ky _ e.symm;omega),h.ke.grown hg (λe=>?_),h.hb.grown hg (by have:=h.kr.lt;omega) (λk hk=>by have:=ky k hk;omega)⟩;rcases h.o6.2 with⟨h0,_⟩ | ⟨k,cap,cur,a1,a2,a3,_⟩
 ·rw[h0] at e;cases e
 ·rw[a1] at e;injection e with e;have vm:=h.ke;unfold Bk at vm;rw[e] at vm;simp only at vm;rw[a3] at vm;injection vm with vm;injection vm with _ vm;exact absurd vm (by decide)
def OI.SE(h:OI w W g υ ab pv bv c7 v6 v7 el n6 n7 x6 x7)(ho:W'.ownsRow (g+3) 95 3 v' m ys)(hg:W.grownBy W' v7.ownBlock):
 W'.ownsRow (g+3) 3 1 v6 n6 x6/\W'.ownsRow (g+3) 95 3 v' m ys/\Bk W' (g+1) 117 #[Y I 0,E H 0 0,E H 0 0,E H 0 0]/\Bk W' (g+2) 117 #[ab,pv,bv,c7]/\Γ g w W':=by
 have ky:=dX h.o7;exact⟨UA h.o6 hg (λk hk e=>XV h.o6 h.o7 (by decide) k hk e),ho,h.kr.grown hg (λe=>by have:=ky _ e.symm;omega),h.kk.grown hg (λe=>by have:=ky _ e.symm;omega),h.hb.grown hg (by have:=h.kr.lt;omega) (λk hk=>by have:=ky k hk;omega)⟩
def BF{w:N}{g:Nat}{a b c:z}(h:Bk w g t #[a,b,c]):∀(j:Nat) (u:z),[a,b,c][j]?=J u-> w.cell? ((⟨g,0,H⟩:ϖ).add j)=J u:=by intro j u hu;rw[kP];exact(h.cell j).trans (by simpa using hu)
def My{w:N}{g:Nat}{a:z}(h:Bk w g t #[a]):∀(j:Nat) (u:z),[a][j]?=J u-> w.cell? ((⟨g,0,H⟩:ϖ).add j)=J u:=by intro j u hu;rw[kP];exact(h.cell j).trans (by simpa using hu)
def lS{w:N}{b e s g:Nat}{cs:Array z}(h:Bk w g t cs)(ho:w.ownsRow b e s v n xs)(aw:t≠e)(hk:J g=v.ownBlock):False:=by
 rcases ho.2 with⟨h0,_⟩ | ⟨k,cap,cur,a1,a2,a3,_⟩
 ·rw[h0] at hk;cases hk
 ·rw[a1] at hk;injection hk with hk;unfold Bk at h;rw[hk] at h;simp only at h;rw[a3] at h;injection h with h;injection h with _ h;exact aw h.symm
def ai6{w hs:N}{g υ n6 n7:Nat}{ab pv bv c7 v6 v7 a b c:z}{el:Array z}{x6 x7:List z}{o:Obj}(pq:OI w hs.drew g υ ab pv bv c7 v6 v7 el n6 n7 x6 x7)
 (gK:((hs.drew.alloc o).alloc (Ξ #[a,b,c] 95)).grownBy w6 v6.ownBlock):Bk w6 (hs.heap.size+1) 95 #[a,b,c]:=
 (Bk.bZ (g:=hs.heap.size+1) (w:=hs.drew.alloc o) (by simp) 95 #[a,b,c]).grown gK (λe=>lS (Bk.bZ (g:=hs.heap.size+1) (w:=hs.drew.alloc o) (by simp) 95 #[a,b,c]) ((pq.alloc o).alloc _).o6 (by decide) e)
def ai2{w hs:N}{g υ n6 n7:Nat}{ab pv bv c7 v6 v7 a b c:z}{el:Array z}{x6 x7:List z}{o:Obj}(pq:OI w hs.drew g υ ab pv bv c7 v6 v7 el n6 n7 x6 x7)
 (gK:((hs.drew.alloc (Ξ #[a,b,c] 95)).alloc o).grownBy w6 v6.ownBlock):Bk w6 hs.heap.size 95 #[a,b,c]:=
 ((Bk.new hs.drew 95 #[a,b,c]).alloc o).grown gK (λe=>lS ((Bk.new hs.drew 95 #[a,b,c]).alloc o) ((pq.alloc _).alloc o).o6 (by decide) e)
def amB{W:N}(h:W.ownsRow (g+3) 3 1 v6 n6 x6/\W.ownsRow (g+3) 95 3 v' m ys/\Bk W (g+1) 117 #[Y I 0,E H 0 0,E H 0 0,E H 0 0]/\Bk W (g+2) 117 #[ab,pv,bv,c7]/\Γ g w W):
 let hs:=W.setCell ⟨g+2,3,H⟩ v'
 hs.ownsRow (g+3) 3 1 v6 n6 x6/\hs.ownsRow (g+3) 95 3 v' m ys/\Bk hs (g+1) 117 #[Y I 0,E H 0 0,E H 0 0,E H 0 0]/\Bk hs (g+2) 117 #[ab,pv,bv,v']/\Γ g w hs:=by
 intro hs;exact⟨gN h.1 (by simp),gN h.2.1 (by simp),h.2.2.1.dV (by simp) _,h.2.2.2.1.set 3 v',h.2.2.2.2.setCell (by simp) _⟩
end
def amE{v6 v7:z}{ts:List (Tape×z)}(hB:B<=w.heap.size)(ah:aQ w B b pv bv tv)(iF:∀p∈ts,Row w B 1 bI p.2 p.1.pieces)(eK:ts.map É=b.aI)(hn:n=ts.length)
 (h6:W.ownsRow (w.heap.size+3) 3 1 v6 (dQ m n).length (mT m n))(h7:W.ownsRow (w.heap.size+3) 95 3 v7 (dQ m n).length ((gy ts m n).flatMap cE))(hb:φ w W){x0 x1 x2 x3:z}:
 let hs:=(((W.setCell ⟨w.heap.size+1,0,H⟩ x0).setCell ⟨w.heap.size+1,1,H⟩ x1).setCell ⟨w.heap.size+1,2,H⟩ x2).setCell ⟨w.heap.size+1,3,H⟩ x3
 aQ hs hs.heap.size (nY b m) pv bv v7/\cV hs (λk=>k<w.heap.size) 1 bI v6 ((dQ m b.aI.length).map ė)/\φ w hs:=by
 intro hs;have hl:b.aI.length=n:=by rw[<-eK,ã,hn]
 have rN:φ w hs:=(((hb.setCell (by simp) _).setCell (by simp) _).setCell (by simp) _).setCell (by simp) _;have st:Δ B w hs:=Δ.aJ rN hB;have aN:B<=hs.heap.size:=by have:=rN.size;omega
 have o6:hs.ownsRow (w.heap.size+3) 3 1 v6 (dQ m n).length (mT m n):=gN (gN (gN (gN h6 (by simp)) (by simp)) (by simp)) (by simp);have o7:hs.ownsRow (w.heap.size+3) 95 3 v7 (dQ m n).length ((gy ts m n).flatMap cE):=gN (gN (gN (gN h7 (by simp)) (by simp)) (by simp)) (by simp);refine⟨⟨(ah.pieces.still st λ_ _ h=>h).more aN,(ah.aC.still st λ_ _ h=>?_).more aN,?_⟩,?_,rN⟩
 ·obtain⟨k,e1,e2,e3⟩:=h.still st;exact⟨k,e1,e2,e3.more aN⟩
 ·rw[<-P3 ts m n (by omega)] at o7;have:=mZ (R:=λp cs=>cs=cE p) o7 (λ_=>rfl) (λp hm=>rfl);have e:(nY b m).aI=(gy ts m n).map É:=by
   show gy b.aI m b.aI.length=_;rw[hl,<-eK,am5]
  rw[e];refine tD this (λp hm cs hc=>⟨p.2,hc,((iF p ?_).still st λ_ _ h=>h).more aN⟩);unfold gy at hm;obtain⟨k,_,hk⟩:=List.mem_filterMap.1 hm;exact ϡ hk
 ·rw[hl];have e:(mT m n)=((dQ m n).map ė).flatMap (λk=> [Y I k]):=by
   unfold mT;rw[Ug,List.map_map];rfl
  rw[e] at o6;have hlen:(dQ m n).length=((dQ m n).map ė).length:=by simp
  rw[hlen] at o6;exact cV.tt o6 (λ_=>rfl) (λ_ _=>rfl) (λk hk=>by omega)
def acK:∀(m:Fin 16) (i:Fin 4),(bits BinOp.and Ϛ ((m.val:Int) / 2 ^ i.val) 1==1)=m.val.testBit i.val:=by decide+kernel
def only{w:N}{b:eR}{pv bv tv:z}{B m:Nat}(hB:B<=w.heap.size)(ah:aQ w B b pv bv tv)(hv:b.aI.length<=4)(hm:m<16):
 ύ prog 138 #[η #[Y I b.ab,pv,bv,tv],Y I m] w λe w'=>∃ez iv,e=Ω (μ #[η #[Y I b.ab,pv,bv,ez],iv])/\aQ w' w'.heap.size (nY b m) pv bv ez/\
  cV w' (λk=>k<w.heap.size) 1 bI iv ((dQ m b.aI.length).map ė)/\φ w w':=by
 obtain⟨ts,eK,kB⟩:=CY (R':=λ(p:Tape×z) cs=>cs=cE p/\Row w B 1 bI p.2 p.1.pieces) ah.aI (λx cs ⟨kv,h1,h3⟩=>⟨kv,h1,h3⟩);have iF:∀p∈ts,Row w B 1 bI p.2 p.1.pieces:=λp hp=>by obtain⟨cs,h1,h2⟩:=kB.mem p hp;exact h2
 have nR:ts.length=b.aI.length:=by rw[<-eK,ã]
 have HM:=K (Ϗ iF (Ϗ eK nR));have bD:=K ah;obtain⟨A1,n1,c1,rfl,-⟩:=ah.pieces.Φ;obtain⟨A2,n2,c2,rfl,-⟩:=ah.aC.Φ;obtain⟨A3,n3,c3,rfl,e3,h3,xd,r3⟩:=kB.Φ;have R3:=K r3;have iW:n3<=4:=by omega
 have E3:=K e3;unfold ϕ at xd;clear ah kB iF eK nR r3 e3 hv;go_enter func138,Tryz.ntmps138;go_wp2;have L0:Hid (Bk (((w.alloc (Ξ #[Y I b.ab,E A1 n1 c1,E A2 n2 c2,E A3 n3 c3] 117)).alloc (Ξ #[Y I 0,E H 0 0,E H 0 0,E H 0 0] 117)).alloc (Ξ #[Y I b.ab,E A1 n1 c1,E A2 n2 c2,E H 0 0] 117)) (w.heap.size+2) 117 #[Y I b.ab,E A1 n1 c1,E A2 n2 c2,E H 0 0]):=K (Bk.bZ (by simp) _ _)
 go_loopw [6,17] (λv6 u wr=>∃(i:Nat) (v7:z),i<=n3/\u=Y I i/\Hid (wr.ownsRow (w.heap.size+3) 3 1 v6 (dQ m i).length (mT m i))/\Hid (wr.ownsRow (w.heap.size+3) 95 3 v7 (dQ m i).length ((gy ts m i).flatMap cE))/\
  Hid (Bk wr (w.heap.size+1) 117 #[Y I 0,E H 0 0,E H 0 0,E H 0 0])/\Hid (Bk wr (w.heap.size+2) 117 #[Y I b.ab,E A1 n1 c1,E A2 n2 c2,v7])/\Hid (φ w wr)) (λ_ u _=>n3 - (ϑ u).toNat)
 case atStart=>exact⟨0,_,ϛ _,rfl,K ⟨rfl,.inl ⟨rfl,rfl⟩⟩,K ⟨rfl,.inl ⟨rfl,rfl⟩⟩,K ((Bk.bZ (by simp) _ _).alloc _),L0,K ((((ό _ _).alloc (ϊ _) _).alloc (by simp) _).alloc (by simp<;>omega) _)⟩
 case round=>
  obtain⟨i,v7,hi,rfl,h6,h7,T,hk,hb⟩:=hrel;obtain⟨A6,n6,c6,rfl⟩:=ld h6.e;obtain⟨A7,n7,c7,rfl⟩:=ld h7.e;by_cases ao:i<n3
  ·obtain⟨ad,x,cs,lZ,aE,hx,⟨rfl,O8⟩,-,aq⟩:=R3.e i ao;subst lZ;have st:Δ B w wr:=Δ.aJ hb.e hB;obtain⟨x,kv⟩:=x;simp only at O8;obtain⟨m5,ta⟩:∃k,k=x.pieces.length:=⟨_,rfl⟩
   obtain⟨A5,c5,rfl,-⟩:=id O8;rw[<-ta] at hx aq;clear O8 ta;have g0:=cA aq st aE rfl;have g1:=bj aq st aE 0 rfl;have g2:=bj aq st aE 1 rfl;have aN:=hb.e.size;have rK:(ad.add (i * 3)).block<wr.heap.size:=by rw[b9];omega
   have Iq:=acK ⟨m,hm⟩ ⟨i,by omega⟩;simp only at Iq;have HX:=K hx;have uK:=K (Ϗ h6.e (Ϗ h7.e (Ϗ T.e (Ϗ hk.e hb.e))));clear hx aq st;cases xj:m.testBit i with
   |false=>
    rw[xj] at Iq;go_wp2;go_roundw;case rel=>exact⟨i+1,_,by omega,by go_num,K (by unfold mT;rw[I8 xj];exact h6.e.alloc _),K (by rw[I8 xj,XY xj];exact h7.e.alloc _),K (T.e.alloc _),K (hk.e.alloc _),K (hb.e.alloc aN _)⟩
    case measure=>simp[ϑ];omega
   |true=>
    rw[xj] at Iq;go_wp2;obtain⟨i3,fM,gw,iE,bK⟩:=Ö WO;obtain⟨i9,xD,Fq,Cs,jR⟩:=Ö Fz;have pg:=K (Ϗ fM (Ϗ gw (Ϗ iE bK)));have fJ:=K (Ϗ xD (Ϗ Fq (Ϗ Cs jR)));clear fM gw iE bK xD Fq Cs jR h6 h7 T hk hb g0 g1 g2 rK Iq;have pK:OI w (wr.alloc (Ξ #[E A5 m5 c5,Y I x.sum.lo,Y I x.sum.hi] 95)) w.heap.size wr.heap.size (Y I b.ab) (E A1 n1 c1) (E A2 n2 c2) (E A7 n7 c7) (E A6 n6 c6) (E A7 n7 c7) #[E A5 m5 c5,Y I x.sum.lo,Y I x.sum.hi] (dQ m i).length (dQ m i).length (mT m i) ((gy ts m i).flatMap cE):=
     ⟨uK.e.1.alloc _,uK.e.2.1.alloc _,uK.e.2.2.1.alloc _,uK.e.2.2.2.1.alloc _,Bk.new wr _ _,uK.e.2.2.2.2.alloc aN _⟩
    have WC:(wr.alloc (Ξ #[E A5 m5 c5,Y I x.sum.lo,Y I x.sum.hi] 95)).heap.size=wr.heap.size+1:=(by simp);generalize (wr.alloc (Ξ #[E A5 m5 c5,Y I x.sum.lo,Y I x.sum.hi] 95))=hs at pK WC |-;have pq:Hid (OI w hs.drew w.heap.size wr.heap.size (Y I b.ab) (E A1 n1 c1) (E A2 n2 c2) (E A7 n7 c7) (E A6 n6 c6) (E A7 n7 c7) #[E A5 m5 c5,Y I x.sum.lo,Y I x.sum.hi] (dQ m i).length (dQ m i).length (mT m i) ((gy ts m i).flatMap cE)):=K ⟨pK.o6,pK.o7,pK.kr,pK.kk,pK.ke,dT pK.hb⟩;have q7: hs.cell? ⟨w.heap.size+2,3,H⟩=J (E A7 n7 c7):=pK.kk.cell 3;have e0: hs.cell? ⟨wr.heap.size,0,H⟩=J (E A5 m5 c5):=pK.ke.cell 0;have e1: hs.cell? ⟨wr.heap.size,1,H⟩=J (Y I x.sum.lo):=pK.ke.cell 1;have e2: hs.cell? ⟨wr.heap.size,2,H⟩=J (Y I x.sum.hi):=pK.ke.cell 2;have zU:=pK.kk.lt;have ahZ:w.heap.size+2<=hs.heap.size:=by omega
    have ah0:w.heap.size+2<hs.heap.size+1:=(by omega);have ah1:w.heap.size+2<=hs.heap.size+1:=(by omega);have N7:wr.heap.size<hs.heap.size:=(by omega);have ahB:wr.heap.size<=hs.heap.size:=(by omega);have ahD:wr.heap.size<hs.heap.size+1:=(by omega);have ahE:wr.heap.size<=hs.heap.size+1:=(by omega);have ai7:w.heap.size+3<=hs.heap.size:=zU;have sV:(dQ m i).length<=4:=by have:=Fv m i;omega
    obtain⟨nl,Ck⟩:∃k,k=(dQ m i).length:=⟨_,rfl⟩
    rw[<-Ck] at pq sV;have RZ:=K Ck;clear pK uK WC aN Ck;refine Code.wp_mono (Q:=dK λa W=>∃Dl n61 DS Dm FQ DT Zn Zo,a={tmps:=#[Value.agg #[Ϟ Ϛ b.ab,Value.slice A1 n1 c1,Value.slice A2 n2 c2,Value.slice (J ad) n3 c3],Ϟ Ϛ (m:Int),Value.pointer (J {block:=w.heap.size,off:=0}),L,Value.pointer (J {block:=w.heap.size+1,off:=0}),Value.slice H 0 0,Value.slice Dl n61 DS,Value.pointer (J {block:=w.heap.size+1+1,off:=0}),Ϟ Ϛ (i:Int),Value.pointer (J {block:=wr.heap.size,off:=0}),Value.agg #[Ϟ Ϛ b.ab,Value.slice A1 n1 c1,Value.slice A2 n2 c2,Value.slice (J ad) n3 c3],Value.pointer (J {block:=w.heap.size+1+1,off:=0}),Value.pointer (J {block:=w.heap.size+1+1,off:=3}),Value.pointer (J {block:=w.heap.size,off:=0}),Value.pointer (J {block:=w.heap.size,off:=3}),Value.slice (J ad) n3 c3,Ϟ Ϛ (n3:Int),Ϟ Ϛ (i:Int),Value.bool D,Ϟ Ϛ (i:Int),Value.pointer (J (ad.add (i * 3))),Value.agg #[Value.slice A5 m5 c5,Ϟ Ϛ x.sum.lo,Ϟ Ϛ x.sum.hi],Ϟ Ϛ (m:Int),Ϟ Ϛ (i:Int),Ϟ Ϛ ((m:Int) / 2 ^ i),Ϟ Ϛ (bits BinOp.and Ϛ ((m:Int) / 2 ^ i) 1),Value.bool D,Value.slice A6 n6 c6,Ϟ Ϛ (i:Int),Zn,Value.slice Dl n61 DS,Value.pointer (J {block:=w.heap.size+1+1,off:=0}),Value.pointer (J {block:=w.heap.size+1+1,off:=3}),Value.slice A7 n7 c7,Value.agg #[Value.slice A5 m5 c5,Ϟ Ϛ x.sum.lo,Ϟ Ϛ x.sum.hi],Zo,Value.slice Dm FQ DT,Value.pointer (J {block:=w.heap.size+1+1,off:=0}),Value.pointer (J {block:=w.heap.size+1+1,off:=3}),u39,L,L],defers:=[]}/\
     Hid (W.ownsRow (w.heap.size+3) 3 1 (E Dl n61 DS) (nl+1) (mT m i++ [Y I i])/\W.ownsRow (w.heap.size+3) 95 3 (E Dm FQ DT) (nl+1) ((gy ts m i).flatMap cE++ [E A5 m5 c5,Y I x.sum.lo,Y I x.sum.hi])/\
      Bk W (w.heap.size+1) 117 #[Y I 0,E H 0 0,E H 0 0,E H 0 0]/\Bk W (w.heap.size+2) 117 #[Y I b.ab,E A1 n1 c1,E A2 n2 c2,E Dm FQ DT]/\φ w W)) ?post ?region
    case region=>
     go_region_law (first
      | (first
              |refine oe rfl (.tmp 27) (.tmp 29) 33 rfl (w.heap.size+3) 3 i3 (Y I 0) 1 8 (χ Tryz.underlying33) pg.e.1 pg.e.2.1 pg.e.2.2.1 pg.e.2.2.2 rfl (by decide) _ nl (mT m i) rfl (pq.e.alloc _).o6 ⟨hs.heap.size,0,H⟩ 1 1 [Y I i] rfl rfl ?c1 ?c2 ?c3 ?c4 ?c5 ?_
              |refine oe rfl (.tmp 27) (.tmp 29) 33 rfl (w.heap.size+3) 3 i3 (Y I 0) 1 8 (χ Tryz.underlying33) pg.e.1 pg.e.2.1 pg.e.2.2.1 pg.e.2.2.2 rfl (by decide) _ nl (mT m i) rfl ((pq.e.alloc _).alloc _).o6 ⟨hs.heap.size,0,H⟩ 1 1 [Y I i] rfl rfl ?c1 ?c2 ?c3 ?c4 ?c5 ?_
              |refine oe rfl (.tmp 27) (.tmp 29) 33 rfl (w.heap.size+3) 3 i3 (Y I 0) 1 8 (χ Tryz.underlying33) pg.e.1 pg.e.2.1 pg.e.2.2.1 pg.e.2.2.2 rfl (by decide) _ nl (mT m i) rfl ((pq.e.alloc _).alloc _).o6 ⟨hs.heap.size+1,0,H⟩ 1 1 [Y I i] rfl rfl ?c1 ?c2 ?c3 ?c4 ?c5 ?_
         case c1=>first|exact My (Bk.new hs.drew 3 _) |exact My ((Bk.new hs.drew 3 _).alloc _) |exact My (Bk.bZ (w:=hs.drew.alloc _) (by simp) 3 _)
         case c2=>simp[Value.oneCell']
         case c3=>(simp only[ϕ];omega)
         case c4=>omega
         case c5=>first| (simp;done) | (simp;omega)
         intro v6 w6 aH gK;have Bx:Hid (OI w w6 w.heap.size wr.heap.size (Y I b.ab) (E A1 n1 c1) (E A2 n2 c2) (E A7 n7 c7) v6 (E A7 n7 c7) #[E A5 m5 c5,Y I x.sum.lo,Y I x.sum.hi] (nl+1) nl (mT m i++ [Y I i]) ((gy ts m i).flatMap cE)):=K (by first|exact(pq.e.alloc _).SD aH gK|exact((pq.e.alloc _).alloc _).SD aH gK)
         have q7: w6.cell? ⟨w.heap.size+2,3,H⟩=J (E A7 n7 c7):=Bx.e.kk.cell 3;have e0: w6.cell? ⟨wr.heap.size,0,H⟩=J (E A5 m5 c5):=Bx.e.ke.cell 0;have e1: w6.cell? ⟨wr.heap.size,1,H⟩=J (Y I x.sum.lo):=Bx.e.ke.cell 1;have e2: w6.cell? ⟨wr.heap.size,2,H⟩=J (Y I x.sum.hi):=Bx.e.ke.cell 2;have YL:w.heap.size+2<w6.heap.size:=Bx.e.kk.lt;have he6:wr.heap.size<w6.heap.size:=Bx.e.ke.lt;have ash:w.heap.size+2<=w6.heap.size:=by omega
         have ar7:wr.heap.size<=w6.heap.size:=(by omega);try(have HZ:Hid (Bk w6 (hs.heap.size+1) 95 #[E A5 m5 c5,Y I x.sum.lo,Y I x.sum.hi]):=K (ai6 pq.e gK))
         try(have HY:Hid (Bk w6 hs.heap.size 95 #[E A5 m5 c5,Y I x.sum.lo,Y I x.sum.hi]):=K (ai2 pq.e gK))
         obtain⟨Dl,n61,DS,rfl⟩:=ld aH;clear aH gK)
      | (first
              |refine oe rfl (.tmp 33) (.tmp 35) 24 rfl (w.heap.size+3) 95 i9 (η #[E H 0 0,Y I 0,Y I 0]) 3 40 (χ Tryz.underlying24) fJ.e.1 fJ.e.2.1 fJ.e.2.2.1 fJ.e.2.2.2 rfl (by decide) _ nl ((gy ts m i).flatMap cE) rfl (Bx.e.alloc _).o7 ⟨w6.heap.size,0,H⟩ 1 1 [E A5 m5 c5,Y I x.sum.lo,Y I x.sum.hi] rfl rfl ?c1 ?c2 ?c3 ?c4 ?c5 ?_
              |refine oe rfl (.tmp 33) (.tmp 35) 24 rfl (w.heap.size+3) 95 i9 (η #[E H 0 0,Y I 0,Y I 0]) 3 40 (χ Tryz.underlying24) fJ.e.1 fJ.e.2.1 fJ.e.2.2.1 fJ.e.2.2.2 rfl (by decide) _ nl ((gy ts m i).flatMap cE) rfl Bx.e.o7 ⟨hs.heap.size+1,0,H⟩ 1 1 [E A5 m5 c5,Y I x.sum.lo,Y I x.sum.hi] rfl rfl ?c1 ?c2 ?c3 ?c4 ?c5 ?_
              |refine oe rfl (.tmp 33) (.tmp 35) 24 rfl (w.heap.size+3) 95 i9 (η #[E H 0 0,Y I 0,Y I 0]) 3 40 (χ Tryz.underlying24) fJ.e.1 fJ.e.2.1 fJ.e.2.2.1 fJ.e.2.2.2 rfl (by decide) _ nl ((gy ts m i).flatMap cE) rfl Bx.e.o7 ⟨hs.heap.size,0,H⟩ 1 1 [E A5 m5 c5,Y I x.sum.lo,Y I x.sum.hi] rfl rfl ?c1 ?c2 ?c3 ?c4 ?c5 ?_
         case c1=>first|exact BF (Bk.new w6 95 _) |exact BF HZ.e|exact BF HY.e
         case c2=>simp[Value.oneCell']
         case c3=>(simp only[ϕ];omega)
         case c4=>omega
         case c5=>first|omega| (simp;omega)
         intro v7 w7 aH gK;have Ly:Hid (w7.ownsRow (w.heap.size+3) 3 1 _ (nl+1) (mT m i++ [Y I i])/\w7.ownsRow (w.heap.size+3) 95 3 v7 (nl+1) ((gy ts m i).flatMap cE++ [E A5 m5 c5,Y I x.sum.lo,Y I x.sum.hi])/\Bk w7 (w.heap.size+1) 117 #[Y I 0,E H 0 0,E H 0 0,E H 0 0]/\Bk w7 (w.heap.size+2) 117 #[Y I b.ab,E A1 n1 c1,E A2 n2 c2,E A7 n7 c7]/\φ w w7):=K (by first|exact(Bx.e.alloc _).SE aH gK|exact Bx.e.SE aH gK)
         have q3: w7.cell? ⟨w.heap.size+2,3,H⟩=J (E A7 n7 c7):=Ly.e.2.2.2.1.cell 3;have f3: w7.frozen? ⟨w.heap.size+2,3,H⟩=U:=Ly.e.2.2.2.1.frozen 3;obtain⟨Dm,FQ,DT,rfl⟩:=ld aH;clear aH gK))
     all_goals
      show ∃_,_;exact⟨_,_,_,_,_,_,_,_,rfl,K (amB Ly.e)⟩
    case post=>
     clear pq q7 e0 e1 e2 zU ahZ ah0 ah1 N7 ahB ahD ahE ai7 pg fJ;refine dK.imp ?_;rintro a W ⟨Dl,n61,DS,Dm,FQ,DT,Zn,Zo,rfl,hW⟩;have HW:=K hW;clear hW;go_wp2;go_roundw;case rel=>exact⟨i+1,_,by omega,by go_num,K (by unfold mT;rw[I9 xj];have:=HW.e.1;rw[RZ.e] at this;simpa [mT] using this),K (by rw[I9 xj,XZ xj HX.e];have:=HW.e.2.1;rw[RZ.e] at this;simpa [cE] using this),K HW.e.2.2.1,K HW.e.2.2.2.1,K HW.e.2.2.2.2⟩
     case measure=>simp[ϑ];omega
  ·obtain rfl:i=n3:=by omega
   have q0:=hk.e.cell 0;have q1:=hk.e.cell 1;have q2:=hk.e.cell 2;have q3:=hk.e.cell 3;have p0:=T.e.cell 0;have p1:=T.e.cell 1;have p2:=T.e.cell 2;have p3:=T.e.cell 3;have f0:=T.e.frozen 0;have f1:=T.e.frozen 1;have f2:=T.e.frozen 2;have f3:=T.e.frozen 3;have sd:w.heap.size+1<wr.heap.size:=T.e.lt;have mf:=((((T.e.set 0 (Y I b.ab)).set 1 (E A1 n1 c1)).set 2 (E A2 n2 c2)).set 3 (E A7 n7 c7));have y0:=mf.cell 0;have y1:=mf.cell 1;have y2:=mf.cell 2;have y3:=mf.cell 3;clear mf;go_wp2;refine bodyPost_ret (v:=μ #[η #[Y I b.ab,E A1 n1 c1,E A2 n2 c2,E A7 n7 c7],E A6 n6 c6]) (by simp[results,Tryz.results138,go_sem,y0,y1,y2,y3]) rfl ⟨_,_,rfl,?_⟩
   exact amE hB bD.e HM.e.1 HM.e.2.1 (by rw[E3.e]) h6.e h7.e hb.e
def y8(b:eR)(m:Nat)(cur:List Int):Bool:=
 let l:=(dQ m b.aI.length).map ė
 (decide (l.length<cur.length) || (decide (l.length=cur.length) && decide (rE l cur<0))) && decide ((aB (nY b m)).length=0)
def kj(b:eR):Nat->List Int
 |0=>(dQ (2 ^ b.aI.length - 1) b.aI.length).map ė
 |m+1=>if y8 b m (kj b m) then(dQ m b.aI.length).map ė else kj b m
def BH(b:eR):List Int:=if(aB b).length=0 then kj b (2 ^ b.aI.length) else []
def AO(h:Valid b):Valid (nY b m):=by
 have ma:∀t∈(nY b m).aI,t∈b.aI:=λt ht=>by have:t∈gy b.aI m b.aI.length:=ht;unfold gy at this;obtain⟨k,_,hk⟩:=List.mem_filterMap.1 this;exact ϡ hk
 refine⟨h.ab,h.np,h.piece,h.nb,h.bt,?_,λt ht=>h.tape t (ma t ht)⟩;have:(nY b m).aI.length=(dQ m b.aI.length).length:=P3 b.aI m _ (ϊ _);rw[this];exact Ϥ (Fv _ _) h.nt
def ajC{ψ:Act->N->Prop}{a:Act}(F:N->Prop)(h:∀W,F W->ψ a W)(hw:F w):ψ a w:=h w hw
def Tv(h:y8 b m (kj b m)=D):kj b (m+1)=(dQ m b.aI.length).map ė:=by show(if y8 b m (kj b m) then(dQ m b.aI.length).map ė else kj b m)=_;rw[if_pos h]
def Hh(h:y8 b m (kj b m)=U):kj b (m+1)=kj b m:=by show(if y8 b m (kj b m) then(dQ m b.aI.length).map ė else kj b m)=_;rw[h];rfl
def Tu(b:eR):∀m,(kj b m).length<=b.aI.length
 |0=>by simp[kj];exact Fv _ _
 |m+1=>by
  unfold kj;split
  ·simp;exact Fv _ _
  ·exact Tu b m
def ady(hB:B<=w.heap.size)(ah:aQ w B b pv bv tv)(h0:cZ b=0):
 ύ prog 56 #[η #[Y I b.ab,pv,bv,tv]] w λe w'=>∃v,e=Ω (μ #[v,Y I 0])/\Row w' w'.heap.size 1 bI v (BH b)/\φ w w':=by
 have st:Δ B w (w.alloc (Ξ #[Y I b.ab,pv,bv,tv] 26)):=(Δ.refl w).alloc hB _;have aG:=K (qj (ah.still st) (by simp<;>omega) h0)
 have bD:=K ah;have hv:=fG h0;have HV:=K hv;have ag9:=DF hv;have Af:=hv.nt;obtain⟨A1,n1,c1,rfl,-⟩:=ah.pieces.Φ;obtain⟨A2,n2,c2,rfl,-⟩:=ah.aC.Φ;obtain⟨A3,n3,c3,rfl,e3,h3,xd,-⟩:=ah.aI.Φ;rw[e3] at Af;have E3:=K e3;unfold ϕ at xd;obtain⟨na,xK⟩:∃n,n=(aB b).length:=⟨_,rfl⟩
 rw[<-xK] at ag9;by_cases te:0<na
 ·have Dx:=K xK;have gJ:BH b=[]:=by unfold BH;rw[if_neg (by have:=Dx.e;omega)]
  have sA:=K gJ;clear xK gJ;go_enter func56,Tryz.ntmps56;go_wp2_with (first
   | (go_at_call 68;refine aG.e.mono ?_;rintro e w1 ⟨rfl,ai⟩
      have kb:Bk w1 w.heap.size 26 #[Y I b.ab,E A1 n1 c1,E A2 n2 c2,E A3 n3 c3]:=(Bk.new w _ _).below ai (by simp);have k0:=kb.cell 0;have k1:=kb.cell 1;have k2:=kb.cell 2;have k3:=kb.cell 3;have aW:Hid (φ w w1):=K ((((ό _ _).alloc (ϊ _) _)).trans (ai.mono (by simp)))
      have KB:=K kb;have aO:w.heap.size<w1.heap.size:=kb.lt;have K1:Hid (∀w',φ w1 w'->ύ prog 96 #[η #[Y I b.ab,E A1 n1 c1,E A2 n2 c2,E A3 n3 c3]] w' λe bz=>∃v,e=Ω v/\fx bz w'.heap.size v (aB b)/\φ w' bz):=K λw' hw=>by have st:Δ B w w':=Δ.aJ (aW.e.trans (hw.mono (by omega))) hB;exact all (by have:=hw.size;omega) (bD.e.still st) HV.e
      clear kb ai)
   | (go_at_call 96
      refine(K1.e _ ((ό _ _).alloc (ϊ _) _)).mono ?_;rintro e w2 ⟨sv,rfl,aH,an⟩;obtain⟨A9,n9,c9,rfl,dh,kW,fg,jz⟩:=aH.row.Φ;have e9:n9=na:=by rw[<-dh];exact Dx.e.symm
      subst e9;have dj:=K an;clear an aH dh jz))
  go_ret2
  exact⟨_,rfl,by rw[sA.e];exact Row.nil,aW.e.trans ((((ό _ _).alloc (ϊ _) _).trans (dj.e.mono (by simp))).mono (by omega))⟩
 obtain rfl:na=0:=by omega
 have Dx:=K xK;clear ah st hv h0 xK e3;obtain⟨mp,tb⟩:∃mp,2 ^ n3=mp+1:=⟨2 ^ n3 - 1,by have:0<2 ^ n3:=Nat.two_pow_pos n3;omega⟩
 have hp:((2:Int) ^ n3)=(mp:Int)+1:=by
  have h1:((2:Int) ^ n3)=((2 ^ n3:Nat):Int):=by simp
  rw[h1,tb];simp
 have aie:mp<16:=by have:2 ^ n3<=2 ^ 4:=Ail (by omega) Af;omega
 have OT:Ϛ.wrap ((mp:Int)+1)=(mp:Int)+1:=by rw[Aiw];exact Aix _ (by omega)
 have eL:Ϛ.wrap (mp:Int)=(mp:Int):=by rw[Aiw];exact Aix _ (by omega)
 have Yt:Ϛ.wrap ((mp:Int)+1 - 1)=(mp:Int):=by rw[Int.add_sub_cancel];exact eL
 have RY:=K tb;clear tb;go_enter func56,Tryz.ntmps56;go_wp2_with (first
  | (go_at_call 68;refine aG.e.mono ?_;rintro e w1 ⟨rfl,ai⟩
     have kb:Bk w1 w.heap.size 26 #[Y I b.ab,E A1 n1 c1,E A2 n2 c2,E A3 n3 c3]:=(Bk.new w _ _).below ai (by simp);have k0:=kb.cell 0;have k1:=kb.cell 1;have k2:=kb.cell 2;have k3:=kb.cell 3;have aW:Hid (φ w w1):=K ((((ό _ _).alloc (ϊ _) _)).trans (ai.mono (by simp)))
     have KB:=K kb;have aO:w.heap.size<w1.heap.size:=kb.lt;have K1:Hid (∀w',φ w1 w'->ύ prog 96 #[η #[Y I b.ab,E A1 n1 c1,E A2 n2 c2,E A3 n3 c3]] w' λe bz=>∃v,e=Ω v/\fx bz w'.heap.size v (aB b)/\φ w' bz):=K λw' hw=>by have st:Δ B w w':=Δ.aJ (aW.e.trans (hw.mono (by omega))) hB;exact all (by have:=hw.size;omega) (bD.e.still st) HV.e
     clear kb ai)
  | (go_at_call 96
     refine(K1.e _ ((ό _ _).alloc (ϊ _) _)).mono ?_;rintro e w2 ⟨sv,rfl,aH,an⟩;obtain⟨A9,n9,c9,rfl,dh,kW,fg,jz⟩:=aH.row.Φ;have e9:n9=0:=by rw[<-dh,<-Dx.e]
     subst e9;have dj:=K an;have nT:Bk w2 w.heap.size 26 #[Y I b.ab,E A1 n1 c1,E A2 n2 c2,E A3 n3 c3]:=(KB.e.alloc _).below an (by simp<;>omega)
     have qM:Bk w2 w1.heap.size 117 #[Y I b.ab,E A1 n1 c1,E A2 n2 c2,E A3 n3 c3]:=(Bk.new _ _ _).below an (by simp);have q3: w2.cell? ⟨w.heap.size,3,H⟩=J (E A3 n3 c3):=nT.cell 3;have k0:=qM.cell 0;have k1:=qM.cell 1;have k2:=qM.cell 2;have k3:=qM.cell 3;have yY:=K (Ϗ nT qM);clear an aH dh jz nT qM))
 have KS:∀w',Hid (φ w2 w')-> w'.cell? ⟨w.heap.size,3,H⟩=J (E A3 n3 c3)/\ w'.cell? ⟨w1.heap.size,0,H⟩=J (Y I b.ab)/\ w'.cell? ⟨w1.heap.size,1,H⟩=J (E A1 n1 c1)/\ w'.cell? ⟨w1.heap.size,2,H⟩=J (E A2 n2 c2)/\ w'.cell? ⟨w1.heap.size,3,H⟩=J (E A3 n3 c3)/\Hid (φ w2 w'):=λw' h=>
  ⟨(h.e.cell yY.e.1.lt).trans q3,(h.e.cell yY.e.2.lt).trans k0,(h.e.cell yY.e.2.lt).trans k1,(h.e.cell yY.e.2.lt).trans k2,(h.e.cell yY.e.2.lt).trans k3,h⟩
 have HD:Hid (φ w2 w2.drew):=K (dT (ό _ _));have Rr:Hid (∀(m:Nat) (w':N),m<16->φ w2 w'->ύ prog 138 #[η #[Y I b.ab,E A1 n1 c1,E A2 n2 c2,E A3 n3 c3],Y I m] w' λe bz=>∃ez iv,e=Ω (μ #[η #[Y I b.ab,E A1 n1 c1,E A2 n2 c2,ez],iv])/\aQ bz bz.heap.size (nY b m) (E A1 n1 c1) (E A2 n2 c2) ez/\
  cV bz (λk=>k<w'.heap.size) 1 bI iv ((dQ m b.aI.length).map ė)/\φ w' bz):=K λm w' hm hw=>by
  have st:Δ B w w':=Δ.aJ ((aW.e.trans ((((ό _ _).alloc (ϊ _) _).trans (dj.e.mono (by simp))).mono (by omega))).trans (hw.mono (by have:=yY.e.1.lt;omega))) hB;exact only (by have:=hw.size;have:=dj.e.size;have:=aW.e.size;simp at *;omega) (bD.e.still st) HV.e.nt hm
 clear q3 k0 k1 k2 k3;go_region_held3 (λw'=> w'.cell? ⟨w.heap.size,3,H⟩=J (E A3 n3 c3)/\ w'.cell? ⟨w1.heap.size,0,H⟩=J (Y I b.ab)/\ w'.cell? ⟨w1.heap.size,1,H⟩=J (E A1 n1 c1)/\ w'.cell? ⟨w1.heap.size,2,H⟩=J (E A2 n2 c2)/\ w'.cell? ⟨w1.heap.size,3,H⟩=J (E A3 n3 c3)/\Hid (φ w2 w'))
  (first
    |exact KS _ HD|exact KS _ (K (HD.e.alloc (ϊ _) _)) |exact KS _ pj|exact KS _ (K (pj.e.alloc (pj.e.size) _))
    |exact KS _ (K ((((pj.e.setCell (ϊ _) _).setCell (ϊ _) _).setCell (ϊ _) _).setCell (ϊ _) _))
    |exact KS _ (K (((((pj.e.alloc (pj.e.size) _).setCell pj.e.size _).setCell pj.e.size _).setCell pj.e.size _).setCell pj.e.size _)))
  (first
    | (go_at_call 138
       refine(Rr.e mp _ aie ?hx).mono ?_;case hx=>first|exact HD.e|exact HD.e.alloc (ϊ _) _
       rintro e w3 ⟨t6v,i7v,rfl,bK,Cp,Iv⟩;have pj:Hid (φ w2 w3):=K (by first|exact HD.e.trans Iv|exact(HD.e.alloc (ϊ _) _).trans (Iv.mono (by simp)))
       obtain⟨jI,n31,jN,rfl,-⟩:=bK.aI.Φ;obtain⟨Rm,n32,Tk,rfl,-⟩:=id Cp.row.Φ;try(
        have qK:Bk w3 w2.heap.size 117 #[Y I 0,E H 0 0,E H 0 0,E H 0 0]:=(Bk.new w2.drew _ _).below Iv (by simp);have z0: w3.cell? ⟨w2.heap.size,0,H⟩=J (Y I 0):=qK.cell 0;have z1: w3.cell? ⟨w2.heap.size,1,H⟩=J (E H 0 0):=qK.cell 1;have z2: w3.cell? ⟨w2.heap.size,2,H⟩=J (E H 0 0):=qK.cell 2;have z3: w3.cell? ⟨w2.heap.size,3,H⟩=J (E H 0 0):=qK.cell 3;have y0:=qK.frozen 0;have y1:=qK.frozen 1;have y2:=qK.frozen 2;have y3:=qK.frozen 3;have ZN:Hid (cV w3 (λk=>k=w2.heap.size) 1 bI (E Rm n32 Tk) ((dQ mp b.aI.length).map ė)):=K (Cp.weaken (λk hk=>by subst hk;simp))
        have y9:w2.heap.size<w3.heap.size:=qK.lt;clear qK)
       have ZL:=K Cp.row;clear bK Cp Iv))
 all_goals
  have jS:kj b 0=(dQ mp b.aI.length).map ė:=by show(dQ (2 ^ b.aI.length - 1) b.aI.length).map ė=_;rw[E3.e,RY.e,Nat.add_sub_cancel]
  have Ld:=K jS;clear jS;simp only[Exit.then];refine ajC (λW=>Hid (φ w2 W)/\Hid (Row W W.heap.size 1 bI (E Rm n32 Tk) (kj b 0))) ?_ ?_
  rotate_left 1
  ·rw[Ld.e]
   first
    |exact⟨K (pj.e.alloc pj.e.size _),K ((ZL.e.still (Δ.aJ ((ό w3.heap.size w3).alloc (ϊ _) _) (ϊ _)) λ_ _ h=>h).more (by simp))⟩
    |exact⟨K ((((pj.e.setCell (ϊ _) _).setCell (ϊ _) _).setCell (ϊ _) _).setCell (ϊ _) _),
       K ((((ZN.e.grown (wY _ _ _) (λk e=>by injection e with e;exact e.symm)).grown (wY _ _ _) (λk e=>by injection e with e;exact e.symm)).grown (wY _ _ _) (λk e=>by injection e with e;exact e.symm)).grown (wY _ _ _) (λk e=>by injection e with e;exact e.symm)).row⟩
  rintro W ⟨HW,HR⟩;have⟨s3,s0,s1,s2,s4,_⟩:=KS W HW;go_wp2;go_loopw [7,36] (λv7 u wr=>∃m:Nat,m<=mp+1/\u=Y I m/\Hid (φ w2 wr)/\Hid (Row wr wr.heap.size 1 bI v7 (kj b m))) (λ_ u _=>mp+1 - (ϑ u).toNat)
  case atStart=>exact⟨0,ϛ _,rfl,HW,HR⟩
  case round=>
   clear s3 s0 s1 s2 s4;obtain⟨m,hm,rfl,jL,pw⟩:=hrel;obtain⟨wq,rfl⟩:∃wq:N,wq=wr:=⟨_,rfl⟩
   have⟨s3,s0,s1,s2,s4,_⟩:=KS wq jL;obtain⟨A7,n7,c7,rfl,e7,h7,h7',-⟩:=pw.e.Φ;unfold ϕ at h7';by_cases ao:m<mp+1
   ·have yL:=K (Rr.e m wq (by omega) jL.e);obtain⟨ω,hL⟩:∃ω,ω=(dQ m b.aI.length).map ė:=⟨_,rfl⟩
    rw[<-hL] at yL;obtain⟨cur,zP⟩:∃l,l=kj b m:=⟨_,rfl⟩
    rw[<-zP] at pw e7;obtain⟨l,hl⟩:∃l,l=ω.length:=⟨_,rfl⟩
    have VA:l<=4:=(by rw[hl,hL,ã];have:=Fv m b.aI.length;have:=E3.e;omega);have hc4:n7<=4:=(by rw[<-e7,zP];have:=Tu b m;have:=E3.e;omega);obtain⟨cm,oI⟩:∃c,c=rE ω cur:=⟨_,rfl⟩
    obtain⟨nb,eQ⟩:∃n,n=(aB (nY b m)).length:=⟨_,rfl⟩
    have asx:nb<=27:=(by rw[eQ];exact DF (AO HV.e));have UU:y8 b m cur=((decide (l<n7) || (decide (l=n7) && decide (cm<0))) && decide (nb=0)):=by unfold y8;rw[<-hL];simp only[<-hl,<-oI,<-eQ,e7]
    have HE:=K (Ϗ hL (Ϗ zP (Ϗ hl (Ϗ oI (Ϗ eQ (Ϗ e7 UU))))));clear hL zP hl oI eQ e7 UU;have hwm:m+1<=mp+1:=ao;by_cases h1:l<n7
    ·by_cases hE:nb=0
     ·have xe:((nb:Int)==0)=D:=by simp;omega
      go_wp2_with (first
       | (go_at_call 138
          refine yL.e.mono ?_;rintro e w4 ⟨sn,se,rfl,cU,de,eJ⟩;have qZ:Hid (∀w',φ w4 w'->ύ prog 96 #[η #[Y I b.ab,E A1 n1 c1,E A2 n2 c2,sn]] w' λe bz=>∃v,e=Ω v/\fx bz w'.heap.size v (aB (nY b m))/\φ w' bz):=K λw' hw=>all hw.size (cU.still (Δ.aJ hw (ϊ _))) (AO HV.e)
          have qY:Hid (∀w',φ w4 w'->ύ prog 139 #[se,E A7 n7 c7] w' λe bz=>e=Ω (Y I cm)/\w'=bz):=K λw' hw=>by have st:Δ wq.heap.size wq w':=Δ.aJ (eJ.trans (hw.mono eJ.size)) (ϊ _);rw[HE.e.2.2.2.1];exact BI ((de.row.still (Δ.aJ hw (ϊ _)) λ_ _ h=>h)) ((pw.e.still st λ_ _ h=>h).more eJ.size) hw.size
          obtain⟨we,n41,wO,rfl,-⟩:=cU.aI.Φ;obtain⟨Dk,n42,DR,rfl,lY,-⟩:=de.row.Φ;have rF:n42=l:=by rw[<-lY,<-HE.e.2.2.1]
          subst rF;have yZ:=K de.row;have fT:Hid (φ wq w4):=K eJ;clear cU de eJ lY)
       | (go_at_call 139
          refine(qY.e _ ((ό _ _).alloc (ϊ _) _)).mono ?_;rintro e w5 ⟨rfl,rfl⟩)
       | (go_at_call 96
          refine(qZ.e _ ((ό _ _).alloc (ϊ _) _)).mono ?_;rintro e w6 ⟨sv,rfl,aH,eC⟩;obtain⟨A9,n9,c9,rfl,dh,kW,fg,-⟩:=aH.row.Φ;have e9:n9=nb:=by rw[<-dh];exact HE.e.2.2.2.2.1.symm
          subst e9;have dG:=K eC;clear eC aH dh))
      go_roundw;case rel=>exact⟨m+1,by omega,by go_num,K ((jL.e.trans (fT.e.mono jL.e.size)).trans ((((ό w4.heap.size w4).alloc (ϊ _) _).trans (dG.e.mono (by simp))).mono (by have:=fT.e.size;have:=jL.e.size;omega))),K (by
       rw[Tv (by rw[<-HE.e.2.1,HE.e.2.2.2.2.2.2];simp;omega),<-HE.e.1];exact((yZ.e.still (Δ.aJ (((ό w4.heap.size w4).alloc (ϊ _) _).trans (dG.e.mono (by simp))) (ϊ _)) λ_ _ h=>h).more (by have:=dG.e.size;simp at this;omega)))⟩
      case measure=>simp[ϑ];omega
     ·have xe:((nb:Int)==0)=U:=by simp;omega
      go_wp2_with (first
       | (go_at_call 138
          refine yL.e.mono ?_;rintro e w4 ⟨sn,se,rfl,cU,de,eJ⟩;have qZ:Hid (∀w',φ w4 w'->ύ prog 96 #[η #[Y I b.ab,E A1 n1 c1,E A2 n2 c2,sn]] w' λe bz=>∃v,e=Ω v/\fx bz w'.heap.size v (aB (nY b m))/\φ w' bz):=K λw' hw=>all hw.size (cU.still (Δ.aJ hw (ϊ _))) (AO HV.e)
          have qY:Hid (∀w',φ w4 w'->ύ prog 139 #[se,E A7 n7 c7] w' λe bz=>e=Ω (Y I cm)/\w'=bz):=K λw' hw=>by have st:Δ wq.heap.size wq w':=Δ.aJ (eJ.trans (hw.mono eJ.size)) (ϊ _);rw[HE.e.2.2.2.1];exact BI ((de.row.still (Δ.aJ hw (ϊ _)) λ_ _ h=>h)) ((pw.e.still st λ_ _ h=>h).more eJ.size) hw.size
          obtain⟨we,n41,wO,rfl,-⟩:=cU.aI.Φ;obtain⟨Dk,n42,DR,rfl,lY,-⟩:=de.row.Φ;have rF:n42=l:=by rw[<-lY,<-HE.e.2.2.1]
          subst rF;have yZ:=K de.row;have fT:Hid (φ wq w4):=K eJ;clear cU de eJ lY)
       | (go_at_call 139
          refine(qY.e _ ((ό _ _).alloc (ϊ _) _)).mono ?_;rintro e w5 ⟨rfl,rfl⟩)
       | (go_at_call 96
          refine(qZ.e _ ((ό _ _).alloc (ϊ _) _)).mono ?_;rintro e w6 ⟨sv,rfl,aH,eC⟩;obtain⟨A9,n9,c9,rfl,dh,kW,fg,-⟩:=aH.row.Φ;have e9:n9=nb:=by rw[<-dh];exact HE.e.2.2.2.2.1.symm
          subst e9;have dG:=K eC;clear eC aH dh))
      go_roundw;case rel=>exact⟨m+1,by omega,by go_num,K ((jL.e.trans (fT.e.mono jL.e.size)).trans ((((ό w4.heap.size w4).alloc (ϊ _) _).trans (dG.e.mono (by simp))).mono (by have:=fT.e.size;have:=jL.e.size;omega))),K (by
       rw[Hh (by rw[<-HE.e.2.1,HE.e.2.2.2.2.2.2];simp;omega),<-HE.e.2.1];exact((pw.e.still (Δ.aJ (fT.e.trans ((((ό w4.heap.size w4).alloc (ϊ _) _).trans (dG.e.mono (by simp))).mono fT.e.size)) (ϊ _)) λ_ _ h=>h).more (by have:=dG.e.size;have:=fT.e.size;simp at *;omega)))⟩
      case measure=>simp[ϑ];omega
    ·by_cases h2:l=n7
     ·have ei:((l:Int)==(n7:Int))=D:=by simp;omega
      by_cases h3:cm<0
      ·by_cases hE:nb=0
       ·have xe:((nb:Int)==0)=D:=by simp;omega
        go_wp2_with (first
            | (go_at_call 138
               refine yL.e.mono ?_;rintro e w4 ⟨sn,se,rfl,cU,de,eJ⟩;have qZ:Hid (∀w',φ w4 w'->ύ prog 96 #[η #[Y I b.ab,E A1 n1 c1,E A2 n2 c2,sn]] w' λe bz=>∃v,e=Ω v/\fx bz w'.heap.size v (aB (nY b m))/\φ w' bz):=K λw' hw=>all hw.size (cU.still (Δ.aJ hw (ϊ _))) (AO HV.e)
               have qY:Hid (∀w',φ w4 w'->ύ prog 139 #[se,E A7 n7 c7] w' λe bz=>e=Ω (Y I cm)/\w'=bz):=K λw' hw=>by have st:Δ wq.heap.size wq w':=Δ.aJ (eJ.trans (hw.mono eJ.size)) (ϊ _);rw[HE.e.2.2.2.1];exact BI ((de.row.still (Δ.aJ hw (ϊ _)) λ_ _ h=>h)) ((pw.e.still st λ_ _ h=>h).more eJ.size) hw.size
               obtain⟨we,n41,wO,rfl,-⟩:=cU.aI.Φ;obtain⟨Dk,n42,DR,rfl,lY,-⟩:=de.row.Φ;have rF:n42=l:=by rw[<-lY,<-HE.e.2.2.1]
               subst rF;have yZ:=K de.row;have fT:Hid (φ wq w4):=K eJ;clear cU de eJ lY)
            | (go_at_call 139
               have fg:=qY.e (w4.alloc (Obj.cells #[Ϟ Ϛ b.ab,Value.slice A1 n1 c1,Value.slice A2 n2 c2,Value.slice we n41 wO] 117)) ((ό _ _).alloc (ϊ _) _);rw[h2] at fg;refine fg.mono ?_;clear fg;rintro e w5 ⟨rfl,rfl⟩)
            | (go_at_call 96
               refine(qZ.e _ ((ό _ _).alloc (ϊ _) _)).mono ?_;rintro e w6 ⟨sv,rfl,aH,eC⟩;obtain⟨A9,n9,c9,rfl,dh,kW,fg,-⟩:=aH.row.Φ;have e9:n9=nb:=by rw[<-dh];exact HE.e.2.2.2.2.1.symm
               subst e9;have dG:=K eC;clear eC aH dh))
        go_roundw;case rel=>exact⟨m+1,by omega,by go_num,K ((jL.e.trans (fT.e.mono jL.e.size)).trans ((((ό w4.heap.size w4).alloc (ϊ _) _).trans (dG.e.mono (by simp))).mono (by have:=fT.e.size;have:=jL.e.size;omega))),K (by
            rw[Tv (by rw[<-HE.e.2.1,HE.e.2.2.2.2.2.2];simp;omega),<-HE.e.1];have Sq:=yZ.e;rw[h2] at Sq;exact((Sq.still (Δ.aJ (((ό w4.heap.size w4).alloc (ϊ _) _).trans (dG.e.mono (by simp))) (ϊ _)) λ_ _ h=>h).more (by have:=dG.e.size;simp at this;omega)))⟩
        case measure=>simp[ϑ];omega
       ·have xe:((nb:Int)==0)=U:=by simp;omega
        go_wp2_with (first
            | (go_at_call 138
               refine yL.e.mono ?_;rintro e w4 ⟨sn,se,rfl,cU,de,eJ⟩;have qZ:Hid (∀w',φ w4 w'->ύ prog 96 #[η #[Y I b.ab,E A1 n1 c1,E A2 n2 c2,sn]] w' λe bz=>∃v,e=Ω v/\fx bz w'.heap.size v (aB (nY b m))/\φ w' bz):=K λw' hw=>all hw.size (cU.still (Δ.aJ hw (ϊ _))) (AO HV.e)
               have qY:Hid (∀w',φ w4 w'->ύ prog 139 #[se,E A7 n7 c7] w' λe bz=>e=Ω (Y I cm)/\w'=bz):=K λw' hw=>by have st:Δ wq.heap.size wq w':=Δ.aJ (eJ.trans (hw.mono eJ.size)) (ϊ _);rw[HE.e.2.2.2.1];exact BI ((de.row.still (Δ.aJ hw (ϊ _)) λ_ _ h=>h)) ((pw.e.still st λ_ _ h=>h).more eJ.size) hw.size
               obtain⟨we,n41,wO,rfl,-⟩:=cU.aI.Φ;obtain⟨Dk,n42,DR,rfl,lY,-⟩:=de.row.Φ;have rF:n42=l:=by rw[<-lY,<-HE.e.2.2.1]
               subst rF;have yZ:=K de.row;have fT:Hid (φ wq w4):=K eJ;clear cU de eJ lY)
            | (go_at_call 139
               have fg:=qY.e (w4.alloc (Obj.cells #[Ϟ Ϛ b.ab,Value.slice A1 n1 c1,Value.slice A2 n2 c2,Value.slice we n41 wO] 117)) ((ό _ _).alloc (ϊ _) _);rw[h2] at fg;refine fg.mono ?_;clear fg;rintro e w5 ⟨rfl,rfl⟩)
            | (go_at_call 96
               refine(qZ.e _ ((ό _ _).alloc (ϊ _) _)).mono ?_;rintro e w6 ⟨sv,rfl,aH,eC⟩;obtain⟨A9,n9,c9,rfl,dh,kW,fg,-⟩:=aH.row.Φ;have e9:n9=nb:=by rw[<-dh];exact HE.e.2.2.2.2.1.symm
               subst e9;have dG:=K eC;clear eC aH dh))
        go_roundw;case rel=>exact⟨m+1,by omega,by go_num,K ((jL.e.trans (fT.e.mono jL.e.size)).trans ((((ό w4.heap.size w4).alloc (ϊ _) _).trans (dG.e.mono (by simp))).mono (by have:=fT.e.size;have:=jL.e.size;omega))),K (by
            rw[Hh (by rw[<-HE.e.2.1,HE.e.2.2.2.2.2.2];simp;omega),<-HE.e.2.1];exact((pw.e.still (Δ.aJ (fT.e.trans ((((ό w4.heap.size w4).alloc (ϊ _) _).trans (dG.e.mono (by simp))).mono fT.e.size)) (ϊ _)) λ_ _ h=>h).more (by have:=dG.e.size;have:=fT.e.size;simp at *;omega)))⟩
        case measure=>simp[ϑ];omega
      ·go_wp2_with (first
        | (go_at_call 138
           refine yL.e.mono ?_;rintro e w4 ⟨sn,se,rfl,cU,de,eJ⟩;have qZ:Hid (∀w',φ w4 w'->ύ prog 96 #[η #[Y I b.ab,E A1 n1 c1,E A2 n2 c2,sn]] w' λe bz=>∃v,e=Ω v/\fx bz w'.heap.size v (aB (nY b m))/\φ w' bz):=K λw' hw=>all hw.size (cU.still (Δ.aJ hw (ϊ _))) (AO HV.e)
           have qY:Hid (∀w',φ w4 w'->ύ prog 139 #[se,E A7 n7 c7] w' λe bz=>e=Ω (Y I cm)/\w'=bz):=K λw' hw=>by have st:Δ wq.heap.size wq w':=Δ.aJ (eJ.trans (hw.mono eJ.size)) (ϊ _);rw[HE.e.2.2.2.1];exact BI ((de.row.still (Δ.aJ hw (ϊ _)) λ_ _ h=>h)) ((pw.e.still st λ_ _ h=>h).more eJ.size) hw.size
           obtain⟨we,n41,wO,rfl,-⟩:=cU.aI.Φ;obtain⟨Dk,n42,DR,rfl,lY,-⟩:=de.row.Φ;have rF:n42=l:=by rw[<-lY,<-HE.e.2.2.1]
           subst rF;have yZ:=K de.row;have fT:Hid (φ wq w4):=K eJ;clear cU de eJ lY)
        | (go_at_call 139
           have fg:=qY.e (w4.alloc (Obj.cells #[Ϟ Ϛ b.ab,Value.slice A1 n1 c1,Value.slice A2 n2 c2,Value.slice we n41 wO] 117)) ((ό _ _).alloc (ϊ _) _);rw[h2] at fg;refine fg.mono ?_;clear fg;rintro e w5 ⟨rfl,rfl⟩)
        | (go_at_call 96
           refine(qZ.e _ ((ό _ _).alloc (ϊ _) _)).mono ?_;rintro e w6 ⟨sv,rfl,aH,eC⟩;obtain⟨A9,n9,c9,rfl,dh,kW,fg,-⟩:=aH.row.Φ;have e9:n9=nb:=by rw[<-dh];exact HE.e.2.2.2.2.1.symm
           subst e9;have dG:=K eC;clear eC aH dh))
       go_roundw;case rel=>exact⟨m+1,by omega,by go_num,K ((jL.e.trans (fT.e.mono jL.e.size)).trans (((ό w4.heap.size w4).alloc (ϊ _) _).mono (by have:=fT.e.size;have:=jL.e.size;omega))),K (by
        rw[Hh (by rw[<-HE.e.2.1,HE.e.2.2.2.2.2.2];simp;omega),<-HE.e.2.1];exact((pw.e.still (Δ.aJ (fT.e.trans (((ό w4.heap.size w4).alloc (ϊ _) _).mono fT.e.size)) (ϊ _)) λ_ _ h=>h).more (by have:=fT.e.size;simp;omega)))⟩
       case measure=>simp[ϑ];omega
     ·have ei:((l:Int)==(n7:Int))=U:=by simp;omega
      go_wp2_with (first
       | (go_at_call 138
          refine yL.e.mono ?_;rintro e w4 ⟨sn,se,rfl,cU,de,eJ⟩;have qZ:Hid (∀w',φ w4 w'->ύ prog 96 #[η #[Y I b.ab,E A1 n1 c1,E A2 n2 c2,sn]] w' λe bz=>∃v,e=Ω v/\fx bz w'.heap.size v (aB (nY b m))/\φ w' bz):=K λw' hw=>all hw.size (cU.still (Δ.aJ hw (ϊ _))) (AO HV.e)
          have qY:Hid (∀w',φ w4 w'->ύ prog 139 #[se,E A7 n7 c7] w' λe bz=>e=Ω (Y I cm)/\w'=bz):=K λw' hw=>by have st:Δ wq.heap.size wq w':=Δ.aJ (eJ.trans (hw.mono eJ.size)) (ϊ _);rw[HE.e.2.2.2.1];exact BI ((de.row.still (Δ.aJ hw (ϊ _)) λ_ _ h=>h)) ((pw.e.still st λ_ _ h=>h).more eJ.size) hw.size
          obtain⟨we,n41,wO,rfl,-⟩:=cU.aI.Φ;obtain⟨Dk,n42,DR,rfl,lY,-⟩:=de.row.Φ;have rF:n42=l:=by rw[<-lY,<-HE.e.2.2.1]
          subst rF;have yZ:=K de.row;have fT:Hid (φ wq w4):=K eJ;clear cU de eJ lY)
       | (go_at_call 139
          refine(qY.e _ ((ό _ _).alloc (ϊ _) _)).mono ?_;rintro e w5 ⟨rfl,rfl⟩)
       | (go_at_call 96
          refine(qZ.e _ ((ό _ _).alloc (ϊ _) _)).mono ?_;rintro e w6 ⟨sv,rfl,aH,eC⟩;obtain⟨A9,n9,c9,rfl,dh,kW,fg,-⟩:=aH.row.Φ;have e9:n9=nb:=by rw[<-dh];exact HE.e.2.2.2.2.1.symm
          subst e9;have dG:=K eC;clear eC aH dh))
      go_roundw;case rel=>exact⟨m+1,by omega,by go_num,K ((jL.e.trans (fT.e.mono jL.e.size)).trans (((ό w4.heap.size w4).alloc (ϊ _) _).mono (by have:=fT.e.size;have:=jL.e.size;omega))),K (by
       rw[Hh (by rw[<-HE.e.2.1,HE.e.2.2.2.2.2.2];simp;omega),<-HE.e.2.1];exact((pw.e.still (Δ.aJ (fT.e.trans (((ό w4.heap.size w4).alloc (ϊ _) _).mono fT.e.size)) (ϊ _)) λ_ _ h=>h).more (by have:=fT.e.size;simp;omega)))⟩
      case measure=>simp[ϑ];omega
   ·obtain rfl:m=mp+1:=by omega
    have gJ:BH b=kj b (mp+1):=(by unfold BH;rw[if_pos Dx.e.symm,E3.e,RY.e]);have sA:=K gJ;clear gJ;have dw:φ w wq:=(aW.e.trans ((((ό _ _).alloc (ϊ _) _).trans (dj.e.mono (by simp))).mono (by omega))).trans (jL.e.mono (by have:=yY.e.1.lt;omega))
    have lx:=K dw;clear dw;go_wp2
    go_ret2
    exact⟨_,rfl,by rw[sA.e];exact pw.e,lx.e⟩
def apY{A:Option ϖ}(hv:Row w B 1 bI (E A n c) l)(hn:0<n):∃ad,A=J ad/\ad.block<B/\∀W,Δ B w W->∀(j:Nat) (x:Int),l[j]?=J x-> W.cell? (ad.add j)=J (Y I x):=by
 obtain⟨A',n',c',e,e1,-,-,r1⟩:=hv.Φ;cases e;obtain⟨ad,x,cs,rfl,aE,-⟩:=r1 0 hn;refine⟨ad,rfl,aE,λW st j x hx=>?_⟩;have hj:j<n:=by rw[<-e1];exact(Ϫ.1 hx).1
 obtain⟨DE,x',bu,e,ag7,ij,rfl,-,aq⟩:=r1 j hj;cases e;rw[hx] at ij;cases ij;have:=cA aq st aE rfl;rwa[Ì] at this
def aep(h:∀(j:Nat) (x:Int),l[j]?=J x-> W.cell? (ad.add j)=J (Y I x))(i:Nat):∀(j:Nat) (u:z),((l.take i).map (Y I))[j]?=J u-> W.cell? (ad.add j)=J u:=λj u hu=>by
 rw[ú,Ł] at hu;split at hu
 ·cases e:l[j]? with
  |none=>rw[e] at hu;cases hu
  |some x=>rw[e] at hu;cases hu;exact h j x e
 ·cases hu
def ajX(h:∀(j:Nat) (x:Int),l[j]?=J x-> W.cell? (ad.add j)=J (Y I x))(i:Nat):∀(j:Nat) (u:z),((l.drop i).map (Y I))[j]?=J u-> W.cell? ((ad.add i).add j)=J u:=λj u hu=>by
 rw[ú,List.getElem?_drop] at hu;cases e:l[i+j]? with
 |none=>rw[e] at hu;cases hu
 |some x=>rw[e] at hu;cases hu;have:=h (i+j) x e;have e2:(ad.add i).add j=ad.add (i+j):=Sx _ _ _;rw[e2];exact this
def atT(hv:Row w B 1 bI v l)(hB:B<=w.heap.size)(hi:i<l.length)(zx:l.length<=20):
 ύ prog 59 #[v,Y I i] w λe w'=>∃v',e=Ω v'/\w'.ownsRow w.heap.size 3 1 v' (l.eraseIdx i).length ((l.eraseIdx i).map (Y I))/\φ w w':=by
 have HV:=K hv;obtain⟨A,n,c,rfl,e1,h1,du,-⟩:=hv.Φ;unfold ϕ at du;obtain⟨i0,cJ,cK,aO,aZ⟩:=Ö Pd;have HI:=K (Ϗ cJ (Ϗ cK (Ϗ aO aZ)));rw[e1] at hi zx;obtain⟨ad,rfl,aE,hc⟩:=apY hv (by omega)
 have HC:=K hc;have E1:=K e1;have a1:(0:Int)<=(i:Int):=by omega
 have a2:(i:Int)<=(n:Int):=by omega
 have a3:(i:Int)<=(c:Int):=by omega
 have a4:(0:Int)<=(i:Int)+1:=by omega
 have a5:(i:Int)+1<=(n:Int):=by omega
 have a6:(n:Int)<=(c:Int):=by omega
 have a7:Ϛ.wrap ((i:Int)+1)=(i:Int)+1:=by rw[Aiw];exact Aix _ (by omega)
 have a8:(i:Int)+1<=(c:Int):=by omega
 have a9:((i:Int)+1).toNat=i+1:=by omega
 clear cJ cK aO aZ hv e1 hc;by_cases hce:c=i+1
 ·subst hce;obtain rfl:n=i+1:=by omega
  have a0:(i:Int)<=(i:Int)+1:=by omega
  go_enter func59,Tryz.ntmps59;go_wp2;go_region_held3 (λ_=>True) (exact trivial)
   (first
     | (refine oe rfl (.tmp 5) (.tmp 8) 33 rfl w.heap.size 3 i0 (Y I 0) 1 8 (χ Tryz.underlying33) HI.e.1 HI.e.2.1 HI.e.2.2.1 HI.e.2.2.2 rfl (by decide) _ 0 [] rfl (Bo _ 0 [] rfl (by omega) (ϊ _)) _ i _ ((l.take i).map (Y I)) rfl ?c0 ?c1 (LU _) ?c2 ?c3 ?c4 ?_
        case c0=>first| (simp[E1.e];done) | (simp[E1.e];omega)
        case c1=>exact aep (HC.e _ ((Δ.refl w).alloc hB _)) i
        case c2=>simp only[ϕ];omega
        case c3=>first| (simp;done) |omega| (simp;omega)
        case c4=>simp
        intro v1 w1 b7 cW;obtain⟨A4,m4,c4,rfl⟩:=iI b7;have yU:=K b7;have BL:Hid (φ w w1):=K ((dT ((ό w.heap.size w).alloc (ϊ _) (Ξ #[] 3))).grown cW (by simp) (λk hk=>dX (Bo w (base:=w.heap.size) (e:=3) 0 [] rfl (by omega) (ϊ _)) k hk))
        clear b7 cW)
     | (refine oe rfl (.tmp 9) (.tmp 13) 33 rfl w.heap.size 3 i0 (Y I 0) 1 8 (χ Tryz.underlying33) HI.e.1 HI.e.2.1 HI.e.2.2.1 HI.e.2.2.2 rfl (by decide) _ (0+i) ([]++(l.take i).map (Y I)) rfl ?c5 ad 0 0 ((l.drop (i+1)).map (Y I)) ?c6 ?c0 ?c1 (LU _) ?c2 ?c3 ?c4 ?_
        case c5=>first|exact yU.e|exact CR yU.e _
        case c6=>rfl
        case c0=>simp[E1.e]
        case c1=>rw[Aja (by rw[E1.e];omega)];intro j u hu;simp at hu
        case c2=>simp only[ϕ];omega
        case c3=>first| (simp;done) |omega| (simp;omega)
        case c4=>have:=BL.e.size;first|omega| (simp;omega)
        intro v2 w2 gv xA;obtain⟨A5,m5,c5,rfl⟩:=iI gv;have Mf:=K gv;have BL2:Hid (φ w w2):=K (by first|exact BL.e.grown xA (by have:=BL.e.size;omega) (λk hk=>dX yU.e k hk) |exact(dT BL.e).grown xA (by have:=BL.e.size;omega) (λk hk=>dX yU.e k hk))
        clear gv xA))
  go_wp2;go_ret;refine⟨_,rfl,?_,BL2.e⟩;have e:l.eraseIdx i=l.take i++l.drop (i+1):=Ajg l i;have e2:(l.eraseIdx i).length=0+i+0:=by rw[e];simp[E1.e]<;>try omega
  rw[e2,e,È];exact Mf.e
 ·go_enter func59,Tryz.ntmps59;go_wp2;go_region_held3 (λ_=>True) (exact trivial)
   (first
     | (refine oe rfl (.tmp 5) (.tmp 8) 33 rfl w.heap.size 3 i0 (Y I 0) 1 8 (χ Tryz.underlying33) HI.e.1 HI.e.2.1 HI.e.2.2.1 HI.e.2.2.2 rfl (by decide) _ 0 [] rfl (Bo _ 0 [] rfl (by omega) (ϊ _)) _ i _ ((l.take i).map (Y I)) rfl ?c0 ?c1 (LU _) ?c2 ?c3 ?c4 ?_
        case c0=>first| (simp[E1.e];done) | (simp[E1.e];omega)
        case c1=>exact aep (HC.e _ ((Δ.refl w).alloc hB _)) i
        case c2=>simp only[ϕ];omega
        case c3=>first| (simp;done) |omega| (simp;omega)
        case c4=>simp
        intro v1 w1 b7 cW;obtain⟨A4,m4,c4,rfl⟩:=iI b7;have yU:=K b7;have BL:Hid (φ w w1):=K ((dT ((ό w.heap.size w).alloc (ϊ _) (Ξ #[] 3))).grown cW (by simp) (λk hk=>dX (Bo w (base:=w.heap.size) (e:=3) 0 [] rfl (by omega) (ϊ _)) k hk))
        clear b7 cW)
     | (refine oe rfl (.tmp 9) (.tmp 13) 33 rfl w.heap.size 3 i0 (Y I 0) 1 8 (χ Tryz.underlying33) HI.e.1 HI.e.2.1 HI.e.2.2.1 HI.e.2.2.2 rfl (by decide) _ (0+i) ([]++(l.take i).map (Y I)) rfl ?c5 (ad.add (i+1)) (n - (i+1)) (c - (i+1)) ((l.drop (i+1)).map (Y I)) ?c6 ?c0 ?c1 (LU _) ?c2 ?c3 ?c4 ?_
        case c5=>first|exact yU.e|exact CR yU.e _
        case c6=>rfl
        case c0=>simp[E1.e]
        case c1=>exact ajX (HC.e _ (Δ.aJ (by first|exact BL.e|exact dT BL.e) hB)) (i+1)
        case c2=>simp only[ϕ];omega
        case c3=>first| (simp;done) |omega| (simp;omega)
        case c4=>have:=BL.e.size;first|omega| (simp;omega)
        intro v2 w2 gv xA;obtain⟨A5,m5,c5,rfl⟩:=iI gv;have Mf:=K gv;have BL2:Hid (φ w w2):=K (by first|exact BL.e.grown xA (by have:=BL.e.size;omega) (λk hk=>dX yU.e k hk) |exact(dT BL.e).grown xA (by have:=BL.e.size;omega) (λk hk=>dX yU.e k hk))
        clear gv xA))
  go_wp2;go_ret;refine⟨_,rfl,?_,BL2.e⟩;have e:l.eraseIdx i=l.take i++l.drop (i+1):=Ajg l i;have e2:(l.eraseIdx i).length=0+i+(n - (i+1)):=by rw[e];simp[E1.e]<;>try omega
  rw[e2,e,È];exact Mf.e
def anT(P:Program)(w:N)(base:Nat)(t ty e:ώ)(i:ă)(size c:Nat)(ht:P.underlying t=J (.slice e))(hi: P.info? e=J i)
 (v:z)(n:Nat)(xs:List z)(aH:w.ownsRow base e size v n xs):
 (Builtin.append_ #[t,t] ty #[v,E H 0 c]).run P w=.ok v w:=by
 rcases aH.2 with⟨rfl,rfl⟩ | ⟨g,cap,cur,rfl,_,_,ey,_⟩
 ·simp[Builtin.append_,run_underlying ht,sizeOf,typeInfo,hi,Builtin.lenOf,Builtin.firstCells]
 ·simp[Builtin.append_,run_underlying ht,sizeOf,typeInfo,hi,Builtin.lenOf,Builtin.firstCells,ey,storeCells]
def oy(No:Nat->Prop)(W χ:N):Prop:=W.heap.size<=χ.heap.size/\∀p:ϖ,p.block<W.heap.size->¬No p.block-> χ.cell? p= W.cell? p
def F8{No:Nat->Prop}{χ:N}{sz:Nat}{R:α->List z->Prop}{xs:List α}(h:cV W No sz R v xs)(hU:oy No W χ):Row χ χ.heap.size sz R v xs:=by
 obtain⟨A,c,hv,h1,h2,h3⟩:=h;refine⟨A,c,hv,h1,h2,λhx=>?_⟩;obtain⟨ad,ha,hb,hn,hc⟩:=h3 hx;have hz:=hU.1;refine⟨ad,ha,by omega,λi x hi=>?_⟩
 obtain⟨cs,r,hl,aq⟩:=hc i x hi;exact⟨cs,r,hl,λj u hu=>(hU.2 _ (by rw[b9];exact hb) (by rw[b9];exact hn)).trans (aq j u hu)⟩
def jJ.kept{No:Nat->Prop}{χ:N}{bs:List (bN×z)}{ts:List (Tape×z)}(h:jJ W No b pv bv tv bs ts)(hU:oy No W χ):aQ χ χ.heap.size b pv bv tv:=by
 refine⟨F8 h.p hU,?_,?_⟩
 ·rw[<-h.mG];exact tD (F8 h.bo hU) λp hm cs hc=>⟨p.2,hc,(h.kn p hm).1,F8 (h.kn p hm).2 hU⟩
 ·rw[<-h.oh];exact tD (F8 h.t hU) λp hm cs hc=>⟨p.2,hc,F8 (h.tp p hm) hU⟩
def oy.qT{No:Nat->Prop}{χ:N}{q:ϖ}(h:oy No (W.setCell q u) χ)(hq:No q.block):oy No W χ:=by refine⟨by simpa using h.1,λp hp hn=>?_⟩;rw[<-Ai2 W q p u (λe=>hn (e▸hq))];exact h.2 p (by simpa using hp) hn
def oy.weaken{No oz:Nat->Prop}{χ:N}(h:oy No W χ)(hN:∀k,No k->oz k):oy oz W χ:=⟨h.1,λp hp hn=>h.2 p hp λhk=>hn (hN _ hk)⟩
def jG:eR:=⟨0,[],[],[]⟩
def Rj(w:N)(B:Nat):aQ w B jG (E H 0 0) (E H 0 0) (E H 0 0):=⟨Row.nil,Row.nil,Row.nil⟩
def yR(No:Nat->Prop)(w w':N)(o:eR)(s:Int)(e:Ending):Prop:=
 ∃P' n1 c1 A' n2 c2 T' n3 c3,e=Ω (μ #[η #[Y I o.ab,E P' n1 c1,E A' n2 c2,E T' n3 c3],Y I s])/\(∀χ,oy No w' χ->aQ χ χ.heap.size o (E P' n1 c1) (E A' n2 c2) (E T' n3 c3))/\φ w w'
def Uz{No:Nat->Prop}(hb:φ w w'):yR No w w' jG s (Ω (μ #[η #[Y I 0,E H 0 0,E H 0 0,E H 0 0],Y I s])):=
 ⟨H,0,0,H,0,0,H,0,0,rfl,λχ _=>Rj χ _,hb⟩
def fF(b:eR)(t:Tape):eR:={b with aI:=b.aI++ [t]}
def nf(b:eR)(t:Tape):eR:=if bT (fF b t) 0=0 then fF b t else jG
def apq{P:Program}{ops:Array Oper}{a:Act}{w:N}{ψ:Act->N->Prop}{Q:Exit->Act->N->Prop}{ζ:Prop}(hg:o.guard=H)(s x:Operand)(t:ώ)
 (ho:o.op=.call {callee:=.builtin .append,args:=#[s,x],argTypes:=#[t,t]})
 (base:Nat)(e:ώ)(i:ă)(υ:z)(size bytes:Nat)(ht:P.underlying t=J (.slice e))(hi: P.info? e=J i)(hz:i.zero=J υ)
 (vB:i.size=size)(Ey:i.bytes=bytes)(Pc:υ.cells.size=size)(aN:0<size)
 (v:z)(n:Nat)(xs:List z)(V:a.eval s=v)(aH:w.ownsRow base e size v n xs)
 {f:α->List z}(u:z)(l:List α)(hx:a.eval x=u)(hu:Row w B size (λy cs=>cs=f y) u l)(hf:∀y,(f y).length=size)(h1:∀u∈l.flatMap f,u.oneCell'=D)
 (Ia:n+l.length<=ϕ)(Gy:(n+l.length) * bytes<=140737488355328)(Eu:base<=w.heap.size)
 (h:∀v' w',w'.ownsRow base e size v' (n+l.length) (xs++l.flatMap f)->w.grownBy w' v.ownBlock->ψ (a.put o.dst v') w'):if ϸ o (À ops a.tmps)=D then ĵ P o a w ψ Q else ζ:=by
 have hw:ϸ o (À ops a.tmps)=D:=by simp[ϸ,hg]
 rw[if_pos hw];obtain⟨A,c,hv,-,-,hc⟩:=id hu;subst hv;cases A with
 |none=>
  have hl:l=[]:=by
   cases l with
   |nil=>rfl|cons y l=>obtain⟨ad,h,-⟩:=hc (by simp);cases h
  subst hl;have bh:=anT P w base t o.type e i size c ht hi v n xs aH;have h':=h v w (by simpa using aH) ⟨rfl,rfl,rfl,ϊ _,λ_ _ _=>rfl⟩
  unfold ĵ;simp[execOp,ho,resolve,invoke,builtin,V,hx,bh,Result.andThen];exact h'
 |some ad=>exact wp_append_own w s x t ho base e i υ size bytes ht hi hz vB Ey Pc aN v n xs V aH ad l.length c (l.flatMap f) hx (uT hf l) (hu.cells hf).1 h1 Ia Gy Eu λv' w' h2 h3 _=>h v' w' h2 h3
end Go.Tw
namespace Go.Tw
open Go Go.Proofs Go.RowKit
section
variable [Go.Tw.aK]
variable {P:Program}{md:Region.Mode}{ops:Array Oper}{Q:Exit->Act->N->Prop}{S:N->Prop}{w:N}{a:Act}{n f:Nat}{d:List Nat}
def agV(i j:Nat)(d:List Nat)(n:Nat):lits (i::j::d) n=lits (j::i::d) n:=by unfold lits;congr 2;funext k;show(i::j::d).elem k=(j::i::d).elem k;rw[Ajh,Ajh];simp only[Ϡ];rw[decide_eq_decide];constructor<;>(rintro(h|h|h)<;>simp[h])
def ahc(h:i≠j)(u v:z)(a:Act):(a.put (J i) u).put (J j) v=(a.put (J j) v).put (J i) u:=by unfold Ò;simp only;congr 1;exact Array.setIfInBounds_comm _ _ h
def aaF(h:i<a.tmps.size):(a.put (J i) v).eval (.tmp i)=v:=by unfold Ò Act.eval;simp[æ,h]
def LV(h:i≠j):(a.put (J i) v).eval (.tmp j)=a.eval (.tmp j):=by unfold Ò Act.eval;simp only[æ];rw[Array.getElem?_setIfInBounds,if_neg h]
def ab9{i:Option Nat}:(a.put i v).tmps.size=a.tmps.size:=by
 cases i<;>simp[Ò]
def ade(md:Region.Mode)(ops:Array Oper)(n:Nat)(d:List Nat)(i0 i1 i2 i3:Nat):Bool:=
 ϯ md ops (lits d n)==[i0,i2] && (ϯ md ops (lits (i0::d) n)==[i1,i2] && (ϯ md ops (lits (i2::d) n)==[i0] && (ϯ md ops (lits (i1::i0::d) n)==[i2] && (ϯ md ops (lits (i2::i0::d) n)==[i1] && (ϯ md ops (lits (i0::i2::d) n)==[i1] && ϯ md ops (lits (i2::i1::i0::d) n)==[i3])))))
def ae4(i0 i1 i2 i3 d0 d1 d2 d3 s x:Nat){t e:ώ}{it:ă}{υ:z}{size bytes:Nat}
 (h0:∃o,ops[i0]?=J o/\o.op=.buildSlice t 0 #[]/\o.dst=J d0/\o.guard=H)
 (h1:∃o,ops[i1]?=J o/\o.op=.call {callee:=.builtin .append,args:=#[.tmp d0,.tmp s],argTypes:=#[t,t]}/\o.dst=J d1/\o.guard=H)
 (h2:∃o,ops[i2]?=J o/\o.op=.buildSlice t 1 #[(0,.tmp x)]/\o.dst=J d2/\o.guard=H)
 (h3:∃o,ops[i3]?=J o/\o.op=.call {callee:=.builtin .append,args:=#[.tmp d1,.tmp d2],argTypes:=#[t,t]}/\o.dst=J d3/\o.guard=H)
 (T:ade md ops n d i0 i1 i2 i3=D)(hd:d0<a.tmps.size/\d1<a.tmps.size/\d2<a.tmps.size/\d0≠d1/\d0≠d2/\d1≠d2/\d0≠s/\d2≠s/\d0≠x/\d1≠x)
 (ht:P.underlying t=J (.slice e))(hi: P.info? e=J it)(hz:it.zero=J υ)(vB:it.size=size)(Ey:it.bytes=bytes)(Pc:υ.cells.size=size)(aN:0<size)
 (OD:∀w,(ĺ t 0 #[]).run P w=.ok (E (J ⟨w.heap.size,0,H⟩) 0 0) (w.alloc (Ξ #[] e)))
 {fs:α->List z}{xv:z}{l:List α}(hu:a.eval (.tmp s)=u)(hx:a.eval (.tmp x)=xv)
 (Cm:∀w,(ĺ t 1 #[(0,xv)]).run P w=.ok (E (J ⟨w.heap.size,0,H⟩) 1 1) (w.alloc (.cells ys.toArray e)))
 (dE:∀W,φ w W->Row W B size (λy cs=>cs=fs y) u l)(hfs:∀y,(fs y).length=size)(fU:∀v∈l.flatMap fs,v.oneCell'=D)(hys:ys.length=size)(eu:∀v∈ys,v.oneCell'=D)
 (Ia:l.length+1<=ϕ)(Gy:(l.length+1) * bytes<=140737488355328)(hS:∀W,φ w W->S W)
 (h:∀v0 v1 v2 v3 W,W.ownsRow w.heap.size e size v3 (l.length+1) (l.flatMap fs++ys)->φ w W->S W->wpAnyH P md ops Q S f (lits (i3::i2::i1::i0::d) n) ((((a.put (J d0) v0).put (J d1) v1).put (J d2) v2).put (J d3) v3) W):
 wpAnyH P md ops Q S (f+4) (lits d n) a w:=by
 obtain⟨o0,WX,op0,dt0,gd0⟩:=h0;obtain⟨o1,IQ,op1,dt1,gd1⟩:=h1;obtain⟨o2,H8,op2,dt2,gd2⟩:=h2;obtain⟨o3,ho3,op3,dt3,gd3⟩:=h3;obtain⟨l0,l1,l2,n01,n02,gM,n0s,n2s,n0x,n1x⟩:=hd;unfold ade at T;simp only[Ä] at T;obtain⟨r0,r1,r2,r3,r4,r5,r6⟩:=T;have wn:∀ {o:Oper} (a:Act),o.guard=H->ϸ o (À ops a.tmps)=D:=λa h=>by simp[ϸ,h]
 have mk0:∀(a:Act) (W:N) (ψ:Act->N->Prop) (Q':Exit->Act->N->Prop),ψ (a.put (J d0) (E (J ⟨W.heap.size,0,H⟩) 0 0)) (W.alloc (Ξ #[] e))->ĵ P o0 a W ψ Q':=λa W ψ Q' h=>by rw[<-dt0] at h;unfold ĵ execOp;simp only[op0,Sem.run_bind,ī,ĥ,OD,Result.andThen_ok];exact h
 have mk2:∀(a:Act) (W:N) (ψ:Act->N->Prop) (Q':Exit->Act->N->Prop),a.eval (.tmp x)=xv->ψ (a.put (J d2) (E (J ⟨W.heap.size,0,H⟩) 1 1)) (W.alloc (.cells ys.toArray e))->ĵ P o2 a W ψ Q':=λa W ψ Q' hx h=>by rw[<-dt2] at h;unfold ĵ execOp;simp only[op2,Sem.run_bind,ī,Ę,ĥ,hx,Cm,Result.andThen_ok];exact h
 have hr:∀(v0 v1:z) (g:Nat) (W:N),W.ownsRow w.heap.size e size v1 l.length (l.flatMap fs)->W.heap[g]?=J (.cells ys.toArray e (0,0))->φ w W->S W->
  wpAnyH P md ops Q S (f+1) (lits (i2::i1::i0::d) n) (((a.put (J d0) v0).put (J d1) v1).put (J d2) (E (J ⟨g,0,H⟩) 1 1)) W:=by
  intro v0 v1 g W aH hg hb V;refine aa6 i3 ho3 r6 (λψ Q' hK=>?_);refine oe gd3 (.tmp d1) (.tmp d2) t op3 w.heap.size e it υ size bytes ht hi hz vB Ey Pc aN v1 l.length _ (by rw[LV gM.symm,aaF (by rw[ab9];exact l1)]) aH ⟨g,0,H⟩ 1 1 ys (aaF (by rw[ab9,ab9];exact l2)) (by omega) (λj y hy=>?_) eu Ia Gy hb.size (λv3 W3 vt ew=>?_)
  ·rw[kP];exact((show Bk W g e ys.toArray from hg).cell j).trans (by simpa using hy)
  ·rw[dt3];have bK:φ w W3:=hb.grown ew hb.size (λk hk=>dX aH k hk);exact hK.out _ _ (hS _ bK) λiE=>h v0 v1 _ v3 W3 vt bK iE
 have A:∀(a':Act) (v0:z) (X:N) (ψ:Act->N->Prop) (Q':Exit->Act->N->Prop) (ζ:Prop),a'.eval (.tmp d0)=v0->a'.eval (.tmp s)=u->X.ownsRow w.heap.size e size v0 0 []->φ w X->
  (∀v1 X1,X1.ownsRow w.heap.size e size v1 l.length (l.flatMap fs)->X.grownBy X1 v0.ownBlock->φ w X1->ψ (a'.put (J d1) v1) X1)->if ϸ o1 (À ops a'.tmps)=D then ĵ P o1 a' X ψ Q' else ζ:=by
  intro a' v0 X ψ Q' ζ e0 es aH hb hk;refine apq gd1 (.tmp d0) (.tmp s) t op1 w.heap.size e it υ size bytes ht hi hz vB Ey Pc aN v0 0 [] e0 aH (f:=fs) (B:=B) u l es (dE X hb) hfs fU (by omega) (Ϥ (ž _ (by omega)) Gy) hb.size (λv1 X1 h1 h2=>?_);rw[dt1];rw[ŝ,ù] at h1;exact hk v1 X1 h1 h2 (hb.grown h2 hb.size (λk hk=>dX aH k hk))
 have ag2:∀X:N,φ w X->(X.alloc (Ξ #[] e)).ownsRow w.heap.size e size (E (J ⟨X.heap.size,0,H⟩) 0 0) 0 []:=λX hb=>⟨by simp,.inr ⟨_,0,#[],rfl,hb.size,Ľ _ _,ϊ _,by unfold ϕ;omega,by simp,by simp⟩⟩
 have b0:∀o,φ w (w.alloc o):=λo=>(ό _ _).alloc (ϊ _) o;have b1:∀o o',φ w ((w.alloc o).alloc o'):=λo o'=>(b0 o).alloc (by simp) o';have B2:∀(g0 g:Nat) (X:N) (θ:List Nat),lits (i1::θ) n=lits (i2::i1::i0::d) n->(ϯ md ops (lits θ n)==[i1])=D->X.ownsRow w.heap.size e size (E (J ⟨g0,0,H⟩) 0 0) 0 []->X.heap[g]?=J (.cells ys.toArray e (0,0))->g0≠g->φ w X->S X->
  wpAnyH P md ops Q S (f+2) (lits θ n) ((a.put (J d0) (E (J ⟨g0,0,H⟩) 0 0)).put (J d2) (E (J ⟨g,0,H⟩) 1 1)) X:=by
  intro g0 g X θ hD hrD aH hg aw hb V;refine aa6 i1 IQ hrD (λψ Q' hK=>?_);refine A _ (E (J ⟨g0,0,H⟩) 0 0) X ψ Q' _ (by rw[LV n02.symm,aaF l0]) (by rw[LV n2s,LV n0s];exact hu) aH hb (λv1 X1 h1 ew ai=>hK.out _ _ (hS _ ai) λdi=>?_);rw[hD,ahc gM.symm];refine hr _ v1 g X1 h1 ((ew.block g (Ϝ.1 hg).1 (λe=>aw ?_)).trans hg) ai di;simp[Value.ownBlock] at e;exact e.symm
 refine afT i0 i2 WX H8 r0 (wn _ gd0) (wn _ gd2) (λψ Q' hK=>?_) (λψ Q' hK=>?_)
 ·refine mk0 _ _ _ _ (hK.out _ _ (hS _ (b0 _)) λ_=>?_);have o0':=ag2 w (ό _ _);refine afT i1 i2 IQ H8 r1 (wn _ gd1) (wn _ gd2) (λψ Q' hK=>?_) (λψ Q' hK=>?_)
  ·have:=A (a.put (J d0) (E (J ⟨w.heap.size,0,H⟩) 0 0)) (E (J ⟨w.heap.size,0,H⟩) 0 0) (w.alloc (Ξ #[] e)) ψ Q' False (aaF l0) (by rw[LV n0s];exact hu) o0' (b0 _) (λv1 X1 h1 ew ai=>hK.out _ _ (hS _ ai) λdi=>?_)
   ·rw[if_pos (wn _ gd1)] at this;exact this
   ·refine zV i2 H8 r3 (wn _ gd2) (λψ Q' hK=>?_);have an:φ w (X1.alloc (.cells ys.toArray e)):=ai.alloc ai.size _;refine mk2 _ _ _ _ (by rw[LV n1x,LV n0x];exact hx) (hK.out _ _ (hS _ an) λdN=>?_);exact hr _ v1 X1.heap.size _ (h1.alloc _) (Ľ _ _) an dN
  ·refine mk2 _ _ _ _ (by rw[LV n0x];exact hx) (hK.out _ _ (hS _ (b1 _ _)) λdN=>?_);refine B2 w.heap.size (w.alloc (Ξ #[] e)).heap.size _ (i2::i0::d) (agV _ _ _ _) r4 (o0'.alloc _) (Ľ _ _) (by simp) (b1 _ _) dN
 ·refine mk2 _ _ _ _ hx (hK.out _ _ (hS _ (b0 _)) λ_=>?_);refine zV i0 WX r2 (wn _ gd0) (λψ Q' hK=>?_);refine mk0 _ _ _ _ (hK.out _ _ (hS _ (b1 _ _)) λdN=>?_);rw[ahc n02.symm];refine B2 (w.alloc (.cells ys.toArray e)).heap.size w.heap.size _ (i0::i2::d) ?_ r5 (ag2 _ (b0 _)) ((Bk.new w e ys.toArray).alloc (Ξ #[] e)) (by simp) (b1 _ _) dN;rw[agV i2 i1];unfold lits;congr 2;funext k;show(i1::i0::i2::d).elem k=(i1::i2::i0::d).elem k;rw[Ajh,Ajh];simp only[Ϡ];rw[decide_eq_decide];constructor<;>(rintro(h|h|h|h)<;>simp[h])
def atE{ψ:Act->N->Prop}{Q:Exit->Act->N->Prop}{ζ:Prop}(hg:o.guard=H)(s x:Operand)(t:ώ)
 (ho:o.op=.call {callee:=.builtin .append,args:=#[s,x],argTypes:=#[t,t]})
 (base:Nat)(e:ώ)(i:ă)(υ:z)(size bytes:Nat)(ht:P.underlying t=J (.slice e))(hi: P.info? e=J i)(hz:i.zero=J υ)
 (vB:i.size=size)(Ey:i.bytes=bytes)(Pc:υ.cells.size=size)(aN:0<size)
 (v:z)(n:Nat)(xs:List z)(V:a.eval s=v)(aH:w.ownsRow base e size v n xs)
 (ad:ϖ)(m c:Nat)(news:List z)(hx:a.eval x=E (J ad) m c)(hl:news.length=m * size)(IP:∀j u,news[j]?=J u-> w.cell? (ad.add j)=J u)(h1:∀u∈news,u.oneCell'=D)
 (Ia:n+m<=ϕ)(Gy:(n+m) * bytes<=140737488355328)(Eu:base<=w.heap.size)
 (h:∀v' w',w'.ownsRow base e size v' (n+m) (xs++news)->w.grownBy w' v.ownBlock->(∀A k c,v=E (J A) k c->∀j u,xs[j]?=J u-> w'.cell? (A.add j)=J u)->ψ (a.put o.dst v') w'):if ϸ o (À ops a.tmps)=D then ĵ P o a w ψ Q else ζ:=by
 rw[if_pos (by simp[ϸ,hg])];obtain⟨v',w',T,h2,h3,-⟩:=run_append_own (P:=P) w base t o.type e i υ size bytes ht hi hz vB Ey Pc aN v n xs aH ad m c news hl IP h1 Ia Gy Eu;unfold ĵ execOp;simp only[ho,resolve,invoke,builtin,Sem.run_bind,Sem.run_pure,Result.andThen_ok,ī,Ę,ĥ,V,hx,T];refine h v' w' h2 h3 λA k q hv j u hj=>?_;rcases aH.2 with⟨e1,_⟩ | ⟨g,cap,cur,e1,h5⟩
 ·rw[e1] at hv;cases hv
 subst e1;cases hv;by_cases aom:n+m<=q
 ·obtain⟨w2,kY,h4,-⟩:=run_append_own_spare (P:=P) w base t o.type e i size ht hi vB g n q xs aH ad m c news hl IP h1 aom;rw[kY] at T;cases T;exact h4.cells rfl j u (by rw[Ai5 (Ϫ.1 hj).1];exact hj)
 ·subst vB Ey;have holds:=aH.cells (g:=g) rfl;have kY:=run_append_grow (P:=P) w t o.type e i υ ht hi hz ⟨g,0,H⟩ n q xs aH.1 holds ad m c news hl IP (by omega) (by simp only[ϕ] at Ia;omega) (growslice_fits (by omega) Gy)
  rw[kY] at T;cases T;have hc:=holds j u hj;exact(ð _ _ _ (World.block_lt_of_cell? w _ hc)).trans hc
end
end Go.Tw
namespace Go.Tw
variable [Go.Tw.aK]
open Go Go.Proofs Go.RowKit
def sw{α:Type}(l:List α):Nat->List (List α)
 |0=> [[]]
 |i+1=>sw l i++(sw l i).map (· ++l[i]?.toList)
def B9(l:List α):List (List α):=sw l l.length
def ZZ{α:Type}(l:List α):∀i,(sw l i).length=2 ^ i
 |0=>rfl
 |i+1=>by rw[sw,Þ,ã,ZZ l i,Nat.pow_succ];omega
def ace{α:Type}(l:List α):∀i,∀x∈sw l i,x.length<=i
 |0,x,h=>by simp[sw] at h;subst h;exact ϊ _
 |i+1,x,h=>by
  rw[sw,ĉ] at h;rcases h with h|h
  ·have:=ace l i x h;omega
  ·obtain⟨y,hy,rfl⟩:=ô.1 h;have:=ace l i y hy;rw[Þ];have:l[i]?.toList.length<=1:=by cases l[i]?<;>simp
   omega
def asR(w:N):(ĺ 33 0 #[]).run prog w=.ok (E (J ⟨w.heap.size,0,H⟩) 0 0) (w.alloc (Ξ #[] 3)):=by go_simp
def as0(x:Int)(w:N):(ĺ 33 1 #[(0,Y I x)]).run prog w=.ok (E (J ⟨w.heap.size,0,H⟩) 1 1) (w.alloc (.cells [Y I x].toArray 3)):=by go_simp
def agK(l:List Int):(l.flatMap λy:Int=> [Y I y])=l.map (Y I):=by
 induction l with
 |nil=>rfl
 |cons a l ih=>rw[č,ih];rfl
def abb{a:N}(h:Γ a.drew.heap.size a.drew w):φ a w:=⟨h.os,h.tape,h.output,h.size,h.block⟩
def atF(hv:Row w B 1 bI v l)(hB:B<=w.heap.size)(hn:l.length<=3):
 ύ prog 159 #[v,Y I l.length] w λe w'=>∃u ns,e=Ω u/\en w' w.heap.size u ns/\ns.map É=B9 l/\φ w w':=by
 obtain⟨A1,n1,c1,rfl,e1,h1,du,r1⟩:=hv.Φ;unfold ϕ at du;have E1:=K e1;have R1:=K r1;rw[e1] at hn |-
 obtain⟨i0,cJ,cK,aO,aZ⟩:=Ö Pd;have HI:=K (Ϗ cJ (Ϗ cK (Ϗ aO aZ)));obtain⟨j0,Wp,OX,kC,pL⟩:=Ö agH;have HJ:=K (Ϗ Wp (Ϗ OX (Ϗ kC pL)));clear hv e1 r1 cJ cK aO aZ Wp OX kC pL;go_enter func159,Tryz.ntmps159;go_wp2;have N0:=K (Bo w (base:=w.heap.size) (e:=33) 1 [E H 0 0] rfl (by omega) (by omega))
 go_loopw [5,6] (λo k wr=>∃(i:Nat) (ts:List (List Int×z)),i<=n1/\k=Y I i/\en wr w.heap.size o ts/\Hid (ts.map É=sw l i)/\φ w wr) (λ_ k _=>n1 - (ϑ k).toNat)
 case atStart=>exact⟨0,[([],E H 0 0)],ϛ _,rfl,⟨N0.e,λp hp=>by rw[Ô.1 hp];exact⟨rfl,.inl ⟨rfl,rfl⟩⟩⟩,K rfl,(ό _ _).alloc (ϊ _) _⟩
 case round=>
  rename N=>W1;obtain⟨i,ts,hi,rfl,aH,eK,hb⟩:=hrel;obtain⟨hr,m,c,rfl,em,qy,qz,-⟩:=aH.anQ.Φ;have HB:=K hb;have HO:=K aH;have Z1:=hb.size;have hm:m=2 ^ i:=by have:=congrArg ŭ eK.e;rw[ã,ZZ,em] at this;exact this
  have hm8:m<=8:=by rw[hm];exact Ϥ (Ail (by omega) (show i<=3 by omega)) (by decide)
  have EM:=K (Ϗ em hm);clear aH hb em hm;by_cases ao:i<n1
  ·have xI:(i:Int)<n1:=by omega
   obtain⟨er,x,wT,rfl,aan,hx,rfl,-,NT⟩:=R1.e i ao;have HX:=K hx;have Bg:=K NT;clear hx NT;go_wp2;go_loopw [5,8] (λo k wr=>∃(j:Nat) (ms:List (List Int×z)),j<=m/\k=Y I j/\en wr w.heap.size o ms/\Hid (ms.map É=sw l i++((sw l i).take j).map (· ++ [x]))/\φ w wr) (λ_ k _=>m - (ϑ k).toNat)
   case atStart=>exact⟨0,ts,ϛ _,rfl,HO.e,K (by rw[eK.e];simp),HB.e⟩
   case round=>
    rename N=>W2;obtain⟨k,ms,hk,rfl,aH,IM,hb⟩:=hrel;obtain⟨T2,m2,c2,rfl,em2,rW,rX,E6⟩:=aH.anQ.Φ;have dj:=K hb;have sB:=K aH;have Z2:=hb.size;have Wx:m2=m+k:=by have:=congrArg ŭ IM.e;rw[ã,Þ,ã,List.length_take,ZZ,em2,<-EM.e.2,Nat.min_eq_left hk] at this;exact this
    clear aH hb;have zX:(sw l i).length=m:=by rw[ZZ];exact EM.e.2.symm
    by_cases zU:k<m
    ·have ahZ:(k:Int)<m:=by omega
     obtain⟨ad,⟨ll,u⟩,cs,rfl,gU,hp,rfl,-,aq⟩:=E6 k (by omega);have hll:(sw l i)[k]?=J ll:=by have:=Y9 IM.e hp;rw[Ai5 (by omega)] at this;exact this
     have hlen:ll.length<=i:=ace l i ll (ϡ hll);have hu:=sB.e.2 _ (ϡ hp);simp only at hu;obtain⟨A5,m5,c5,rfl⟩:=iI hu;obtain rfl:m5=ll.length:=yq hu;have SX:Hid (∀W,φ W2 W-> W.cell? (ad.add k)=J (E A5 ll.length c5)/\ W.cell? (er.add i)=J (Y I x)):=K λW hW=>by have y0:=cA aq (Δ.aJ hW (ϊ _)) gU rfl;have y1:=cA Bg.e (Δ.aJ (dj.e.trans (hW.mono Z2)) hB) aan rfl;rw[Ì] at y0 y1;exact⟨y0,y1⟩
     have RL:Hid (∀W,φ W2 W->Row W W2.heap.size 1 (λy cs=>cs=[Y I y]) (E A5 ll.length c5) ll):=K λW hW=>(CF hu).still (Δ.aJ hW (ϊ _)) λ_ _ h=>h;obtain⟨y0,y1⟩:=SX.e W2 (ό _ _);have y2:(ad.add k).block<W2.heap.size:=by rw[b9];omega
     have y3:(er.add i).block<W2.heap.size:=(by rw[b9];omega);have IK:(ll.length:Int)<n1:=(by omega);have ah0:(k:Int)<m2:=(by omega);have auK:m2<=16:=(by omega);have HML:=K (Ϗ Wx zX);have HP:=K hp;have wy:=K (Ϗ hll hlen);have HU:=K hu;clear hu hp aq hll hlen E6 Wx zX;go_wp2;refine Sg (S:=(λχ=> χ.cell? (ad.add k)=J (E A5 ll.length c5)/\ χ.cell? (er.add i)=J (Y I x))) 16 rfl (by kernel_rfl) ?_ (λef=>?_)
     ·exact SX.e _ (dT (ό _ _))
     refine Wf [0,2,3,4,5,7,8,9,10] [10,9,8,7,5,4,3,2,0] 7 rfl (by kernel_rfl) rfl ef ?_;iterate 9
      apply vx 30 rfl (by kernel_rfl) (by kernel_rfl)
      ·intro W hW;obtain⟨h1,h2⟩:=hW;go_simp;all_goals with_reducible rfl
      simp only[Ò,Í,Î,Ë]
     apply po;refine ae4 (t:=33) (e:=3) (d:=[10,9,8,7,5,4,3,2,0]) 1 6 11 12 31 36 41 42 35 40 ⟨_,rfl,rfl,rfl,rfl⟩ ⟨_,rfl,rfl,rfl,rfl⟩ ⟨_,rfl,rfl,rfl,rfl⟩ ⟨_,rfl,rfl,rfl,rfl⟩ (by kernel_rfl) (by simp) (χ Tryz.underlying33) HI.e.1 HI.e.2.1 HI.e.2.2.1 HI.e.2.2.2 rfl (by decide) asR (fs:=λy:Int=> [Y I y]) (B:=W2.heap.size) (u:=E A5 ll.length c5) (xv:=Y I x) (l:=ll) (ys:=[Y I x]) rfl rfl (as0 _) (λW hW=>RL.e W (abb hW)) (λ_=>rfl) (λv hv=>?_) rfl (λv hv=>by rw[Ô] at hv;subst hv;rfl) (by unfold ϕ;omega) (by omega) (λW hW=>SX.e _ (abb hW)) (λv0 v1 v2 v3 W3 aH bK iE=>?_)
     ·rw[agK] at hv;exact LU _ v hv
     try simp only[Ò,Í,Î,Ë]
     obtain⟨A7,m7,c7,rfl⟩:=iI aH;have HN:=K aH;have B3:=K (abb bK);have Z3:=B3.e.size;have O3:=K (sB.e.below B3.e (ϊ _));clear aH bK;refine zV 13 rfl (by kernel_rfl) (by kernel_rfl) (λψ Q hK=>?_)
     go_simp;refine hK.out _ _ ?_ (λvz=>?_)
     ·exact SX.e _ (B3.e.alloc Z3 _)
     clear hK ψ Q iE;try simp only[Ò,Í,Î,Ë]
     refine aa6 14 rfl (by kernel_rfl) (λψ Q hK=>?_);refine atE rfl (.tmp 30) (.tmp 43) 119 rfl w.heap.size 33 j0 (E H 0 0) 1 24 (χ Tryz.underlying119) HJ.e.1 HJ.e.2.1 HJ.e.2.2.1 HJ.e.2.2.2 rfl (by decide) _ ms.length _ (by exact rfl) (O3.e.1.alloc _) ⟨W3.heap.size,0,H⟩ 1 1 [E A7 m7 c7] (by exact rfl) rfl (My (Bk.new W3 33 #[E A7 m7 c7])) (λv hv=>by rw[Ô] at hv;subst hv;rfl) (by simp only[ϕ];omega) (by omega) (by simp;omega) ?_;intro v4 W5 V3 abr Oj;have Mf:=K V3;have HG5:=K abr;have B5:Hid (φ w W5):=K ((dj.e.trans ((B3.e.alloc Z3 _).mono Z2)).grown abr (by simp;omega) (λq hq=>dX O3.e.1 q hq))
     obtain⟨A8,m8,c8,rfl⟩:=iI V3;have sx: W5.cell? (ad.add k)=J (E A5 ll.length c5)/\ W5.cell? (er.add i)=J (Y I x):=⟨Oj ad m2 c2 rfl k _ (by rw[ú,HP.e];rfl),by have:=cA Bg.e (Δ.aJ B5.e hB) aan rfl;rwa[Ì] at this⟩
     clear V3 abr;refine hK.out _ _ ?_ (λCr=>?_)
     ·exact sx
     clear hK ψ Q vz;try simp only[Ò,Í,Î,Ë]
     refine Wf [15] [15,14,13,12,11,6,1,10,9,8,7,5,4,3,2,0] 0 rfl (by kernel_rfl) rfl Cr ?_;apply abu 10 rfl (by kernel_rfl) (by kernel_rfl)
     ·intro W hW;obtain⟨h1,h2⟩:=hW;go_simp;all_goals with_reducible rfl
     simp only[Ò,Í,Î,Ë];apply po;refine GX (by kernel_rfl) ?_;go_wp2;go_roundw;case rel=>exact⟨k+1,ms++ [(ll++ [x],E A7 m7 c7)],by omega,by go_num,(O3.e.below ((ό _ _).alloc (ϊ _) _) (ϊ _)).snoc HG5.e (by
      rw[È,Þ];have:=HN.e;rw[agK] at this;exact(this.alloc _).base (ϛ _)) Mf.e,K (by rw[È,IM.e,pT wy.e.1,È,List.append_assoc];rfl),B5.e⟩
     case measure=>simp[ϑ];omega
    ·obtain rfl:k=m:=by omega
     go_wp2;go_roundw;case rel=>exact⟨i+1,ms,by omega,by go_num,sB.e,K (by rw[IM.e,sw,HX.e,Õ (by omega)];rfl),dj.e⟩
     case measure=>simp[ϑ];omega
  ·obtain rfl:i=n1:=by omega
   go_wp2;go_ret;exact⟨_,ts,rfl,HO.e,by rw[eK.e,B9,E1.e],HB.e⟩
def acB(w:N)(s:Int)(A1:Option ϖ)(n1 c1:Nat)(A2:Option ϖ)(n2 c2:Nat)(A3:Option ϖ)(n3 c3:Nat)(hB:B<=w.heap.size):
 ∃W0,W0=w.alloc (Ξ #[Y I s,E A1 n1 c1,E A2 n2 c2,E A3 n3 c3] 26)/\W0.heap.size=w.heap.size+1/\Hid (φ w W0)/\
  Hid (∀W,Γ (w.heap.size+1) W0 W->φ w W/\Δ B w W/\w.heap.size+1<=W.heap.size)/\
  Hid (∀W,Γ (w.heap.size+1) W0 W->(W.cell? ⟨w.heap.size,0,H⟩=J (Y I s)/\ W.cell? ⟨w.heap.size,1,H⟩=J (E A1 n1 c1)/\ W.cell? ⟨w.heap.size,2,H⟩=J (E A2 n2 c2)/\ W.cell? ⟨w.heap.size,3,H⟩=J (E A3 n3 c3))/\w.heap.size<W.heap.size):=by
 obtain⟨W0,bY⟩:∃W0,W0=w.alloc (Ξ #[Y I s,E A1 n1 c1,E A2 n2 c2,E A3 n3 c3] 26):=⟨_,rfl⟩
 have Z0:W0.heap.size=w.heap.size+1:=by rw[bY];simp
 have BW:φ w W0:=by rw[bY];exact(ό _ _).alloc (ϊ _) _
 have KB:Bk W0 w.heap.size 26 #[Y I s,E A1 n1 c1,E A2 n2 c2,E A3 n3 c3]:=by rw[bY];exact Bk.new _ _ _
 refine⟨W0,bY,Z0,K BW,K λW hW=>?_,K λW hW=>?_⟩
 ·have hb:=BW.trans (hW.mono (by omega));exact⟨hb,Δ.aJ hb hB,by have:=hW.size;omega⟩
 ·have k:=KB.below hW (by omega);exact⟨⟨k.cell 0,k.cell 1,k.cell 2,k.cell 3⟩,k.lt⟩
def lj{A1 A2 A3:Option ϖ}{c1 c2 n3 c3:Nat}(ah:aQ w B b (E A1 n1 c1) (E A2 n2 c2) (E A3 n3 c3))(hB:B<=w.heap.size):
 ∃W0,W0=w.alloc (Ξ #[Y I b.ab,E A1 n1 c1,E A2 n2 c2,E A3 n3 c3] 26)/\W0.heap.size=w.heap.size+1/\Hid (φ w W0)/\
  Hid (∀W,Γ (w.heap.size+1) W0 W->aQ W W.heap.size b (E A1 n1 c1) (E A2 n2 c2) (E A3 n3 c3)/\w.heap.size+1<=W.heap.size/\φ w W)/\
  Hid (∀W,Γ (w.heap.size+1) W0 W->(W.cell? ⟨w.heap.size,0,H⟩=J (Y I b.ab)/\ W.cell? ⟨w.heap.size,1,H⟩=J (E A1 n1 c1)/\ W.cell? ⟨w.heap.size,2,H⟩=J (E A2 n2 c2)/\ W.cell? ⟨w.heap.size,3,H⟩=J (E A3 n3 c3))/\w.heap.size<W.heap.size):=by
 obtain⟨W0,bY,Z0,BW,SX,K4⟩:=acB w b.ab A1 n1 c1 A2 n2 c2 A3 n3 c3 hB;exact⟨W0,bY,Z0,BW,K λW hW=>let ⟨hb,st,hz⟩:=SX.e W hW;⟨(ah.still st).more (by omega),hz,hb⟩,K4⟩
def jT(b:eR)(G:al)(ks:List Nat):Nat->List Cut->Option (List Cut)
 |0,cs=>J cs
 |f+1,cs=> ks.findSome? λk=>(ϣ (kF b k)).findSome? (jY b G (jT b G ks f) cs k)
def aeU{α β:Type}{F:α->Option β}{x:β}:∀ {l:List α} {q:Nat} {k:α},(∀(j:Nat) (y:α),j<q->l[j]?=J y->F y=H)->l[q]?=J k->F k=J x-> l.findSome? F=J x
 | [],q,k,_,hk,_=>by simp at hk
 |a::l,0,k,_,hk,h=>by
  obtain rfl:a=k:=by simpa using hk
  rw[Ajm,h]
 |a::l,q+1,k,h0,hk,h=>by rw[Ajm,h0 0 a (by omega) rfl];exact aeU (q:=q) (λj y hj hy=>h0 (j+1) y (by omega) (by simpa using hy)) (by simpa using hk) h
def alc{F:α->Option β}{l:List α}(h:∀(j:Nat) (y:α),l[j]?=J y->F y=H): l.findSome? F=H:=by rw[List.findSome?_eq_none_iff];intro y hy;obtain⟨j,hj⟩:=Ai6 hy;exact h j y hj
def asX{G:al}{cs:List Cut}{fr:Nat}(h:(kF b k:Int)<fr+G.at cs.length):nX b G cs ⟨k,fr⟩=U:=by
 unfold nX pN;simp only[Int.toNat_natCast];cases e:b.aC[k]? with
 |none=>cases b.pieces[cs.length]?<;>rfl
 |some x=>
  unfold kF at h;rw[e] at h;cases b.pieces[cs.length]? with
  |none=>rfl
  |some p=>
   simp only at h |-;unfold pO;simp only;rw[decide_eq_false (by omega)];rfl
def aj9{G:al}{cs:List Cut}{c:Cut}(h:db b G cs=D):db b G (cs++ [c])=nX b G cs c:=by
 unfold db nX;rw[Þ,List.length_singleton,œ,List.all_append];have e1:(ϣ cs.length).all (ql b G (cs++ [c]))=D:=by
  refine j7.2 λi hi=>?_;have:=j7.1 h i hi;unfold ql at this |-;rw[Ai5 hi];rw[Ñ hi] at this |-;simp only at this |-;rw[Ä] at this |-;refine⟨this.1,j7.2 λj hj=>?_⟩;have:=j7.1 this.2 j hj;unfold sg at this |-;rw[Ai5 (by omega)];exact this
 rw[e1,Aiq,List.all_cons,List.all_nil,Bool.and_true];unfold ql;rw[List.getElem?_concat_length];simp only;congr 1;rw[Aip,j7,j7];refine forall_congr' λj=>forall_congr' λhj=>?_;unfold sg;rw[Ai5 hj]
def abc{a:N}(h:Γ (a.drewN n).drew.heap.size (a.drewN n).drew w):φ a w:=⟨h.os,h.tape,h.output,h.size,h.block⟩
def asQ(w:N):(ĺ 27 0 #[]).run prog w=.ok (E (J ⟨w.heap.size,0,H⟩) 0 0) (w.alloc (Ξ #[] 56)):=by go_simp
def asZ(x y:Int)(w:N):(ĺ 27 1 #[(0,η #[Y I x,Y I y])]).run prog w=.ok (E (J ⟨w.heap.size,0,H⟩) 1 1) (w.alloc (.cells [Y I x,Y I y].toArray 56)):=by go_simp
structure T9(w:N)(B:Nat)(b:eR)(G:al)(ks:List Nat)(pv bv tv sv kv:z):Prop where
 book:aQ w B b pv bv tv
 lens:Row w B 1 bI sv (bV b.pieces.length G)
 ks:Row w B 1 bI kv (ks.map λk:Nat=>(k:Int))
def T9.up{G:al}{kv:z}(h:T9 w B b G ks pv bv tv sv kv)(hB:B<=w.heap.size)(hb:φ w W):T9 W W.heap.size b G ks pv bv tv sv kv:=
 have st:=Δ.aJ hb hB;have hz:B<=W.heap.size:=Ϥ hB hb.size
 ⟨(h.book.still st).more hz,(h.lens.still st λ_ _ h=>h).more hz,(h.ks.still st λ_ _ h=>h).more hz⟩
def aab(w:N)(r:Option (List Cut))(e:Ending)(w':N):Prop:=
 (match r with
 |some full=>∃A n c,e=Ω (μ #[E A n c,.bool D])/\Row w' w'.heap.size 2 Cut.R (E A n c) full
 |none=>e=Ω (μ #[E H 0 0,.bool U]))/\φ w w'
def agP(hv:Valid b){G:al}(hL:G.Ok)(hG:∀i,i<b.pieces.length->1<=G.at i)(xc:∀k∈ks,k<b.aC.length)(jx:ks.length<=3){kv:z}:
 ∀(f:Nat) (cs:List Cut) (w:N) (B:Nat) (cv:z),cs.length+f=b.pieces.length->db b G cs=D->(∀c∈cs,q9 b c)->T9 w B b G ks pv bv tv sv kv->Row w B 2 Cut.R cv cs->B<=w.heap.size->
  ύ prog 125 #[η #[Y I b.ab,pv,bv,tv],sv,kv,cv] w (aab w (jT b G ks f cs)):=by
 intro f;induction f with
 |zero=>
  intro cs w B cv hf hd cD mN hc hB;obtain⟨A1,n1,c1,rfl,e1,-⟩:=mN.book.pieces.Φ;obtain⟨A2,n2,c2,rfl,-⟩:=mN.book.aC.Φ;obtain⟨A3,n3,c3,rfl,-⟩:=mN.book.aI.Φ;obtain⟨A5,m5,c5,rfl,e5,-⟩:=hc.Φ;have HC:=K hc;obtain rfl:m5=n1:=by omega
  clear mN hc hd cD hf e1 e5;go_enter func125,Tryz.ntmps125;go_wp2
  go_ret2
  exact⟨⟨_,_,_,rfl,(HC.e.still ((Δ.refl w).alloc hB _) λ_ _ h=>h).more (by simp;omega)⟩,(ό _ _).alloc (ϊ _) _⟩
 |succ f ih=>
  intro cs w B cv hf hd cD mN hc hB;have HAT:=K mN;have HC:=K hc;have T4:=K (Ϗ hd cD);obtain⟨A1,n1,c1,rfl,e1,-⟩:=mN.book.pieces.Φ;obtain⟨A2,n2,c2,rfl,e2,h2,ei,r2⟩:=mN.book.aC.Φ;obtain⟨A3,n3,c3,rfl,-⟩:=mN.book.aI.Φ;obtain⟨A4,m4,c4,rfl,e4,h4,h4',r4⟩:=mN.lens.Φ;obtain⟨A6,m6,c6,rfl,e6,h6,h6',r6⟩:=mN.ks.Φ;obtain⟨A5,m5,c5,rfl,e5,-⟩:=hc.Φ;rw[KY] at e4;rw[ã] at e6;have qF:n1<=3:=by have:=hv.np;omega
  obtain rfl:m4=n1:=by omega
  have dn:n2<=3:=by have:=hv.nb;omega
  have ta:m5<m4:=by omega
  have auL:(m5:Int)<m4:=by omega
  have aw:((m5:Int)==m4)=U:=by simp;omega
  have hm6:m6<=3:=by omega
  have R2:=K r2;have R4:=K r4;have R6:=K r6;have ζ:=K (Ϗ e1 (Ϗ e2 (Ϗ e5 (Ϗ e6 hf))));have HLK:=K (Ϗ hL (Ϗ hG xc));have HV:=K hv;have IH:=K ih;obtain⟨i0,cJ,cK,aO,aZ⟩:=Ö WQ;have HI:=K (Ϗ cJ (Ϗ cK (Ϗ aO aZ)));obtain⟨W0,bY,Z0,BW,SX,K4⟩:=acB w b.ab A1 m4 c1 A2 n2 c2 A3 n3 c3 hB;clear mN hc hd cD hf e1 e2 e4 e5 e6 r2 r4 r6 hL hG xc hv ih jx cJ cK aO aZ h2 ei h4 h4' h6 h6';obtain⟨⟨g0,g1,g2,g3⟩,gl⟩:=K4.e W0 (ό _ _);go_enter func125,Tryz.ntmps125;go_wp2;rw[<-bY];clear bY;go_wp2;go_loopw [11] (λυ W=>∃q:Nat,q<=m6/\υ=Y I q/\Hid (∀(j:Nat) (y:Nat),j<q->ks[j]?=J y->(ϣ (kF b y)).findSome? (jY b G (jT b G ks f) cs y)=H)/\Γ (w.heap.size+1) W0 W) (λυ _=>m6 - (ϑ υ).toNat)
  case atStart=>exact⟨0,ϛ _,rfl,K λj y hj=>by omega,ό _ _⟩
  case round=>
   rename N=>W1;obtain⟨q,hq,rfl,hq0,hb⟩:=hrel;have HB:=K hb;have Z1:=hb.size;clear hb g0 g1 g2 g3 gl;obtain⟨⟨g0,g1,g2,g3⟩,gl⟩:=K4.e W1 HB.e;by_cases hqm:q<m6
   ·have auQ:(q:Int)<m6:=by omega
    obtain⟨er,y,wT,rfl,aan,hy,rfl,-,NT⟩:=R6.e q hqm;obtain⟨k,Ws,rfl⟩:∃k:Nat,ks[q]?=J k/\(k:Int)=y:=(by rw[ú,Option.map_eq_some_iff] at hy;exact hy);have eP:k<n2:=(by have:=HLK.e.2.2 k (ϡ Ws);have:=ζ.e.2.1;omega);obtain⟨cR,bx,ju,rfl,ae5,nH,⟨kv,rfl,-⟩,-,fa⟩:=R2.e k eP;obtain⟨ad4,g,cs4,rfl,alR,hg,rfl,-,afV⟩:=R4.e m5 ta;have hgi:g=G.at cs.length:=by rw[<-ζ.e.2.2.1,Pw G (by have:=ζ.e;omega)] at hg;exact(Option.some.inj hg).symm
    have auH:(k:Int)<n2:=(by omega);have hlg:kF b k=bx.aL.toNat:=(by unfold kF;rw[nH]);have gU:=HV.e.bt bx (ϡ nH);have sY:1<=bx.aL/\bx.aL<=40:=gU.aL;obtain⟨lo,qx⟩:∃lo:Nat,bx.aL=lo:=⟨bx.aL.toNat,by omega⟩
    have ags:kF b k=lo:=(by rw[hlg,qx];rfl);have auI:lo<=40:=(by omega);have fD:1<=g/\g<=1000:=by rw[hgi];refine⟨HLK.e.2.1 _ (by have:=ζ.e;omega),(HLK.e.1 _).2⟩
    have KR:Hid (∀W,Γ (w.heap.size+1) W0 W->(W.cell? (er.add q)=J (Y I k)/\ W.cell? ⟨(cR.add (k * 3)).block,(cR.add (k * 3)).off+1,H⟩=J (Y I lo)/\ W.cell? (ad4.add m5)=J (Y I g))/\(er.add q).block<W.heap.size/\(cR.add (k * 3)).block<W.heap.size/\(ad4.add m5).block<W.heap.size):=K λW hW=>by obtain⟨hb,st,hz⟩:=SX.e W hW;have y1:=cA NT st aan rfl;have y2:=bj fa st ae5 0 rfl;have y4:=cA afV st alR rfl;rw[Ì] at y1 y4;rw[<-qx];refine⟨⟨y1,y2,y4⟩,?_,?_,?_⟩<;>(rw[b9];omega)
    have HK:=K (Ϗ Ws (Ϗ hgi ags));clear NT fa afV hy Ws nH hg hgi hlg gU sY qx ags;go_wp2;go_loopw [12] (λυ W=>∃fr:Nat,fr<=lo/\υ=Y I fr/\Hid (∀j,j<fr->jY b G (jT b G ks f) cs k j=H)/\Γ (w.heap.size+1) W0 W) (λυ _=>lo - (ϑ υ).toNat);case atStart=>exact⟨0,ϛ _,rfl,K λj hj=>by omega,HB.e⟩
    case round=>
     rename N=>W2;obtain⟨fr,cq,rfl,hf0,hb⟩:=hrel;have dj:=K hb;have Z2:=hb.size;clear hb g0 g1 g2 g3 gl;obtain⟨⟨g0,g1,g2,g3⟩,gl⟩:=K4.e W2 dj.e;obtain⟨⟨y1,y2,y4⟩,b1,b2,b4⟩:=KR.e W2 dj.e;by_cases dc:(fr:Int)+g<=lo
     ·go_wp2;go_quiet (fail);go_wp2;have RC:Hid (∀W,φ W2 W->Row W W2.heap.size 2 (λc cs=>cs=Cut.vs c) (E A5 m5 c5) cs):=K λW hW=>((HC.e.still (Δ.aJ ((SX.e W2 dj.e).1.trans (hW.mono (by omega))) hB) λ_ _ h=>h).more (by omega))
      have gJ:cs.length<=3:=(by have:=ζ.e;omega);have SQ:Hid (∀W,φ W2 W-> W.cell? (er.add q)=J (Y I k)):=K λW hW=>(KR.e W (dj.e.trans (hW.mono (by omega)))).1.1;refine Sg (S:=(λχ=> χ.cell? (er.add q)=J (Y I k))) 12 rfl (by kernel_rfl) ?_ (λef=>?_)
      ·exact SQ.e _ (dT (jr (ό _ _) _))
      refine Wf [1,3,4,5,6,7,8] [8,7,6,5,4,3,1] 5 rfl (by kernel_rfl) rfl ef ?_;iterate 7
       apply vx 49 rfl (by kernel_rfl) (by kernel_rfl)
       ·intro W hW;go_simp;all_goals with_reducible rfl
       simp only[Ò,Í,Î,Ë]
      apply po;refine ae4 (t:=27) (e:=56) (d:=[8,7,6,5,4,3,1]) 0 2 9 10 49 51 58 59 50 57 ⟨_,rfl,rfl,rfl,rfl⟩ ⟨_,rfl,rfl,rfl,rfl⟩ ⟨_,rfl,rfl,rfl,rfl⟩ ⟨_,rfl,rfl,rfl,rfl⟩ (by kernel_rfl) (by simp) (χ Tryz.underlying27) HI.e.1 HI.e.2.1 HI.e.2.2.1 HI.e.2.2.2 rfl (by decide) asQ (fs:=Cut.vs) (B:=W2.heap.size) (u:=E A5 m5 c5) (xv:=η #[Y I k,Y I fr]) (l:=cs) (ys:=[Y I k,Y I fr]) rfl rfl (asZ _ _) (λW hW=>RC.e W (abc hW)) (λ_=>rfl) (aek _) rfl (λv hv=>by simp at hv;rcases hv with rfl|rfl<;>rfl) (by unfold ϕ;omega) (by omega) (λW hW=>SQ.e _ (abc hW)) (λv0 v1 v2 v3 W3 aH bK iE=>?_);try simp only[Ò,Í,Î,Ë]
      have HN:=K aH;have B3:Hid (φ W2 W3):=K (abc bK);clear aH bK;refine Wf [11] [11,10,9,2,0,8,7,6,5,4,3,1] 0 rfl (by kernel_rfl) rfl iE ?_
      apply vx 2 rfl (by kernel_rfl) (by kernel_rfl)
      ·intro W hW;go_simp;all_goals with_reducible rfl
      simp only[Ò,Í,Î,Ë];apply po;refine GX (by kernel_rfl) ?_;obtain⟨A7,m7,c7,rfl⟩:=iI HN.e;have dR:Hid (Γ (w.heap.size+1) W0 W3):=K (dj.e.trans (B3.e.mono (by omega)))
      have Z3:=B3.e.size;clear g0 g1 g2 g3 gl;obtain⟨⟨g0,g1,g2,g3⟩,gl⟩:=K4.e W3 dR.e;have jS:q9 b ⟨k,fr⟩:=⟨⟨k,rfl,by have:=ζ.e.2.1;omega⟩,by show 0<=(fr:Int)/\(fr:Int)<=40;omega⟩
      have eT:∀c∈cs++ [(⟨k,fr⟩:Cut)],q9 b c:=λc hc=>(ĉ.1 hc).elim (T4.e.2 c) λh=>by rw[Ô.1 h];exact jS
      have RM:Hid (∀W,φ W3 W->Row W W.heap.size 2 Cut.R (E A7 m7 c7) (cs++ [(⟨k,fr⟩:Cut)])):=K λW hW=>by have h1:W3.ownsRow (W2.drewN nq).drew.heap.size 56 2 (E A7 m7 c7) (cs++ [(⟨k,fr⟩:Cut)]).length ((cs++ [(⟨k,fr⟩:Cut)]).flatMap Cut.vs):=(by rw[Þ,Ĥ];exact HN.e);exact((mZ (R:=Cut.R) h1 (λ_=>rfl) λ_ _=>rfl).still (Δ.aJ hW (ϊ _)) λ_ _ h=>h).more hW.size
      have AT:Hid (∀W,Γ (w.heap.size+1) W0 W->T9 W W.heap.size b G ks (E A1 m4 c1) (E (J cR) n2 c2) (E A3 n3 c3) (E (J ad4) m4 c4) (E (J er) m6 c6)):=K λW hW=>HAT.e.up hB (SX.e W hW).1;have EA:db b G (cs++ [(⟨k,fr⟩:Cut)])=nX b G cs ⟨k,fr⟩:=aj9 T4.e.1;obtain⟨o,ho⟩:∃o,o=nX b G cs ⟨k,fr⟩:=⟨_,rfl⟩
      have ahw:Hid (ύ prog 111 #[η #[Y I b.ab,E A1 m4 c1,E (J cR) n2 c2,E A3 n3 c3],E (J ad4) m4 c4,E A7 m7 c7] W3 λe w'=>e=Ω (.bool o)/\φ W3 w'):=K (by
       have at3:=AT.e W3 dR.e;have:=ak4 (ω:=G) (l:=cs++ [(⟨k,fr⟩:Cut)]) at3.book at3.lens (RM.e W3 (ό _ _)) (ϊ _) (by rw[Þ];have:=ζ.e;simp;omega) (by have:=ζ.e;omega) (λi c hi=>eT c (ϡ hi)) HLK.e.1 (by have:=HV.e.ab;omega)
       rw[EA,<-ho] at this;exact this)
      have HO:=K (Ϗ ho (Ϗ EA eT));clear ho EA eT jS;go_wp2;go_at_call 111;refine ahw.e.mono ?_;rintro e W4 ⟨rfl,cU⟩;have jK:Hid (Γ (w.heap.size+1) W0 W4):=K (dR.e.trans (cU.mono (by omega)))
      have H34:=K cU;clear cU g0 g1 g2 g3 gl;obtain⟨⟨g0,g1,g2,g3⟩,gl⟩:=K4.e W4 jK.e;cases o with
      |false=>
       go_wp2;go_roundw;case rel=>exact⟨fr+1,by omega,by go_num,K λj hj=>by
        rcases Ϯ.1 hj with h|rfl
        ·exact hf0.e j h
        ·unfold jY;rw[<-HO.e.1];rfl,jK.e⟩
       case measure=>simp[ϑ];omega
      |true=>
       have LZ:=K (IH.e (cs++ [(⟨k,fr⟩:Cut)]) W4 W4.heap.size (E A7 m7 c7) (by rw[Þ];have:=ζ.e;simp;omega) (by rw[HO.e.2.1,<-HO.e.1]) HO.e.2.2 (AT.e W4 jK.e) (RM.e W4 H34.e) (ϊ _));have abA:jY b G (jT b G ks f) cs k fr=jT b G ks f (cs++ [(⟨k,fr⟩:Cut)]):=(by unfold jY;rw[<-HO.e.1];rfl);obtain⟨r,T⟩:∃r,r=jT b G ks f (cs++ [(⟨k,fr⟩:Cut)]):=⟨_,rfl⟩
       rw[<-T] at LZ abA;have Bj:=K abA;clear abA T;cases r with
       |none=>
        go_wp2;go_at_call 125;refine LZ.e.mono ?_;rintro e W5 ⟨rfl,dB⟩;have fS:Hid (Γ (w.heap.size+1) W0 W5):=K (jK.e.trans (dB.mono (by omega)))
        clear dB;go_wp2;go_roundw;case rel=>exact⟨fr+1,by omega,by go_num,K λj hj=>by
            rcases Ϯ.1 hj with h|rfl
            ·exact hf0.e j h
            ·exact Bj.e,fS.e⟩
        case measure=>simp[ϑ];omega
       |some full=>
        go_wp2;go_at_call 125;refine LZ.e.mono ?_;rintro e W5 ⟨⟨A8,n8,c8,rfl,agD⟩,dB⟩;have fS:Hid (Γ (w.heap.size+1) W0 W5):=K (jK.e.trans (dB.mono (by omega)))
        have HR5:=K agD;clear dB agD;go_wp2
        go_ret2
        refine⟨?_,BW.e.trans (fS.e.mono (by omega))⟩;rw[jT,aeU (q:=q) (k:=k) (λj y hj hy=>hq0.e j y hj hy) HK.e.1 (Ur (k:=fr) (by rw[HK.e.2.2];omega) hf0.e Bj.e)];exact⟨_,_,_,rfl,HR5.e⟩
     ·have agk:∀j,j<lo->jY b G (jT b G ks f) cs k j=H:=λj hj=>by
       by_cases hjf:j<fr
       ·exact hf0.e j hjf
       ·unfold jY;rw[asX (by have:=HK.e.2.1;have:=HK.e.2.2;omega)];rfl
      have HF:=K agk;clear agk;go_wp2;go_quiet (fail);go_wp2;refine⟨?rel,?measure⟩;case rel=>exact⟨q+1,by omega,by go_num,K λj y hj hy=>by
       rcases Ϯ.1 hj with h|rfl
       ·exact hq0.e j y h hy
       ·rw[HK.e.1] at hy;cases hy;rw[zq,HK.e.2.2];exact HF.e,jr dj.e _⟩
      case measure=>simp[ϑ];omega
   ·obtain rfl:q=m6:=by omega
    go_wp2
    go_ret2
    refine⟨?_,BW.e.trans (HB.e.mono (by omega))⟩;rw[jT,alc λj y hj=>hq0.e j y (by have:=(Ϫ.1 hj).1;have:=ζ.e;omega) hj];rfl
end Go.Tw
