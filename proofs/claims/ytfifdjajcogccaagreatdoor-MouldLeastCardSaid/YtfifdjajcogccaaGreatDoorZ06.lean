import Derived.Test.YtfifdjajcogccaaGreatDoorZ05
import Derived.Test.YtfifdjajcogccaaGreatDoorZ03
import Derived.Test.YtfifdjajcogccaaGreatDoorZ04
import Derived.Laws.AppendOwn
import Derived.Conc.Holds
import Derived.ProofKit
import Derived.SizedLaws
import Derived.LaidMore
import Derived.Test.YtfifdjajcogccaaGreatDoorRows
import Derived.ChangeArms
import Derived.DataReads
import Derived.ChangeSame
set_option linter.all false
set_option maxHeartbeats 64000000
set_option maxRecDepth 20000
open And renaming intro -> Afx
open Array renaming getElem?_eq_some_iff -> Aaf, ofFn -> Ahw, getElem_ofFn -> Ahx, getElem?_ofFn -> Ahy, getElem?_mapIdx -> Aep, getElem?_eq_getElem -> Adb, mem_of_getElem? -> Ac9, getElem?_toList -> Agv, getElem?_eq_none -> Aan, replicate -> Aeo, mapM_eq_mapM_toList -> Aak
open Classical renaming choose -> Adi, choose_spec -> Adj
open Go renaming World -> Aa4, Calls -> Af1, TypeId -> Aa1, bodyPost_ret -> Ag1, Goroutine -> Abe, Oper -> Aev, Program -> Aa6, Frame -> Abd, yielded -> Aew, stepG -> Adn
open Go.Conc renaming served -> Ad2
open Go.Frame renaming enter -> Afh
open Go.Lib renaming hid -> Af3
open Go.Region renaming wanted -> Afi
open Go.RowKit renaming intOf -> Ag7, Below -> Ahz
open Go.RowKit.Below renaming refl -> Af6, heap_setCell -> Ag8
open Go.World renaming grownBy_alloc -> Ahe, cell? -> Ah0, cell?_of_block -> Ah1, putObj_heap_same -> Ahc, putObj_heap_other -> Ahd
open List renaming mem_of_getElem? -> Agg, getElem?_eq_some_iff -> Agb, map_cons -> Ah2, exists_of_findSome?_eq_some -> Ah3, getElem?_eq_getElem -> Aga, mem_cons -> Aef, not_mem_nil -> Aeg, map_toArray -> Ah4, map_nil -> Ah5, getElem?_take -> Ah6, drop -> Ah7, take -> Ah8
open Nat renaming le_refl -> Ac2, zero_le -> Agm, le_trans -> Ac3, lt_of_lt_of_le -> Aeh
open Option renaming map_eq_some_iff -> Aej, getD_some -> Afv, bind_eq_some_iff -> Ags
open Option.some renaming inj -> Ac5, injEq -> Ac6
namespace Go.Tw
variable [Go.Tw.aR]
open Go Go.Proofs Go.RowKit
def Yq(w:Aa4)(b:ao)(pv bv tv sv:Value)(g KO:Nat)(jD:Array Value)(ps:List an)(e:Ending)(w':Aa4):Prop:=
 ∃gn,e=.returned (fv 174 #[.pointer (some ⟨w.heap.size,0,none⟩),.pointer (some ⟨w.heap.size+1,0,none⟩),.pointer (some ⟨gn,0,none⟩)])/\Bk w' w.heap.size 151 #[.int .i64 b.ag,pv,bv,tv,sv,.map (some g)]/\
  Bk w' (w.heap.size+1) 158 #[fv KO jD]/\Bk w' gn 128 (cz ps).cs/\w.heap.size<=gn/\Below w.heap.size w w'
theorem LY{w:Aa4}{b:ao}{pv bv tv sv:Value}{g KO:Nat}{jD:Array Value}{ps:List an}{B:Nat}(hs:Row w B 3 an.R sv ps)(hB:B<=w.heap.size)(hp:∃A n c,pv=.slice A n c)(hb:∃A n c,bv=.slice A n c)(ht:∃A n c,tv=.slice A n c):
 Af1 prog 122 #[.agg #[.int .i64 b.ag,pv,bv,tv,sv,.map (some g)],fv KO jD] w (Yq w b pv bv tv sv g KO jD ps):=by
 have st:Still B w ((w.alloc (.cells #[.int .i64 b.ag,pv,bv,tv,sv,.map (some g)] 151)).alloc (.cells #[fv KO jD] 158)):=((Still.refl w).alloc hB _).alloc (by simp;omega) _
 have aB:=Af3 (TC (s:=b.ag) (hs.still st fun _ _ h=>h) (by simp;omega) hp hb ht)
 obtain⟨A1,n1,c1,rfl⟩:=hp;obtain⟨A2,n2,c2,rfl⟩:=hb;obtain⟨A3,n3,c3,rfl⟩:=ht;obtain⟨A4,n4,c4,rfl,-⟩:=hs.open_;obtain⟨G,hG⟩:∃G,G=cz ps:=⟨_,rfl⟩
 rw[<-hG] at aB;unfold an.cs at aB;have HG:=Af3 hG;clear hs st hG;go_enter func122,Tryz.ntmps122;go_wp2_with (first
  | (go_at_call 115;refine aB.out.mono ?_;rintro e w1 ⟨rfl,ae⟩
     have aN:w.heap.size+1<w1.heap.size:=by have:=ae.size;simp at this;omega
     have k0:=Af3 (Bk.below (g:=w.heap.size) (t:=151) (cs:=#[.int .i64 b.ag,.slice A1 n1 c1,.slice A2 n2 c2,.slice A3 n3 c3,.slice A4 n4 c4,.map (some g)]) ((Bk.new w _ _).alloc _) ae (by simp;omega))
     have k1:=Af3 (Bk.below (g:=w.heap.size+1) (t:=158) (cs:=#[fv KO jD]) (Bk.cG (by simp) _ _) ae (by simp))
     have aY:Hid (Below w.heap.size w w1):=Af3 ((((Af6 _ _).alloc (Ac2 _) _).alloc (by simp) _).trans (ae.mono (by simp;omega)))
     clear ae))
 go_ret;refine⟨w1.heap.size,rfl,k0.out.alloc _,k1.out.alloc _,?_,by omega,aY.out.alloc (by omega) _⟩
 rw[<-HG.out];exact Bk.cG rfl _ _
theorem ah1{b:ao}{l:List Cut}{pv bv tv sv lv:Value}{g:Nat}{w:Aa4}{B:Nat}(hl:Row w B 2 Cut.R lv l)(hB:B<=w.heap.size)(xv:l.length<=1000)(hp:∃A n c,pv=.slice A n c)(hb:∃A n c,bv=.slice A n c)(ht:∃A n c,tv=.slice A n c)(hs:∃A n c,sv=.slice A n c):
 Af1 prog 234 #[.agg #[.int .i64 b.ag,pv,bv,tv,sv,.map (some g)],lv] w fun e w'=>e=.returned (.int .i64 (jG l).length)/\Below w.heap.size w w':=by
 have aB:=Af3 (taken (w:=w.alloc (.cells #[.int .i64 b.ag,pv,bv,tv,sv,.map (some g)] 151)) (hl.still ((Still.refl w).alloc hB _) fun _ _ h=>h) (by simp;omega) xv)
 obtain⟨A1,n1,c1,rfl⟩:=hp;obtain⟨A2,n2,c2,rfl⟩:=hb;obtain⟨A3,n3,c3,rfl⟩:=ht;obtain⟨A4,n4,c4,rfl⟩:=hs;obtain⟨A,n,c,rfl,-⟩:=hl.open_;clear hl;go_enter func234,Tryz.ntmps234;go_wp2_with (first
  | (go_at_call 235;refine aB.out.mono ?_;rintro e w1 ⟨u,rfl,aG,ae⟩
     obtain⟨A9,m9,c9,rfl⟩:=j8 aG;have hm:Hid ((m9:Int)=(jG l).length):=Af3 (by
      rcases aG.2 with⟨h1,h2⟩ | ⟨_,_,_,h1,_⟩
      ·cases h1;rw[h2]
      ·cases h1;rfl)
     have HB:=Af3 (cU (Af6 _ _) ae (Ac2 _));clear ae aG))
 go_ret;exact⟨aX hm.out,HB.out⟩
def jf(m k:Nat):Bool:= !(m.testBit k)
theorem RK{m k g:Nat}{w:Aa4}(hm:m<8)(hk:k<3)(hg:Bk w g 3 #[.int .i64 m]):
 Af1 prog 171 (#[.int .i64 k]++#[.pointer (some ⟨g,0,none⟩)]) w fun e w'=>e=.returned (.bool (jf m k))/\Below w.heap.size w w':=by
 refine app1 ?_
 have g0: w.cell? ⟨g,0,none⟩=some (.int .i64 m):=hg.cell 0;clear hg;go_enter func171,Tryz.ntmps171;go_wp2;go_ret;refine⟨b9 ?_,Af6 _ _⟩
 match m,hm,k,hk with
 |0,_,0,_=>rfl
 |0,_,1,_=>rfl
 |0,_,2,_=>rfl
 |1,_,0,_=>rfl
 |1,_,1,_=>rfl
 |1,_,2,_=>rfl
 |2,_,0,_=>rfl
 |2,_,1,_=>rfl
 |2,_,2,_=>rfl
 |3,_,0,_=>rfl
 |3,_,1,_=>rfl
 |3,_,2,_=>rfl
 |4,_,0,_=>rfl
 |4,_,1,_=>rfl
 |4,_,2,_=>rfl
 |5,_,0,_=>rfl
 |5,_,1,_=>rfl
 |5,_,2,_=>rfl
 |6,_,0,_=>rfl
 |6,_,1,_=>rfl
 |6,_,2,_=>rfl
 |7,_,0,_=>rfl
 |7,_,1,_=>rfl
 |7,_,2,_=>rfl
theorem ah3{zs:List Int}{x:Int}(h:x∈Lib.compact zs):x∈zs:=by
 unfold Lib.compact Lib.compactUpTo at h;simp only[List.mem_map,List.mem_filter,List.mem_range] at h;obtain⟨j,⟨hj,_⟩,rfl⟩:=h;have:zs.toArray[j]! =zs[j]:=by simp[hj]
 rw[this];exact List.getElem_mem hj
theorem ah4{l:List Cut}{x:Int}(h:x∈jG l):∃c∈l,c.bp=x:=by
 have h1:=ah3 h;unfold ga at h1;rw[List.mem_mergeSort] at h1;simpa using h1
def yC(b:ao)(k:Int):Int:=match b.aF[k.toNat]? with
 |some x=>x.aH
 |none=>0
def lY(b:ao)(l:List Int):Int:=(l.map (yC b)).sum
theorem ahj(b:ao)(l:List Int)(k:Int):lY b (l++ [k])=lY b l+yC b k:=by simp[lY]
theorem VZ{b:ao}(h:∀x∈b.aF,0<=x.aH/\x.aH<=40):∀l:List Int,0<=lY b l/\lY b l<=40 * l.length
 | []=>⟨by simp[lY],by simp[lY]⟩
 |k::l=>by
  have ih:=VZ h l;have:lY b (k::l)=yC b k+lY b l:=by simp[lY]
  rw[this];have h1:0<=yC b k/\yC b k<=40:=by
   unfold yC;cases e:b.aF[k.toNat]? with
   |none=>simp
   |some x=>exact h x (Agg e)
  simp only[List.length_cons,Int.natCast_add];omega
def oj:List Cut->List Cut->Int
 | [],[]=>0
 | [],_::_=> -1
 |_::_,[]=>1
 |a::x,c::y=>if po a c≠0 then po a c else oj x y
theorem Sx:∀ {i:Nat} {l m:List Cut} {c d:Cut},l[i]?=some c->m[i]?=some d->(∀(j:Nat) (c d:Cut),j<i->l[j]?=some c->m[j]?=some d->po c d=0)->po c d≠0->oj l m=po c d
 |0,a::l,b::m,c,d,hc,hd,_,h=>by
  simp at hc hd;subst hc;subst hd
  unfold oj;rw[if_pos h]
 |i+1,a::l,b::m,c,d,hc,hd,h0,h=>by
  have:=h0 0 a b (by omega) rfl rfl
  unfold oj;rw[if_neg (by simpa using this)]
  exact Sx (i:=i) (by simpa using hc) (by simpa using hd) (fun j c d hj hc hd=>h0 (j+1) c d (by omega) (by simpa using hc) (by simpa using hd)) h
 |0,[],_,_,_,hc,_,_,_=>by simp at hc
 |i+1,[],_,_,_,hc,_,_,_=>by simp at hc
 |0,_::_,[],_,_,_,hd,_,_=>by simp at hd
 |i+1,_::_,[],_,_,_,hd,_,_=>by simp at hd
theorem Sy:∀ {l m:List Cut},l.length=m.length->(∀(j:Nat) (c d:Cut),l[j]?=some c->m[j]?=some d->po c d=0)->oj l m=0
 | [],[],_,_=>rfl
 |a::l,b::m,hl,h=>by
  have:=h 0 a b rfl rfl;unfold oj;rw[if_neg (by simpa using this)]
  exact Sy (by simpa using hl) fun j c d hc hd=>h (j+1) c d (by simpa using hc) (by simpa using hd)
def Kl(c:Cut):Prop:=0<=c.bp/\c.bp<=1000/\0<=c.from_/\c.from_<=1000
theorem aaU{l m:List Cut}{lv mv:Value}{w:Aa4}{B:Nat}(hl:Row w B 2 Cut.R lv l)(hm:Row w B 2 Cut.R mv m)(hB:B<=w.heap.size)(UJ:l.length=m.length)(sl:∀c∈l,Kl c)(sm:∀c∈m,Kl c):
 Af1 prog 172 #[lv,mv,.func (.func 173) #[] #[]] w fun e w'=>e=.returned (.int .i64 (oj l m))/\Below w.heap.size w w':=by
 obtain⟨A1,n1,c1,rfl,e1,h1,ez,r1⟩:=hl.open_;obtain⟨A2,n2,c2,rfl,e2,h2,dW,r2⟩:=hm.open_;obtain rfl:n1=n2:=by omega
 unfold maxLen at ez dW;have HE:=Af3 (Afx e1 (Afx e2 (Afx UJ (Afx sl sm))));have H1:=Af3 r1;have H2:=Af3 r2;clear hl hm e1 e2 r1 r2 UJ sl sm;go_enter func172,Tryz.ntmps172;go_wp2;go_loopw [13] (fun u wr=>∃i:Nat,i<=n1/\u=.int .i64 i/\Hid (∀(j:Nat) (c d:Cut),j<i->l[j]?=some c->m[j]?=some d->po c d=0)/\Hid (Below w.heap.size w wr)) (fun u _=>n1 - (Ag7 u).toNat)
 case atStart=>exact⟨0,Agm _,rfl,Af3 (fun j c d hj=>by omega),Af3 (Af6 _ _)⟩
 case round=>
  obtain⟨i,hi,rfl,hz,hb⟩:=hrel;have aI:=hb.out.size;by_cases al:i<n1
  ·obtain⟨ee,c,uQ,abD,Ac,hc,rfl,-,M7⟩:=H1.out i al
   obtain⟨cI,d,jQ,CO,fV,hd,rfl,-,ie⟩:=H2.out i al;subst abD;subst CO
   have st:Still B w wr:=Still.aK hb.out hB;have g0:=cC M7 st Ac rfl;have g1:=bK M7 st Ac 0 rfl;have f0:=cC ie st fV rfl;have f1:=bK ie st fV 0 rfl;have b1:(ee.add (i * 2)).block<wr.heap.size:=by rw[cq];omega
   have b2:(cI.add (i * 2)).block<wr.heap.size:=by rw[cq];omega
   have b2':(cI.add (i * 2)).block<=wr.heap.size:=by omega
   have fg:=HE.out.2.2.2.1 c (Agg hc);have Ds:=HE.out.2.2.2.2 d (Agg hd);have aB:=Af3 (fun W:Aa4=>less (c:=c) (d:=d) (w:=W) fg.1 Ds.1 fg.2.2.1 Ds.2.2.1 fg.2.1 Ds.2.1 fg.2.2.2 Ds.2.2.2)
   have HX:=Af3 (Afx hc hd);have jU:decide ((i:Int)>=(n1:Int))=false:=by simp;omega
   clear hc hd M7 ie st fg Ds;by_cases h0:po c d=0
   ·go_wp2_with (first
     | (go_at_call 173;refine(aB.out _).mono ?_;rintro e w1 ⟨rfl,ae⟩;have aY:=Af3 ((hb.out.trans (((Af6 _ _).alloc aI _).alloc (by simp;omega) _)).trans (ae.mono (by simp;omega)));clear ae))
    go_roundw;case rel=>exact⟨i+1,by omega,by go_num,Af3 (fun j c' d' hj h1 h2=>by
     rcases Nat.lt_succ_iff_lt_or_eq.1 hj with h|rfl
     ·exact hz.out j c' d' h h1 h2
     ·rw[HX.out.1] at h1;rw[HX.out.2] at h2;cases h1;cases h2;exact h0),aY⟩
    case measure=>simp[Ag7];omega
   ·obtain⟨q,hq⟩:∃q,q=po c d:=⟨_,rfl⟩
    have HQ:=Af3 hq;rw[<-hq] at h0 aB;clear hq;go_wp2_with (first
     | (go_at_call 173;refine(aB.out _).mono ?_;rintro e w1 ⟨rfl,ae⟩;have aY:=Af3 ((hb.out.trans (((Af6 _ _).alloc aI _).alloc (by simp;omega) _)).trans (ae.mono (by simp;omega)));clear ae))
    go_ret;exact⟨aX (by rw[HQ.out];exact(Sx HX.out.1 HX.out.2 hz.out (by rw[<-HQ.out];exact h0)).symm),aY.out⟩
  ·obtain rfl:i=n1:=by omega
   go_wp2;go_ret;exact⟨aX (Sy HE.out.2.2.1 (fun j c d h1 h2=>hz.out j c d (by have:=(Agb.1 h1).1;have:=HE.out.1;omega) h1 h2)).symm,hb.out⟩
theorem Td(l:List Int):l.flatMap (fun k=> [Value.int .i64 k])=l.map (Value.int .i64):=by
 induction l with
 |nil=>rfl
 |cons a l ih=>rw[List.flatMap_cons,Ah2,ih];rfl
theorem Ih{w:Aa4}{base:Nat}{e:Aa1}{v:Value}{l:List Int}(h:w.ownsRow base e 1 v l.length (l.map (Value.int .i64))):Row w w.heap.size 1 cH v l:=
 lu (f:=fun k:Int=> [Value.int .i64 k]) (by rw[Td];exact h) (fun _=>rfl) (fun _ _=>rfl)
theorem ah2{b:ao}{l:List Cut}{pv bv tv sv lv:Value}{g:Nat}{w:Aa4}{B:Nat}(ai:bg w B b pv bv tv)(hl:Row w B 2 Cut.R lv l)(hB:B<=w.heap.size)(xv:l.length<=1000)(hs:∃A n c,sv=.slice A n c)
 (dh:∀c∈l,∃k:Nat,c.bp=k/\k<b.aF.length)(rL:∀x∈b.aF,0<=x.aH/\x.aH<=40):
 Af1 prog 236 #[.agg #[.int .i64 b.ag,pv,bv,tv,sv,.map (some g)],lv] w fun e w'=>e=.returned (.int .i64 (lY b (jG l)))/\Below w.heap.size w w':=by
 have aB:=Af3 (taken (w:=w.alloc (.cells #[.int .i64 b.ag,pv,bv,tv,sv,.map (some g)] 151)) (hl.still ((Still.refl w).alloc hB _) fun _ _ h=>h) (by simp;omega) xv)
 have bT:=Af3 ai;obtain⟨A1,n1,c1,rfl,-⟩:=ai.pieces.open_;obtain⟨A2,n2,c2,rfl,e2,h2,dW,r2⟩:=ai.aF.open_;obtain⟨A3,n3,c3,rfl,-⟩:=ai.aJ.open_;obtain⟨A4,n4,c4,rfl⟩:=hs;obtain⟨A,n,c,rfl,rJ,-⟩:=hl.open_;unfold maxLen at dW;have qG:(jG l).length<=1000:=by
  unfold jG;have:=SA (ga (l.map (·.bp)));have h2:(ga (l.map (·.bp))).length=l.length:=by simp[ga]
  omega
 have E2:=Af3 (Afx e2 (Afx dh (Afx rL qG)));have H2:=Af3 r2;clear hl ai e2 r2 dh rL rJ qG;go_enter func236,Tryz.ntmps236;go_wp2_with (first
  | (go_at_call 235;refine aB.out.mono ?_;rintro e w1 ⟨u,rfl,aG,ae⟩
     have eI:=Ih aG;obtain⟨A9,m9,c9,rfl,cY,nG,eS,iN⟩:=eI.open_;have lF:=Af3 (Afx cY iN);have kk:=Af3 (Bk.below (g:=w.heap.size) (t:=151) (cs:=#[.int .i64 b.ag,.slice A1 n1 c1,.slice A2 n2 c2,.slice A3 n3 c3,.slice A4 n4 c4,.map (some g)]) (Bk.new w _ _) ae (by simp))
     have aY:=Af3 (cU (Af6 _ _) ae (Ac2 _));clear ae aG eI cY iN))
 unfold maxLen at eS;go_loopw [5,11] (fun s u wr=>∃i:Nat,i<=m9/\u=.int .i64 i/\s=.int .i64 (lY b ((jG l).take i))/\wr=w1) (fun _ u _=>m9 - (Ag7 u).toNat)
 case atStart=>exact⟨0,Agm _,rfl,by simp[lY],rfl⟩
 case round=>
  obtain⟨i,hi,rfl,rfl,rfl⟩:=hrel;have adp:((jG l).take i).length<=1000:=by have:=E2.out.2.2.2;simp;omega
  have hle:=VZ (b:=b) E2.out.2.2.1 ((jG l).take i);obtain⟨S,hS⟩:∃S,S=lY b ((jG l).take i):=⟨_,rfl⟩
  rw[<-hS] at hle |-
  have HS:=Af3 hS;have G3:0<=S:=hle.1;have fU:S<=40000:=by have:=hle.2;omega
  clear hS hle adp;by_cases al:i<m9
  ·obtain⟨ad,k,cs,kX,aC,hk,rfl,-,au⟩:=lF.out.2 i al
   subst kX;have g0: wr.cell? (ad.add i)=some (.int .i64 k):=by have:=cC au (Still.refl wr) aC (u:=.int .i64 k) rfl;rwa[Nat.mul_one] at this
   obtain⟨c0,ic,fB⟩:=ah4 (Agg hk);obtain⟨kn,da,xR⟩:=E2.out.2.1 c0 ic;obtain rfl:k=kn:=by rw[<-fB,da]
   have Hm:kn<n2:=by have:=E2.out.1;omega
   have qu:(kn:Int)<n2:=by omega
   obtain⟨cI,x,jQ,CO,fV,hx,⟨kvv,rfl,dH,-⟩,-,ie⟩:=H2.out kn Hm;subst CO;have st:Still B w wr:=Still.aK aY.out hB;have x1: wr.cell? ⟨(cI.add (kn * 3)).block,(cI.add (kn * 3)).off+1,none⟩=some (.int .i64 x.aH):=bK ie st fV 0 rfl;have p2: wr.cell? ⟨w.heap.size,2,none⟩=some (.slice (some cI) n2 c2):=kk.out.cell 2;have Eg:=E2.out.2.2.1 x (Agg hx);have vF:0<=x.aH:=Eg.1;have Ia:x.aH<=40:=Eg.2;have HK:=Af3 (Afx hk hx);clear hk hx au ie fB da st dH Eg ic;go_wp2;go_roundw;case rel=>exact⟨i+1,by omega,by go_num,by rw[oJ HK.out.1,ahj,<-HS.out];unfold yC;simp[HK.out.2],trivial⟩
   case measure=>simp[Ag7];omega
  ·obtain rfl:i=m9:=by omega
   go_wp2;go_ret;exact⟨aX (by rw[HS.out,List.take_of_length_le (Nat.le_of_eq lF.out.1)]),aY.out⟩
theorem PI{b:ao}(hv:Valid b){n:an}{out:Nat->Bool}:∀(f:Nat) (cs full:List Cut),(∀c∈cs,oO b c)->search b n out f cs=some full->full.length=cs.length+f/\∀c∈full,oO b c
 |0,cs,full,h,hs=>by
  unfold search at hs;cases hs;exact⟨rfl,h⟩
 |f+1,cs,full,h,hs=>by
  unfold search at hs;obtain⟨k,hk,hs⟩:=Ah3 hs
  unfold pC at hs;split at hs
  ·cases hs
  ·obtain⟨fr,b7,hs⟩:=Ah3 hs
   unfold kj at hs;split at hs
   ·have rH:k<b.aF.length:=by simpa using hk
    have Nk:fr<mJ b k:=by simpa using b7
    have hc:oO b ⟨k,fr⟩:=by
     refine⟨⟨k,rfl,rH⟩,?_⟩
     unfold mJ at Nk;cases e:b.aF[k]? with
     |none=>simp[e] at Nk
     |some x=>
      simp only[e] at Nk;have:=(hv.bp x (Agg e)).aH;show 0<=(fr:Int)/\(fr:Int)<=40;omega
    have:=PI hv f (cs++ [⟨k,fr⟩]) full (fun c tA=>by
     rcases List.mem_append.1 tA with h1|h1
     ·exact h c h1
     ·simp at h1;subst h1;exact hc) hs
    refine⟨by rw[this.1];simp;omega,this.2⟩
   ·cases hs
def nw(mI:List Cut->Int)(st:Option (List Cut×Int))(l:List Cut):Option (List Cut×Int):=match st with
 |none=>some (l,mI l)
 |some (c,m)=>if mI l<m\/(mI l=m/\oj l c<0) then some (l,mI l) else some (c,m)
def sY(b:ao)(n:an)(mI:List Cut->Int)(st:Option (List Cut×Int))(m:Nat):Option (List Cut×Int):=match search b n (jf m) b.pieces.length [] with
 |none=>st
 |some l=>nw mI st l
def iG(b:ao)(n:an)(mI:List Cut->Int)(M:Nat):Option (List Cut×Int):=(List.range M).foldl (sY b n mI) none
theorem kS(b:ao)(n:an)(mI:List Cut->Int)(M:Nat):iG b n mI (M+1)=sY b n mI (iG b n mI M) M:=by simp[iG,List.range_succ]
def wH(b:ao)(c:List Cut):Prop:=c.length=b.pieces.length/\∀x∈c,oO b x
theorem Cx{b:ao}(hv:Valid b){n:an}{mI:List Cut->Int}:∀(M:Nat) (c:List Cut) (m:Int),iG b n mI M=some (c,m)->wH b c
 |0,c,m,h=>by simp[iG] at h
 |M+1,c,m,h=>by
  rw[kS] at h;unfold sY at h;split at h
  ·exact Cx hv M c m h
  ·rename_i l hl
   have hg:wH b l:=by
    have:=PI hv _ [] l (by simp) hl
    exact⟨by simpa using this.1,this.2⟩
   unfold nw at h;split at h
   ·simp at h;rw[<-h.1];exact hg
   ·split at h
    ·simp at h;rw[<-h.1];exact hg
    ·rename_i c' m' heq _
     simp at h;rw[<-h.1];exact Cx hv M c' m' heq
theorem Xo{b:ao}(hv:Valid b){c:List Cut}(h:wH b c):∀x∈c,Kl x:=fun x hx=>by
 obtain⟨⟨k,hk,cP⟩,h2⟩:=h.2 x hx;have:=hv.nb;exact⟨by omega,by omega,h2.1,by have:=h2.2;omega⟩
def Lc(b:ao)(pv bv tv:Value)(KM:Nat)(mI:List Cut->Int)(w:Aa4)(B:Nat):Prop:=
 (∀args w,(callFunc KM args).run prog w=.ok (.enter KM args) w)/\∀(W:Aa4) (sv lv:Value) (g:Nat) (l:List Cut),Still B w W->B<=W.heap.size->(∃A n c,sv=.slice A n c)->Row W W.heap.size 2 Cut.R lv l->wH b l->
   Af1 prog KM #[.agg #[.int .i64 b.ag,pv,bv,tv,sv,.map (some g)],lv] W fun e W'=>e=.returned (.int .i64 (mI l))/\Below W.heap.size W W'
def lJ(W:Aa4)(base np:Nat)(st:Option (List Cut×Int))(cv mv fv:Value):Prop:=match st with
 |none=>cv=.slice none 0 0/\mv=.int .i64 0/\fv=.bool false
 |some (c,m)=>W.ownsRow base 56 2 cv np (c.flatMap Cut.vs)/\mv=.int .i64 m/\fv=.bool true
def Zx(w:Aa4)(b:ao)(st:Option (List Cut×Int))(e:Ending)(w':Aa4):Prop:=
 ∃cv mv fv,e=.returned (.tuple #[cv,mv,fv,.int .i64 0])/\lJ w' w.heap.size b.pieces.length st cv mv fv/\Below w.heap.size w w'
theorem alq{n:Nat}(h:n<=3):wrap64 ((2:Int) ^ n)=((2 ^ n:Nat):Int):=by
 match n,h with
 |0,_=>simp[wrap64]
 |1,_=>simp[wrap64]
 |2,_=>simp[wrap64]
 |3,_=>simp[wrap64]
theorem RO{mI:List Cut->Int}{c l:List Cut}{m:Int}(h:mI l<m\/(mI l=m/\oj l c<0)):nw mI (some (c,m)) l=some (l,mI l):=by
 show(if mI l<m\/(mI l=m/\oj l c<0) then some (l,mI l) else some (c,m))=_
 rw[if_pos h]
theorem RN{mI:List Cut->Int}{c l:List Cut}{m:Int}(h:¬ (mI l<m\/(mI l=m/\oj l c<0))):nw mI (some (c,m)) l=some (c,m):=by
 show(if mI l<m\/(mI l=m/\oj l c<0) then some (l,mI l) else some (c,m))=_
 rw[if_neg h]
theorem lJ.base{W:Aa4}{base sV np:Nat}{st:Option (List Cut×Int)}{cv mv fv:Value}(h:lJ W base np st cv mv fv)(hb:sV<=base):lJ W sV np st cv mv fv:=by
 unfold lJ at h |-
 cases st with
 |none=>exact h
 |some p=>exact⟨World.ownsRow.base h.1 hb,h.2⟩
theorem Bd{w w':Aa4}{base:Nat}{e:Aa1}{sz n g:Nat}{b:ao}{v:Value}{xs:List Value}(h:w.ownsRow base e sz v n xs)(hk:dK w g b)(hg:w.grownBy w' (some g)):w'.ownsRow base e sz v n xs:=by
 refine⟨h.1,?_⟩
 rcases h.2 with h0| ⟨q,cap,cur,h1,h2,h3,h4⟩
 ·exact .inl h0
 ·obtain⟨es,clock,k1,_⟩:=hk
  exact .inr ⟨q,cap,cur,h1,h2,(hg.block q (Aaf.1 h3).1 (fun e=>by cases e;rw[k1] at h3;cases h3)).trans h3,h4⟩
theorem acI{X:cS}{B:Nat}(ok:X.Ok B)(hB:B<=X.w.heap.size)(hk:dK X.w X.gm X.b)(hs:search X.b X.n X.out X.np []=none):
 Af1 prog 170 #[fv 174 #[.pointer (some ⟨X.gs,0,none⟩),.pointer (some ⟨X.go,0,none⟩),.pointer (some ⟨X.gn,0,none⟩)]] X.w fun e W'=>e=.returned (.tuple #[.slice none 0 0,.bool false])/\X.w.grownBy W' (some X.gm)/\dK W' X.gm X.b:=
 (S9 ok hB hk).mono fun e W' ⟨h1,h2,h3⟩=>by
   rcases h1 with⟨full,v,k1,_,_⟩ | ⟨_,k2⟩
   ·rw[hs] at k1;cases k1
   ·exact⟨k2,h2,h3⟩
theorem acJ{X:cS}{B:Nat}(ok:X.Ok B)(hB:B<=X.w.heap.size)(hk:dK X.w X.gm X.b){full:List Cut}(hs:search X.b X.n X.out X.np []=some full):
 Af1 prog 170 #[fv 174 #[.pointer (some ⟨X.gs,0,none⟩),.pointer (some ⟨X.go,0,none⟩),.pointer (some ⟨X.gn,0,none⟩)]] X.w fun e W'=>∃v,e=.returned (.tuple #[v,.bool true])/\W'.ownsRow X.w.heap.size 56 2 v X.np (full.flatMap Cut.vs)/\X.w.grownBy W' (some X.gm)/\dK W' X.gm X.b:=
 (S9 ok hB hk).mono fun e W' ⟨h1,h2,h3⟩=>by
   rcases h1 with⟨ac8,v,k1,k2,k3⟩ | ⟨k1,_⟩
   ·rw[hs] at k1;cases k1;exact⟨v,k2,k3,h2,h3⟩
   ·rw[hs] at k1;cases k1
theorem TE:∀(l:List an),(∀L∈l,L.Ok)->(cz l).Ok:=by
 have key:∀(l:List an) (M:an),M.Ok->(∀L∈l,L.Ok)->(l.foldl (fun M x=>mU M x 3) M).Ok:=by
  intro l;induction l with
  |nil=>intro M h _;exact h
  |cons a l ih=>
   intro M h hl;refine ih _ ?_ fun L hL=>hl L (by simp[hL])
   have ha:=hl a (by simp)
   have a0:=ha 0;have a1:=ha 1;have a2:=ha 2
   have m0:=h 0;have m1:=h 1;have m2:=h 2
   simp only[an.at] at a0 a1 a2 m0 m1 m2;intro q;unfold an.at mU;by_cases h0:q=0
   ·subst h0;simp at *;split<;>omega
   ·by_cases h1:q=1
    ·subst h1;simp at *;split<;>omega
    ·simp[h0,h1] at *;split<;>omega
 exact fun l hl=>key l _ (fun q=>by unfold an.at;simp) hl
def Bw(w2:Aa4)(b:ao)(pv bv tv sv:Value)(ps:List an)(gs gn g KO:Nat)(jD:Array Value)(out:Nat->Bool):cS:=
 {w:=w2,b,pv,bv,tv,sv,n:=cz ps,gs,go:=gs+1,gn,gm:=g,KO,jD,out,l:=0}
theorem PJ{w2 Wa:Aa4}{b:ao}{pv bv tv sv:Value}{ps:List an}{gn g KO:Nat}{jD:Array Value}{out:Nat->Bool}{B:Nat}(ai:bg w2 B b pv bv tv)(hv:Valid b)(NU:∀L∈ps,L.Ok)(oD:∃A n c,sv=.slice A n c)
 (Mv:B<=g)(Hj:g<Wa.heap.size)(k0:Bk w2 Wa.heap.size 151 #[.int .i64 b.ag,pv,bv,tv,sv,.map (some g)])(k1:Bk w2 (Wa.heap.size+1) 158 #[fv KO jD])(k2:Bk w2 gn 128 (cz ps).cs)(qm:Wa.heap.size<=gn)
 (eg:∀args w,(callFunc KO args).run prog w=.ok (.enter KO args) w)(ho:∀(k:Nat) (W:Aa4),k<b.aF.length->w2.grownBy W (some g)->Af1 prog KO (#[.int .i64 k]++jD) W fun e W'=>e=.returned (.bool (out k))/\Below W.heap.size W W'):
 (Bw w2 b pv bv tv sv ps Wa.heap.size gn g KO jD out).Ok B:=
 ⟨ai,hv,TE ps NU,oD,Mv,k0.lt,k1.lt,k2.lt,by show g<w2.heap.size;have:=k0.lt;omega,by show Wa.heap.size≠g;omega,by show Wa.heap.size+1≠g;omega,by show gn≠g;omega,k0,k1,k2,eg,ho⟩
set_option maxRecDepth 40000 in
theorem RR{w:Aa4}{b:ao}{pv bv tv:Value}{KM:Nat}{mI:List Cut->Int}{B:Nat}(hB:B<=w.heap.size)(ai:bg w B b pv bv tv)(hM:Lc b pv bv tv KM mI w B)(h:cj b 0=0):
 Af1 prog 117 #[.agg #[.int .i64 b.ag,pv,bv,tv],.agg #[.func (.func KM) #[] #[]]] w (Zx w b (iG b (cz (aD b)) mI (2 ^ b.aF.length))):=by
 have st:Still B w ((w.alloc (.cells #[.int .i64 b.ag,pv,bv,tv] 26)).alloc (.cells #[.func (.func KM) #[] #[]] 145)):=((Still.refl w).alloc hB _).alloc (by simp;omega) _
 have aB:=Af3 (PO (w:=((w.alloc (.cells #[.int .i64 b.ag,pv,bv,tv] 26)).alloc (.cells #[.func (.func KM) #[] #[]] 145))) (B:=B) (by simp;omega) (ai.still st) h)
 have hv:=iy (pq h).1;have HV:=Af3 hv;have bT:=Af3 ai;have YN:=Af3 hM.2;have egM:=hM.1;have gy:=hv.nb;obtain⟨A1,n1,c1,rfl,-⟩:=ai.pieces.open_;obtain⟨A2,n2,c2,rfl,e2,h2,dW,-⟩:=ai.aF.open_;obtain⟨A3,n3,c3,rfl,-⟩:=ai.aJ.open_;have lQ:n2<=3:=by omega
 have vz:=alq lQ;obtain⟨M,G2⟩:∃M,M=2 ^ n2:=⟨_,rfl⟩
 rw[<-G2] at vz;have hM8:M<=8:=by
  rw[G2];exact Nat.pow_le_pow_right (n:=2) (by omega) lQ
 have E2:=Af3 (Afx e2 G2);clear G2;unfold maxLen at dW;clear ai hM st h hv gy e2;go_enter func117,Tryz.ntmps117;go_wp2_with (first
  | (go_at_call 119;refine aB.out.mono ?_;rintro e w1 ⟨sv,g,rfl,aG,da,hg,ae⟩
     obtain⟨A9,m9,c9,rfl⟩:=j8 aG;have kb:=Bk.below (g:=w.heap.size) (t:=26) (cs:=#[.int .i64 b.ag,.slice A1 n1 c1,.slice A2 n2 c2,.slice A3 n3 c3]) ((Bk.new w _ _).alloc _) ae (by simp;omega)
     have km:=Bk.below (g:=w.heap.size+1) (t:=145) (cs:=#[.func (.func KM) #[] #[]]) (Bk.cG (by simp) _ _) ae (by simp)
     have b2: w1.cell? ⟨w.heap.size,2,none⟩=some (.slice A2 n2 c2):=kb.cell 2;have aN:w.heap.size+2<=w1.heap.size:=by have:=ae.size;simpa using this
     have ba:w.heap.size<w1.heap.size:=by omega
     have jB:w.heap.size<=w1.heap.size:=by omega
     have kG:w.heap.size+2<=g:=by simpa using hg
     have aY:Hid (Below w.heap.size w w1):=Af3 ((((Af6 _ _).alloc (Ac2 _) _).alloc (by simp) _).trans (ae.mono (by simp;omega)))
     have FR:=Af3 (Afx aG (Afx da (Afx kb km)));clear ae aG da kb km hg))
 obtain⟨G,TO⟩:∃G,G=cz (aD b):=⟨_,rfl⟩
 have HGD:=Af3 TO;clear TO;rw[vz];clear vz;go_loopw [4,5,6,25] (fun c m f u wr=>∃i:Nat,i<=M/\u=.int .i64 i/\Hid (lJ wr (w1.heap.size+1) b.pieces.length (iG b (cz (aD b)) mI i) c m f)/\Hid ((w1.alloc (.cells #[.int .i64 b.ag,.slice A1 n1 c1,.slice A2 n2 c2,.slice A3 n3 c3,.slice A9 m9 c9,.map (some g)] 151)).grownBy wr (some g))/\Hid (dK wr g b)) (fun _ _ _ u _=>M - (Ag7 u).toNat)
 case atStart=>exact⟨0,Agm _,rfl,Af3 (by simp[iG,lJ]),Af3 (World.grownBy.refl _ _),Af3 (FR.out.2.1.grown (Ahe w1 _ none) (by simp))⟩
 case round=>
  obtain⟨i,hi,rfl,aQ,hG,hK⟩:=hrel;have hgw:g<w1.heap.size:=FR.out.2.1.lt;have rV:w1.heap.size+1<=wr.heap.size:=by have:=hG.out.size;simpa using this
  have yz:Bk wr w1.heap.size 151 #[.int .i64 b.ag,.slice A1 n1 c1,.slice A2 n2 c2,.slice A3 n3 c3,.slice A9 m9 c9,.map (some g)]:=(Bk.new w1 _ _).grown hG.out (by simp;omega)
  have r0:=yz.cell 0;have r1:=yz.cell 1;have r2:=yz.cell 2;have r3:=yz.cell 3;have r4:=yz.cell 4;have r5:=yz.cell 5;have U4:eZ wr (w.heap.size+2) (.slice A9 m9 c9) (aD b):=by
   have h0:eZ w1 (w.heap.size+2) (.slice A9 m9 c9) (aD b):=by have:=FR.out.1;simpa using this
   have h1:=h0.alloc (.cells #[.int .i64 b.ag,.slice A1 n1 c1,.slice A2 n2 c2,.slice A3 n3 c3,.slice A9 m9 c9,.map (some g)] 151);exact Bd h1 (FR.out.2.1.grown (Ahe w1 _ none) (by simp)) hG.out
  have eI:Row (wr.alloc (.cells #[.int .i64 i] 3)) wr.heap.size 3 an.R (.slice A9 m9 c9) (aD b):=U4.row.still ((Still.refl wr).alloc (Ac2 _) _) fun _ _ h=>h
  clear yz U4;by_cases al:i<M
  ·have a1:w1.heap.size<wr.heap.size:=by omega
   have a2:w1.heap.size<=wr.heap.size:=by omega
   cases hs:search b (cz (aD b)) (jf i) b.pieces.length [] with
   |none=>
    have NX:Hid (iG b (cz (aD b)) mI (i+1)=iG b (cz (aD b)) mI i):=Af3 (by rw[kS];unfold sY;rw[hs])
    go_wp2_with (first
     | (go_at_call 122;refine(LY (B:=wr.heap.size) (ps:=aD b) eI (by simp) ⟨_,_,_,rfl⟩ ⟨_,_,_,rfl⟩ ⟨_,_,_,rfl⟩).mono ?_;rintro e w2 ⟨gn,rfl,k0,k1,k2,qm,ak⟩
        have ba:wr.heap.size+1<=w2.heap.size:=by have:=ak.size;simpa using this
        have vk:wr.grownBy w2 (some g):=(Ahe wr (.cells #[.int .i64 i] 3) _).trans (je ak (Ac2 _) _);have cP:dK w2 g b:=hK.out.grown (row:=none) ((Ahe wr (.cells #[.int .i64 i] 3) _).trans (je ak (Ac2 _) _)) (by simp)
        have Er:Bk w2 wr.heap.size 3 #[.int .i64 i]:=(Bk.new wr _ _).below ak (by simp)
        have hX:=PJ (KO:=171) (jD:=#[.pointer (some ⟨wr.heap.size,0,none⟩)]) (out:=jf i) (B:=B) (bT.out.still ((FH ((je aY.out (Ac2 _) _).trans ((Ahe w1 (.cells #[.int .i64 b.ag,.slice A1 n1 c1,.slice A2 n2 c2,.slice A3 n3 c3,.slice A9 m9 c9,.map (some g)] 151) _).trans (hG.out.trans vk))) (by omega) hB))) HV.out (uG HV.out) ⟨_,_,_,rfl⟩ (by omega) (by simp;omega) k0 k1 k2 qm call171 (fun k W hk eh=>RK (by omega) (by have:=HV.out.nb;omega) (Er.grown eh (by simp;omega)))
        have wZ:=acI hX (by show B<=w2.heap.size;omega) cP hs
        simp only[Bw,World.size_alloc] at wZ;have Kf:=Af3 wZ;have uA:=Af3 (Afx vk cP);clear ak k0 k1 k2 vk cP Er hX wZ)
     | (go_at_call 170;refine Kf.out.mono ?_;rintro e w3 ⟨rfl,vi,fh⟩;have iD:=Af3 (Afx vi fh);clear vi fh))
    go_roundw;case rel=>exact⟨i+1,by omega,by go_num,Af3 (by
     have h0:=aQ.out;rw[NX.out];unfold lJ at h0 |-
     revert h0
     cases iG b (cz (aD b)) mI i with
     |none=>exact id
     |some p=>
      rintro⟨k1,k2,k3⟩;exact⟨Bd (Bd k1 hK.out uA.out.1) uA.out.2 iD.out.1,k2,k3⟩),
     Af3 (hG.out.trans (uA.out.1.trans iD.out.1)),Af3 iD.out.2⟩
    case measure=>simp[Ag7];omega
   |some l=>
    have k7:wH b l:=by
     have:=PI HV.out _ [] l (by simp) hs
     exact⟨by simpa using this.1,this.2⟩
    have HL:=Af3 k7;obtain⟨q,hq⟩:∃q,q=mI l:=⟨_,rfl⟩
    have HQ:=Af3 hq;clear k7 hq;have NX:Hid (iG b (cz (aD b)) mI (i+1)=nw mI (iG b (cz (aD b)) mI i) l):=Af3 (by rw[kS];unfold sY;rw[hs])
    go_wp2_with (first
     | (go_at_call 122;refine(LY (B:=wr.heap.size) (ps:=aD b) eI (by simp) ⟨_,_,_,rfl⟩ ⟨_,_,_,rfl⟩ ⟨_,_,_,rfl⟩).mono ?_;rintro e w2 ⟨gn,rfl,k0,k1,k2,qm,ak⟩
        have ba:wr.heap.size+1<=w2.heap.size:=by have:=ak.size;simpa using this
        have vk:wr.grownBy w2 (some g):=(Ahe wr (.cells #[.int .i64 i] 3) _).trans (je ak (Ac2 _) _);have cP:dK w2 g b:=hK.out.grown (row:=none) ((Ahe wr (.cells #[.int .i64 i] 3) _).trans (je ak (Ac2 _) _)) (by simp)
        have Er:Bk w2 wr.heap.size 3 #[.int .i64 i]:=(Bk.new wr _ _).below ak (by simp)
        have hX:=PJ (KO:=171) (jD:=#[.pointer (some ⟨wr.heap.size,0,none⟩)]) (out:=jf i) (B:=B) (bT.out.still ((FH ((je aY.out (Ac2 _) _).trans ((Ahe w1 (.cells #[.int .i64 b.ag,.slice A1 n1 c1,.slice A2 n2 c2,.slice A3 n3 c3,.slice A9 m9 c9,.map (some g)] 151) _).trans (hG.out.trans vk))) (by omega) hB))) HV.out (uG HV.out) ⟨_,_,_,rfl⟩ (by omega) (by simp;omega) k0 k1 k2 qm call171 (fun k W hk eh=>RK (by omega) (by have:=HV.out.nb;omega) (Er.grown eh (by simp;omega)))
        have wZ:=acJ hX (by show B<=w2.heap.size;omega) cP hs
        simp only[Bw,World.size_alloc] at wZ;have Kf:=Af3 wZ;have uA:=Af3 (Afx vk cP);clear ak k0 k1 k2 vk cP Er hX wZ)
     | (go_at_call 170;refine Kf.out.mono ?_;rintro e w3 ⟨v,rfl,tG,vi,fh⟩
        obtain⟨A8,m8,c8,rfl⟩:=j8 tG;have GZ:=hG.out.trans (uA.out.1.trans vi);have yA:Bk w3 w1.heap.size 151 #[.int .i64 b.ag,.slice A1 n1 c1,.slice A2 n2 c2,.slice A3 n3 c3,.slice A9 m9 c9,.map (some g)]:=(Bk.new w1 _ _).grown GZ (by simp;omega)
        have VQ:Bk w3 (w.heap.size+1) 145 #[.func (.func KM) #[] #[]]:=(FR.out.2.2.2.alloc (.cells #[.int .i64 b.ag,.slice A1 n1 c1,.slice A2 n2 c2,.slice A3 n3 c3,.slice A9 m9 c9,.map (some g)] 151)).grown GZ (by simp;omega)
        have s0:=yA.cell 0;have s1:=yA.cell 1;have s2:=yA.cell 2;have s3:=yA.cell 3;have s4:=yA.cell 4;have s5:=yA.cell 5;have t0: w3.cell? ⟨w.heap.size+1,0,none⟩=some (.func (.func KM) #[] #[]):=VQ.cell 0;have iD:=Af3 (Afx vi (Afx fh (Afx tG GZ)));clear vi fh tG GZ yA VQ))
    have hlen:l.length=b.pieces.length:=HL.out.1;have tG:w3.ownsRow w3.heap.size.pred 56 2 (.slice A8 m8 c8) l.length (l.flatMap Cut.vs)\/True:=.inr trivial;have N5:Row w3 w3.heap.size 2 Cut.R (.slice A8 m8 c8) l:=lu (by rw[hlen];exact iD.out.2.2.1) (fun _=>rfl) (fun _ _=>rfl)
    have HU:Still B w w3:=FH ((je aY.out (Ac2 _) _).trans ((Ahe w1 (.cells #[.int .i64 b.ag,.slice A1 n1 c1,.slice A2 n2 c2,.slice A3 n3 c3,.slice A9 m9 c9,.map (some g)] 151) _).trans iD.out.2.2.2)) (by omega) hB
    have Vt:w1.heap.size+1<=w3.heap.size:=by have:=iD.out.2.2.2.size;simpa using this
    have LJ:=YN.out w3 (.slice A9 m9 c9) (.slice A8 m8 c8) g l HU (by omega) ⟨_,_,_,rfl⟩ N5 HL.out
    rw[<-HQ.out] at LJ;clear hlen tG HU;refine LJ.mono ?_
    rintro e w4 ⟨rfl,cO⟩;have Va:Row w4 w3.heap.size 2 Cut.R (.slice A8 m8 c8) l:=N5.still (Still.aK cO (Ac2 _)) fun _ _ h=>h
    have HF:=Af3 (Afx (iD.out.2.2.2.trans (je cO (Ac2 _) (some g))) (iD.out.2.1.below cO iD.out.2.1.lt));have U3:w4.ownsRow (w1.heap.size+1) 56 2 (.slice A8 m8 c8) b.pieces.length (l.flatMap Cut.vs):=(qO (Bd iD.out.2.2.1 iD.out.2.1 (World.grownBy.refl _ _)) cO (Ac2 _)).base (by have:=uA.out.1.size;show w1.heap.size+1<=w2.heap.size;omega)
    have wQ:=Af3 U3;have YU:=Af3 Va;have vG:=cO.size;have pf:=aQ.out;clear N5 Va U3 LJ;cases fe:iG b (cz (aD b)) mI i with
    |none=>
     rw[fe] at pf;obtain⟨rfl,rfl,rfl⟩:=pf;have pP:Hid (lJ w4 (w1.heap.size+1) b.pieces.length (nw mI none l) (.slice A8 m8 c8) (.int .i64 q) (.bool true)):=Af3 ⟨wQ.out,by rw[HQ.out],rfl⟩
     clear cO;go_wp2;go_roundw;case rel=>exact⟨i+1,by omega,by go_num,Af3 (by rw[NX.out,fe];exact pP.out),Af3 HF.out.1,Af3 HF.out.2⟩
     case measure=>simp[Ag7];omega
    |some p=>
     obtain⟨c,m⟩:=p;rw[fe] at pf;obtain⟨NQ,rfl,rfl⟩:=pf;obtain⟨A7,m7,c7,rfl⟩:=j8 NQ;have NS:w4.ownsRow (w1.heap.size+1) 56 2 (.slice A7 m7 c7) b.pieces.length (c.flatMap Cut.vs):=qO (Bd (Bd NQ hK.out uA.out.1) uA.out.2 iD.out.1) cO (Ac2 _);have xP:wH b c:=Cx HV.out i c m fe;have gP:Row w4 w4.heap.size 2 Cut.R (.slice A7 m7 c7) c:=lu (by rw[xP.1];exact NS) (fun _=>rfl) (fun _ _=>rfl)
     have Kh:=Af3 (aaU (YU.out.more vG) gP (Ac2 _) (HL.out.1.trans xP.1.symm) (Xo HV.out HL.out) (Xo HV.out xP));have Q9:=Af3 NS;clear cO NQ NS xP gP;by_cases h1:q<m
     ·have pP:Hid (lJ w4 (w1.heap.size+1) b.pieces.length (nw mI (some (c,m)) l) (.slice A8 m8 c8) (.int .i64 q) (.bool true)):=Af3 (by
       rw[RO (.inl (by rw[<-HQ.out];exact h1))];exact⟨wQ.out,by rw[HQ.out],rfl⟩)
      go_wp2;go_roundw;case rel=>exact⟨i+1,by omega,by go_num,Af3 (by rw[NX.out,fe];exact pP.out),Af3 HF.out.1,Af3 HF.out.2⟩
      case measure=>simp[Ag7];omega
     ·by_cases h2:q=m
      ·subst h2
       obtain⟨C,hC⟩:∃C,C=oj l c:=⟨_,rfl⟩
       have HC:=Af3 hC;rw[<-hC] at Kh;clear hC;by_cases h3:C<0
       ·have pP:∀w5,Below w4.heap.size w4 w5->Hid (lJ w5 (w1.heap.size+1) b.pieces.length (nw mI (some (c,q)) l) (.slice A8 m8 c8) (.int .i64 q) (.bool true)):=fun w5 h5=>Af3 (by
           rw[RO (.inr ⟨HQ.out.symm,by rw[<-HC.out];exact h3⟩)];exact⟨qO wQ.out h5 (Ac2 _),by rw[HQ.out],rfl⟩)
        have KY:=Af3 pP;clear pP;go_wp2_with (first
           | (go_at_call 172;refine Kh.out.mono ?_;rintro e w5 ⟨rfl,eR⟩;have mi:=Af3 eR;clear eR))
        go_roundw;case rel=>exact⟨i+1,by omega,by go_num,Af3 (by rw[NX.out,fe];exact(KY.out w5 mi.out).out),Af3 (HF.out.1.trans (je mi.out (Ac2 _) _)),Af3 (HF.out.2.below mi.out HF.out.2.lt)⟩
        case measure=>simp[Ag7];omega
       ·have pP:∀w5,Below w4.heap.size w4 w5->Hid (lJ w5 (w1.heap.size+1) b.pieces.length (nw mI (some (c,q)) l) (.slice A7 m7 c7) (.int .i64 q) (.bool true)):=fun w5 h5=>Af3 (by
           rw[RN (by rw[<-HQ.out,<-HC.out];omega)];exact⟨qO Q9.out h5 (Ac2 _),rfl,rfl⟩)
        have KY:=Af3 pP;clear pP;go_wp2_with (first
           | (go_at_call 172;refine Kh.out.mono ?_;rintro e w5 ⟨rfl,eR⟩;have mi:=Af3 eR;clear eR))
        go_roundw;case rel=>exact⟨i+1,by omega,by go_num,Af3 (by rw[NX.out,fe];exact(KY.out w5 mi.out).out),Af3 (HF.out.1.trans (je mi.out (Ac2 _) _)),Af3 (HF.out.2.below mi.out HF.out.2.lt)⟩
        case measure=>simp[Ag7];omega
      ·have h4:(q==m)=false:=by simpa using h2
       have pP:Hid (lJ w4 (w1.heap.size+1) b.pieces.length (nw mI (some (c,m)) l) (.slice A7 m7 c7) (.int .i64 m) (.bool true)):=Af3 (by
        rw[RN (by rw[<-HQ.out];omega)];exact⟨Q9.out,rfl,rfl⟩)
       go_wp2;go_roundw;case rel=>exact⟨i+1,by omega,by go_num,Af3 (by rw[NX.out,fe];exact pP.out),Af3 HF.out.1,Af3 HF.out.2⟩
       case measure=>simp[Ag7];omega
  ·obtain rfl:i=M:=by omega
   have mi:Hid (Below w.heap.size w wr):=Af3 (aY.out.trans (Below.grown ((Af6 _ _).alloc (by omega) _) hG.out (by simp;omega) (fun k e=>by cases e;omega)))
   go_wp2;refine Ag1 (v:=.tuple #[u4,u5,u6,.int .i64 0]) (by simp[results,Tryz.results117,go_sem]) rfl ?_
   refine⟨u4,u5,u6,rfl,?_,mi.out⟩
   rw[E2.out.1,<-E2.out.2];exact aQ.out.base (by omega)
theorem RQ{w:Aa4}{b:ao}{pv bv tv:Value}{KM:Nat}{B:Nat}(hB:B<=w.heap.size)(ai:bg w B b pv bv tv)(h:cj b 0≠0):
 Af1 prog 117 #[.agg #[.int .i64 b.ag,pv,bv,tv],.agg #[.func (.func KM) #[] #[]]] w fun e w'=>e=.returned (.tuple #[.slice none 0 0,.int .i64 0,.bool false,.int .i64 (cj b 0)])/\Below w.heap.size w w':=by
 have st:Still B w ((w.alloc (.cells #[.int .i64 b.ag,pv,bv,tv] 26)).alloc (.cells #[.func (.func KM) #[] #[]] 145)):=((Still.refl w).alloc hB _).alloc (by simp;omega) _
 have aB:=Af3 (als (w:=((w.alloc (.cells #[.int .i64 b.ag,pv,bv,tv] 26)).alloc (.cells #[.func (.func KM) #[] #[]] 145))) (B:=B) (by simp;omega) (ai.still st) h)
 unfold Xl at aB;obtain⟨s,hs⟩:∃s,s=cj b 0:=⟨_,rfl⟩
 rw[<-hs] at aB h |-
 obtain⟨A1,n1,c1,rfl,-⟩:=ai.pieces.open_;obtain⟨A2,n2,c2,rfl,-⟩:=ai.aF.open_;obtain⟨A3,n3,c3,rfl,-⟩:=ai.aJ.open_;clear ai st hs;go_enter func117,Tryz.ntmps117;go_wp2_with (first
  | (go_at_call 119;refine aB.out.mono ?_;rintro e w1 ⟨g,rfl,ae⟩
     have aY:Hid (Below w.heap.size w w1):=Af3 ((((Af6 _ _).alloc (Ac2 _) _).alloc (by simp) _).trans (ae.mono (by simp;omega)));clear ae))
 refine Ag1 (v:=.tuple #[.slice none 0 0,.int .i64 0,.bool false,.int .i64 s]) (by simp[results,Tryz.results117,go_sem]) rfl ⟨rfl,?_⟩
 exact aY.out.alloc aY.out.size _
def gI(w:Aa4):Prop:=∃fr,w.heap[0]?=some (.cells #[.func (.func 234) #[] #[],.func (.func 236) #[] #[]] 146 fr)
theorem gI.cell{w:Aa4}(h:gI w)(i:Nat): w.cell? ⟨0,i,none⟩=(#[.func (.func 234) #[] #[],.func (.func 236) #[] #[]]:Array Value)[i]?:=by
 obtain⟨fr,h⟩:=h;exact cell_of_row w 0 i _ 146 fr h
theorem gI.lt{w:Aa4}(h:gI w):0<w.heap.size:=by
 obtain⟨fr,h⟩:=h;exact(Aaf.1 h).1
theorem gI.below{B:Nat}{w w':Aa4}(h:gI w)(hb:Below B w w')(hB:0<B):gI w':=by
 obtain⟨fr,h⟩:=h;exact⟨fr,(hb.block 0 hB).trans h⟩
def j6(l:List Cut):Int:=(jG l).length
def qM(b:ao)(l:List Cut):Int:=lY b (jG l)
theorem agm{w:Aa4}{b:ao}{pv bv tv:Value}{B:Nat}(ai:bg w B b pv bv tv)(hv:Valid b):Lc b pv bv tv 234 j6 w B:=by
 refine⟨call234,fun W sv lv g l hW hB hs hl hg=>?_⟩
 obtain⟨A1,n1,c1,e1,-⟩:=ai.pieces.open_;obtain⟨A2,n2,c2,e2,-⟩:=ai.aF.open_;obtain⟨A3,n3,c3,e3,-⟩:=ai.aJ.open_;exact ah1 (g:=g) hl (Ac2 _) (by have:=hg.1;have:=hv.np;omega) ⟨_,_,_,e1⟩ ⟨_,_,_,e2⟩ ⟨_,_,_,e3⟩ hs
theorem agn{w:Aa4}{b:ao}{pv bv tv:Value}{B:Nat}(ai:bg w B b pv bv tv)(hv:Valid b):Lc b pv bv tv 236 (qM b) w B:=by
 refine⟨call236,fun W sv lv g l hW hB hs hl hg=>?_⟩
 have MT:=ai.still hW;have MU:bg W W.heap.size b pv bv tv:=⟨MT.pieces.more hB,(MT.aF.more hB).still (Still.refl _) fun x cs h=>by obtain⟨kv,h1,h2,h3⟩:=h;exact⟨kv,h1,h2,h3.more hB⟩,(MT.aJ.more hB).still (Still.refl _) fun x cs h=>by obtain⟨kv,h1,h2⟩:=h;exact⟨kv,h1,h2.more hB⟩⟩
 exact ah2 (g:=g) MU hl (Ac2 _) (by have:=hg.1;have:=hv.np;omega) hs (fun c hc=>(hg.2 c hc).bp) fun x hx=>by have:=(hv.bp x hx).aH;omega
def fA(b:ao)(mI:List Cut->Int):Option (List Cut×Int):=if cj b 0=0 then iG b (cz (aD b)) mI (2 ^ b.aF.length) else none
def wM(w:Aa4)(b:ao)(mI:List Cut->Int)(e:Ending)(w':Aa4):Prop:=
 ∃cv mv fv,e=.returned (.tuple #[cv,mv,fv,.int .i64 (cj b 0)])/\lJ w' w.heap.size b.pieces.length (fA b mI) cv mv fv/\Below w.heap.size w w'
theorem Md{w:Aa4}{b:ao}{pv bv tv:Value}{B:Nat}(hB:B<=w.heap.size)(ai:bg w B b pv bv tv)(hg:gI w):
 Af1 prog 33 #[.agg #[.int .i64 b.ag,pv,bv,tv]] w (wM w b j6):=by
 have st:Still B w (w.alloc (.cells #[.int .i64 b.ag,pv,bv,tv] 26)):=(Still.refl w).alloc hB _;have call:Af1 prog 117 #[.agg #[.int .i64 b.ag,pv,bv,tv],.agg #[.func (.func 234) #[] #[]]] (w.alloc (.cells #[.int .i64 b.ag,pv,bv,tv] 26)) fun e w'=>
  ∃cv mv fv,e=.returned (.tuple #[cv,mv,fv,.int .i64 (cj b 0)])/\Hid (lJ w' w.heap.size b.pieces.length (fA b j6) cv mv fv/\Below w.heap.size w w'):=by
  by_cases h:cj b 0=0
  ·refine(RR (w:=w.alloc (.cells #[.int .i64 b.ag,pv,bv,tv] 26)) (B:=B) (KM:=234) (by simp;omega) (ai.still st) (agm (ai.still st) (iy (pq h).1)) h).mono ?_
   rintro e w' ⟨cv,mv,fv,rfl,h1,h2⟩;refine⟨cv,mv,fv,by rw[h],Af3 ⟨?_,cU (Af6 _ _) h2 (Ac2 _)⟩⟩
   unfold fA;rw[if_pos h];exact h1.base (by simp)
  ·refine(RQ (w:=w.alloc (.cells #[.int .i64 b.ag,pv,bv,tv] 26)) (B:=B) (KM:=234) (by simp;omega) (ai.still st) h).mono ?_
   rintro e w' ⟨rfl,h2⟩;refine⟨_,_,_,rfl,Af3 ⟨?_,cU (Af6 _ _) h2 (Ac2 _)⟩⟩
   unfold fA;rw[if_neg h];exact⟨rfl,rfl,rfl⟩
 have aB:=Af3 call;obtain⟨s,hs⟩:∃s,s=cj b 0:=⟨_,rfl⟩
 rw[<-hs] at aB;have HS:=Af3 hs;obtain⟨A1,n1,c1,rfl,-⟩:=ai.pieces.open_;obtain⟨A2,n2,c2,rfl,-⟩:=ai.aF.open_;obtain⟨A3,n3,c3,rfl,-⟩:=ai.aJ.open_;have g0: w.cell? ⟨0,0,none⟩=some (.func (.func 234) #[] #[]):=gI.cell hg 0;have h0:0<w.heap.size:=gI.lt hg;clear ai st hg call hs;go_enter func33,Tryz.ntmps33;go_wp2_with (first
  | (go_at_call 117;refine aB.out.mono ?_;rintro e w1 ⟨cv,mv,fv,rfl,jY⟩))
 refine Ag1 (v:=.tuple #[cv,mv,fv,.int .i64 s]) (by simp[results,Tryz.results33,go_sem]) rfl ⟨cv,mv,fv,by rw[HS.out],jY.out.1,jY.out.2⟩
theorem Xm{w:Aa4}{b:ao}{pv bv tv:Value}{B:Nat}(hB:B<=w.heap.size)(ai:bg w B b pv bv tv)(hg:gI w):
 Af1 prog 36 #[.agg #[.int .i64 b.ag,pv,bv,tv]] w (wM w b (qM b)):=by
 have st:Still B w (w.alloc (.cells #[.int .i64 b.ag,pv,bv,tv] 26)):=(Still.refl w).alloc hB _;have call:Af1 prog 117 #[.agg #[.int .i64 b.ag,pv,bv,tv],.agg #[.func (.func 236) #[] #[]]] (w.alloc (.cells #[.int .i64 b.ag,pv,bv,tv] 26)) fun e w'=>
  ∃cv mv fv,e=.returned (.tuple #[cv,mv,fv,.int .i64 (cj b 0)])/\Hid (lJ w' w.heap.size b.pieces.length (fA b (qM b)) cv mv fv/\Below w.heap.size w w'):=by
  by_cases h:cj b 0=0
  ·refine(RR (w:=w.alloc (.cells #[.int .i64 b.ag,pv,bv,tv] 26)) (B:=B) (KM:=236) (by simp;omega) (ai.still st) (agn (ai.still st) (iy (pq h).1)) h).mono ?_
   rintro e w' ⟨cv,mv,fv,rfl,h1,h2⟩;refine⟨cv,mv,fv,by rw[h],Af3 ⟨?_,cU (Af6 _ _) h2 (Ac2 _)⟩⟩
   unfold fA;rw[if_pos h];exact h1.base (by simp)
  ·refine(RQ (w:=w.alloc (.cells #[.int .i64 b.ag,pv,bv,tv] 26)) (B:=B) (KM:=236) (by simp;omega) (ai.still st) h).mono ?_
   rintro e w' ⟨rfl,h2⟩;refine⟨_,_,_,rfl,Af3 ⟨?_,cU (Af6 _ _) h2 (Ac2 _)⟩⟩
   unfold fA;rw[if_neg h];exact⟨rfl,rfl,rfl⟩
 have aB:=Af3 call;obtain⟨s,hs⟩:∃s,s=cj b 0:=⟨_,rfl⟩
 rw[<-hs] at aB;have HS:=Af3 hs;obtain⟨A1,n1,c1,rfl,-⟩:=ai.pieces.open_;obtain⟨A2,n2,c2,rfl,-⟩:=ai.aF.open_;obtain⟨A3,n3,c3,rfl,-⟩:=ai.aJ.open_;have g0: w.cell? ⟨0,1,none⟩=some (.func (.func 236) #[] #[]):=gI.cell hg 1;have h0:0<w.heap.size:=gI.lt hg;clear ai st hg call hs;go_enter func36,Tryz.ntmps36;go_wp2_with (first
  | (go_at_call 117;refine aB.out.mono ?_;rintro e w1 ⟨cv,mv,fv,rfl,jY⟩))
 refine Ag1 (v:=.tuple #[cv,mv,fv,.int .i64 s]) (by simp[results,Tryz.results36,go_sem]) rfl ⟨cv,mv,fv,by rw[HS.out],jY.out.1,jY.out.2⟩
end Go.Tw
namespace Go.Tw
variable [Go.Tw.aR]
open Go Go.Proofs Go.RowKit
end Go.Tw
namespace Go.Jn
open Go Go.Sim Go.Tw
def Pv(S:Nat->Prop):Value->Prop
 | .bool _| .int _ _| .string _| .pointer none| .slice none _ _| .map none| .chan none| .nilFunc| .nilIface=>True
 | .pointer (some a)=>S a.block
 | .slice (some a) n c=>S a.block\/(n=0/\c=0)
 | .func (.func _) x y=>x=#[]/\y=#[]
 |_=>False
def vQ(ρ:Ren)(S:Nat->Prop):Ren:=fun a b=>ρ a b/\S a
theorem Pv.rel{ρ:Ren}{S:Nat->Prop}{v v':Value}(h:ah ρ v v')(hp:Pv S v):ah (vQ ρ S) v v':=by
 cases h;case bool b=>exact .bool b
 case int k n=>exact .int k n
 case string s=>exact .string s
 case ptrNone=>exact .ptrNone
 case ptr ha=>exact .ptr ⟨⟨ha.1,hp⟩,ha.2⟩
 case sliceNone n c=>exact .sliceNone n c
 case slice n c ha=>
  rcases hp with hp| ⟨rfl,rfl⟩
  ·exact .slice n c ⟨⟨ha.1,hp⟩,ha.2⟩
  ·exact .sliceDead _ _
 case sliceDead=>exact .sliceDead _ _
 case mapNone=>exact .mapNone
 case map=>exact hp.elim
 case chanNone=>exact .chanNone
 case chan=>exact hp.elim
 case func hf hx h1 hy h2=>
  cases hf with
  |func f=>
   obtain⟨rfl,rfl⟩:=hp;exact .func (.func f) hx (fun i hi _=>absurd hi (by simp)) hy (fun i hi _=>absurd hi (by simp))
  |yield=>exact hp.elim
 case nilFunc=>exact .nilFunc
 case iface=>exact hp.elim
 case nilIface=>exact .nilIface
 case agg=>exact hp.elim
 case tuple=>exact hp.elim
 case junk=>exact hp.elim
 case fjunk=>exact hp.elim
theorem rB(σ:Ren):∀v':Value,∃u,ah σ u v'
 | .bool b=>⟨_,.bool b⟩
 | .int k n=>⟨_,.int k n⟩
 | .float k n=>⟨_,.junk rfl (by simp) (by simp)⟩
 | .complex k n m=>⟨_,.junk rfl (by simp) (by simp)⟩
 | .string s=>⟨_,.string s⟩
 | .pointer none=>⟨_,.ptrNone⟩
 | .pointer (some a)=>⟨_,.junk rfl (by simp) (by simp)⟩
 | .slice none n c=>⟨_,.sliceNone n c⟩
 | .slice (some a) n c=>⟨_,.junk rfl (by simp) (by simp)⟩
 | .map none=>⟨_,.mapNone⟩
 | .map (some a)=>⟨_,.junk rfl (by simp) (by simp)⟩
 | .chan none=>⟨_,.chanNone⟩
 | .chan (some a)=>⟨_,.junk rfl (by simp) (by simp)⟩
 | .func f x y=>⟨_,.fjunk f x y⟩
 | .nilFunc=>⟨_,.nilFunc⟩
 | .iface t v=>⟨_,.junk rfl (by simp) (by simp)⟩
 | .nilIface=>⟨_,.nilIface⟩
 | .tuple x=>⟨_,.junk rfl (by simp) (by simp)⟩
 | .agg x=>by
   have ih:∀i (h:i<x.size),∃u,ah σ u x[i]:=fun i h=>rB σ x[i]
   refine⟨.agg (Ahw fun i:Fin x.size=>Adi (ih i.1 i.2)),.agg (by simp) fun i h1 h2=>?_⟩
   rw[Ahx];exact Adj (ih i h2)
theorem fO{ρ:Ren}(S:Nat->Prop){v v':Value}(h:ah ρ v v'):∃u,ah (vQ ρ S) u v'/\(Pv S v->u=v):=by
 by_cases hp:Pv S v
 ·exact⟨v,Pv.rel h hp,fun _=>rfl⟩
 ·obtain⟨u,hu⟩:=rB (vQ ρ S) v'
  exact⟨u,hu,fun h=>absurd h hp⟩
theorem aa6{ρ:Ren}(S:Nat->Prop){c c':Array Value}(h:aP ρ c c'):∃u:Array Value,aP (vQ ρ S) u c'/\u.size=c.size/\∀(i:Nat) (v:Value),c[i]?=some v->Pv S v->u[i]?=some v:=by
 have key:∀i (h1:i<c.size),∃u,(∀h2:i<c'.size,ah (vQ ρ S) u c'[i])/\(Pv S c[i]->u=c[i]):=fun i h1=>by
  obtain⟨u,a,b⟩:=fO S (h.2 i h1 (h.1▸h1));exact⟨u,fun _=>a,b⟩
 refine⟨Ahw fun i:Fin c.size=>Adi (key i.1 i.2),⟨by simp[h.1],fun i h1 h2=>?_⟩,by simp,fun i v hi hp=>?_⟩
 ·rw[Ahx]
  exact(Adj (key i (by simpa using h1))).1 h2
 ·obtain⟨al,e⟩:=Aaf.1 hi
  rw[Ahy,dif_pos al]
  exact congrArg some (((Adj (key i al)).2 (by rw[e];exact hp)).trans e)
section
variable (ρ:Ren)(w w':Aa4)
def gd(a:Nat):Prop:=∃b c c' e fr aV,ρ a b/\w.heap[a]?=some (.cells c e fr)/\w'.heap[b]?=some (.cells c' e aV)/\aP ρ c c'
def Kr(a:Nat)(o:Obj):Prop:=∃(b:Nat) (c c':Array Value) (e:Aa1) (fr aV:Nat×Nat) (u:Array Value),ρ a b/\w.heap[a]?=some (.cells c e fr)/\w'.heap[b]?=some (.cells c' e aV)/\aP (vQ ρ (gd ρ w w')) u c'/\u.size=c.size/\(∀(i:Nat) (v:Value),c[i]?=some v->Pv (gd ρ w w') v->u[i]?=some v)/\o=.cells u e (0,u.size)
theorem ac3{a:Nat}(h:gd ρ w w' a):∃o,Kr ρ w w' a o:=by
 obtain⟨b,c,c',e,fr,aV,h1,h2,h3,h4⟩:=h;obtain⟨u,k1,k2,k3⟩:=aa6 (gd ρ w w') h4;exact⟨_,b,c,c',e,fr,aV,u,h1,h2,h3,k1,k2,k3,rfl⟩
open Classical in
noncomputable def GN(a:Nat):Obj:=if h:∃o,Kr ρ w w' a o then Adi h else .cells #[] 0 (0,0)
noncomputable def qa:Aa4:={w with heap:=w.heap.mapIdx fun a _=>GN ρ w w' a}
end
section
variable {ρ:Ren}{w w':Aa4}
theorem Tt:(qa ρ w w').heap.size=w.heap.size:=by simp[qa]
theorem Ml{a:Nat}(h:gd ρ w w' a):∃o,(qa ρ w w').heap[a]?=some o/\Kr ρ w w' a o:=by
 have hx:=ac3 ρ w w' h;obtain⟨b,c,c',e,fr,aV,h1,h2,h3,h4⟩:=h;refine⟨GN ρ w w' a,?_,?_⟩
 ·unfold qa
  simp only[Aep,h2,Option.map_some]
 ·unfold GN
  rw[dif_pos hx];exact Adj hx
theorem ac6{C:bQ}(h:bV C ρ w w'):bV C (vQ ρ (gd ρ w w')) (qa ρ w w') w' where
 dA a b hab:=by rw[Tt];exact h.dA a b hab.1
 dc a b hab:=h.dc a b hab.1
 fn a b b' x y:=h.fn a b b' x.1 y.1
 inj a a' b x y:=h.inj a a' b x.1 y.1
 obj a b o hab ho:=by
  obtain⟨o1,k1,b1,c,c',e,fr,aV,u,h1,h2,h3,h4,h5,h6,rfl⟩:=Ml hab.2;rw[k1] at ho;cases ho;rw[h.fn a b b1 hab.1 h1];exact⟨_,h3,.cells e h4 (.inr ⟨rfl,Ac2 _⟩)⟩
theorem ac7:bJ (qa ρ w w').heap:=by
 intro o ho hb;obtain⟨a,ha⟩:=Array.getElem?_of_mem ho
 unfold qa at ha;simp only[Aep] at ha
 obtain⟨o1,_,rfl⟩:=Aej.1 ha;unfold GN at hb;split at hb
 ·rename_i hx
  obtain⟨b1,c,c',e,fr,aV,u,_,_,_,_,_,_,e2⟩:=Adj hx;rw[e2] at hb;exact hb
 ·exact hb
theorem ac5{a:Addr}(ha:gd ρ w w' a.block){v:Value}(h: w.cell? a=some v)(hp:Pv (gd ρ w w') v):(qa ρ w w').cell? a=some v:=by
 obtain⟨o1,k1,b1,c,c',e,fr,aV,u,h1,h2,h3,h4,h5,h6,rfl⟩:=Ml ha;unfold Ah0 at h |-
 rw[h2] at h;rw[k1];simp only at h |-
 split at h
 ·cases h
 ·rename_i hs
  rw[if_neg hs];exact h6 _ _ h hp
theorem WK{C:bQ}(h:bV C ρ w w'){p:Addr}{u:Value}(hc: w.cell? p=some u){b:Nat}(hr:ρ p.block b):gd ρ w w' p.block:=by
 unfold Ah0 at hc;split at hc
 ·rename_i c e fr ho
  obtain⟨o',h1,h2⟩:=h.obj _ _ _ hr ho;cases h2 with
  |cells e hv hf=>exact⟨b,c,_,e,fr,_,hr,ho,h1,hv⟩
 ·cases hc
theorem WJ{p:Addr}{u:Value}(hr:gd ρ w w' p.block)(hc: w.cell? p=some u):∃u',ah ρ u u':=by
 obtain⟨b,c,c',e,fr,aV,h1,h2,h3,h4⟩:=hr;unfold Ah0 at hc;rw[h2] at hc;simp only at hc;split at hc
 ·cases hc
 ·obtain⟨al,e⟩:=Aaf.1 hc
  exact⟨_,by rw[<-e];exact h4.2 _ al (h4.1▸al)⟩
end
def Sv(S:Nat->Prop)(v:Value):Prop:=∀A n c,v=.slice (some A) n c->n=0->S A.block\/c=0
section
variable {α:Type}{ρ:Ren}{w w':Aa4}{B sz:Nat}{R R':α->List Value->Prop}{v:Value}{xs:List α}
theorem Fs{C:bQ}(hW:bV C ρ w w')(aI:0<sz)(h:Row w B sz R v xs)(hv:∃v',ah ρ v v')(he:Sv (gd ρ w w') v):Pv (gd ρ w w') v:=by
 obtain⟨A,c,rfl,h1,h2,h3⟩:=h;cases A with
 |none=>exact trivial
 |some A=>
  by_cases hx:xs=[]
  ·subst hx;exact(he A _ c rfl rfl).imp id fun h=>⟨rfl,h⟩
  ·obtain⟨ad,e,hb,h4⟩:=h3 hx
   cases e;cases xs with
   |nil=>exact absurd rfl hx
   |cons x xs=>
    obtain⟨cs,_,hl,hc⟩:=h4 0 x rfl;obtain⟨u,hu⟩:∃u,cs[0]?=some u:=⟨cs[0]'(by omega),Aga _⟩
    have:=hc 0 u hu;obtain⟨v',hv⟩:=hv;cases hv with
    |slice _ _ ha=>
     have e:(A.add (0 * sz+0)).block=A.block:=cq _ _;have:=WK hW this (b:=_) (by rw[e];exact ha.1)
     rw[e] at this;exact .inl this
theorem C7(aI:0<sz)(h:Row w B sz R v xs)(hv:Pv (gd ρ w w') v)(hR:∀x cs,R x cs->(∀u∈cs,∃p:Addr,gd ρ w w' p.block/\ w.cell? p=some u)->R' x cs/\∀u∈cs,Pv (gd ρ w w') u):Row (qa ρ w w') B sz R' v xs:=by
 obtain⟨A,c,e,h1,h2,h3⟩:=h;refine⟨A,c,e,h1,h2,fun hx=>?_⟩
 obtain⟨ad,hA,hb,h4⟩:=h3 hx;have hs:gd ρ w w' ad.block:=by
  rw[e,hA] at hv;rcases hv with hv| ⟨h0,_⟩
  ·exact hv
  ·exact absurd (List.length_eq_zero_iff.1 h0) hx
 refine⟨ad,hA,hb,fun i x hi=>?_⟩
 obtain⟨cs,r,hl,au⟩:=h4 i x hi;have:=hR x cs r fun u hu=>by
  obtain⟨j,hj⟩:=List.getElem?_of_mem hu
  exact⟨_,by rw[cq];exact hs,au j u hj⟩
 refine⟨cs,this.1,hl,fun j u hu=>?_⟩
 exact ac5 (by rw[cq];exact hs) (au j u hu) (this.2 u (Agg hu))
end
structure FY(S:Nat->Prop)(w:Aa4)(B:Nat)(b:ao)(pv bv tv:Value):Prop where
 pieces:Row w B 4 Piece.R pv b.pieces
 aF:Row w B 3 (fun x cs=>bR.R w B x cs/\∀u∈cs,Sv S u) bv b.aF
 aJ:Row w B 3 (fun x cs=>Tw.Tape.R w B x cs/\∀u∈cs,Sv S u) tv b.aJ
 sp:Sv S pv
 sb:Sv S bv
 st:Sv S tv
theorem ac4{C:bQ}{ρ:Ren}{w w':Aa4}(hW:bV C ρ w w'){B:Nat}{b:ao}{pv bv tv:Value}(h:FY (gd ρ w w') w B b pv bv tv)(h1:∃v',ah ρ pv v')(h2:∃v',ah ρ bv v')(h3:∃v',ah ρ tv v'):
 bg (qa ρ w w') B b pv bv tv/\Pv (gd ρ w w') pv/\Pv (gd ρ w w') bv/\Pv (gd ρ w w') tv:=by
 have p1:=Fs hW (by omega) h.pieces h1 h.sp
 have p2:=Fs hW (by omega) h.aF h2 h.sb
 have p3:=Fs hW (by omega) h.aJ h3 h.st
 refine⟨⟨C7 (by omega) h.pieces p1 fun x cs r _=>⟨r,fun u hu=>?_⟩,C7 (by omega) h.aF p2 fun x cs r hc=>?_,C7 (by omega) h.aJ p3 fun x cs r hc=>?_⟩,p1,p2,p3⟩
 ·obtain⟨rfl,_⟩:=r
  simp only[Aef,Aeg,or_false] at hu;rcases hu with rfl|rfl|rfl|rfl<;>exact trivial
 ·obtain⟨⟨kv,rfl,k1,k2⟩,k3⟩:=r
  have hp:Pv (gd ρ w w') kv:=Fs hW (by omega) k2 (by obtain⟨p,hp,hu⟩:=hc kv (by simp);exact WJ hp hu) (k3 kv (by simp))
  refine⟨⟨kv,rfl,k1,C7 (by omega) k2 hp fun x cs r _=>⟨r,fun u hu=>?_⟩⟩,fun u hu=>?_⟩
  ·rw[show cs=_ from r] at hu
   simp only[Aef,Aeg,or_false] at hu;rcases hu with rfl|rfl<;>exact trivial
  ·simp only[Aef,Aeg,or_false] at hu
   rcases hu with rfl|rfl|rfl
   ·exact trivial
   ·exact trivial
   ·exact hp
 ·obtain⟨⟨kv,rfl,k2⟩,k3⟩:=r
  have hp:Pv (gd ρ w w') kv:=Fs hW (by omega) k2 (by obtain⟨p,hp,hu⟩:=hc kv (by simp);exact WJ hp hu) (k3 kv (by simp))
  refine⟨⟨kv,rfl,C7 (by omega) k2 hp fun x cs r _=>⟨r,fun u hu=>?_⟩⟩,fun u hu=>?_⟩
  ·rw[show cs=_ from r] at hu
   simp only[Aef,Aeg,or_false] at hu;rcases hu with rfl;exact trivial
  ·simp only[Aef,Aeg,or_false] at hu
   rcases hu with rfl|rfl|rfl
   ·exact hp
   ·exact trivial
   ·exact trivial
end Go.Jn
namespace Go.Tw
variable [Go.Tw.aR]
open Go Go.Proofs Go.RowKit
theorem agl{w:Aa4}{g k x:Nat}(g0: w.cell? ⟨g,0,none⟩=some (.int .i64 x))(h0:g<w.heap.size):
 Af1 prog 123 (#[.int .i64 k]++#[.pointer (some ⟨g,0,none⟩)]) w fun e w'=>e=.returned (.bool (decide (k=x)))/\Below w.heap.size w w':=by
 go_enter func123,Tryz.ntmps123;go_wp2;refine Ag1 (v:=.bool (decide (k=x))) (by
  have he:((k:Int)==(x:Int))=decide (k=x):=by rw[Bool.eq_iff_iff];simp;omega
  simp[results,Tryz.results123,go_sem,he]) rfl ⟨rfl,Af6 _ _⟩
end Go.Tw
namespace Go.Jn
open Go Go.Proofs Go.Sim Go.Conc Go.Tw Go.RowKit
attribute [local go_sem] ze zd Oper.semAt_some
theorem then_self(Q:Exit->Act->Aa4->Prop):Exit.then (Q .normal) Q=Q:=by
 funext e a w;cases e<;>rfl
section
variable [Go.Tw.aR]
def Gd(b:ao)(i:Nat)(v0 v1 v2 v3:Value)(e:Exit)(a:Act)(w:Aa4):Prop:=
 (∃r x,a.defers=[⟨.collected r,x⟩,cQ]/\w.heap[r]?=some (.deferred (some [])))/\a.tmps.size=18/\a.tmps[0]?=some v0/\a.tmps[1]?=some v1/\a.tmps[2]?=some v2/\a.tmps[3]?=some v3/\
   ((search b (cz (aD b)) (fun k=>decide (k=i)) b.pieces.length []=none/\e=.normal)\/((search b (cz (aD b)) (fun k=>decide (k=i)) b.pieces.length []).isSome=true/\e=.ret))
theorem middle{w:Aa4}{b:ao}{pv bv tv:Value}{B i bk pk:Nat}{v0 v3 v6:Value}(hB:B<=w.heap.size)(ai:bg w B b pv bv tv)(h:cj b 0=0)
 (c0: w.cell? ⟨bk,0,none⟩=some (.int .i64 b.ag))(c1: w.cell? ⟨bk,1,none⟩=some pv)(c2: w.cell? ⟨bk,2,none⟩=some bv)(c3: w.cell? ⟨bk,3,none⟩=some tv)(hk: w.cell? ⟨pk,0,none⟩=some (.int .i64 i))
 (ae:bk<w.heap.size)(dI:pk<w.heap.size):
 eX prog [ur,sL] (Gd b i v0 (.pointer (some ⟨bk,0,none⟩)) (.pointer (some ⟨pk,0,none⟩)) v3) ⟨#[v0,.pointer (some ⟨bk,0,none⟩),.pointer (some ⟨pk,0,none⟩),v3,undef,undef,v6,undef,undef,undef,undef,undef,undef,undef,undef,undef,undef,undef],[cQ]⟩ w:=by
 have aB:=Af3 (PO hB ai h);have bT:=Af3 ai;have hv:=Af3 (iy (pq h).1);obtain⟨A1,n1,k1,rfl,-⟩:=ai.pieces.open_;obtain⟨A2,n2,k2,rfl,-⟩:=ai.aF.open_;obtain⟨A3,n3,k3,rfl,-⟩:=ai.aJ.open_;clear ai h;have HK:=Af3 hk;clear hk;unfold eX eX eX;rw[then_self];refine(wpIn_wide (n:=0)).1 ?_
 refine wpIn_mono (Q:=Exit.then (sL.wpIn Fence.wide 0 prog (Gd b i v0 (.pointer (some ⟨bk,0,none⟩)) (.pointer (some ⟨pk,0,none⟩)) v3)) (Gd b i v0 (.pointer (some ⟨bk,0,none⟩)) (.pointer (some ⟨pk,0,none⟩)) v3)) ?_ (fun e a w h=>by cases e<;>first|exact wpIn_wide.1 h|exact h)
 simp only[ur,sL,Cy,Tryz.f120,bO,a8,Afv]
 gi_wp2_with (first
  | (gi_at_call 119;refine(callsIn_wide.2 aB.out).mono ?_;rintro e w1 ⟨sv,g,rfl,aG,da,hg,ae⟩
     obtain⟨A9,m9,c9,rfl⟩:=j8 aG;have aN:w.heap.size<=w1.heap.size:=ae.size;have yo:w.heap.size<w1.heap.size+1:=by omega
     have FR:=Af3 (Afx aG (Afx da (Afx hg ae)));have kG:g<w1.heap.size:=da.lt;have eI:Row (w1.alloc (.cells #[.int .i64 b.ag,.slice A1 n1 k1,.slice A2 n2 k2,.slice A3 n3 k3,.slice A9 m9 c9,.map (some g)] 151)) w1.heap.size 3 an.R (.slice A9 m9 c9) (aD b):=aG.row.still ((Still.refl w1).alloc (Ac2 _) _) fun _ _ h=>h
     clear ae aG da hg)
  | (gi_at_call 122;refine(callsIn_wide.2 (LY (B:=w1.heap.size) (ps:=aD b) eI (by simp) ⟨_,_,_,rfl⟩ ⟨_,_,_,rfl⟩ ⟨_,_,_,rfl⟩)).mono ?_;rintro e w2 ⟨gn,rfl,q0,q1,q2,qm,ak⟩))
 clear eI;have ba:w1.heap.size+1<=w2.heap.size:=by have:=ak.size;simpa using this
 have vk:w1.grownBy w2 (some g):=(Ahe w1 _ _).trans (je ak (Ac2 _) _);have Hi:w.grownBy w2 none:=(je FR.out.2.2.2 (Ac2 _) _).trans ((Ahe w1 _ _).trans (je ak (Ac2 _) _));have Hm:dK w2 g b:=FR.out.2.1.grown (row:=none) ((Ahe w1 _ _).trans (je ak (Ac2 _) _)) (by simp)
 have Mv:B<=g:=Ac3 hB FR.out.2.2.1;have afA:Still B w w2:=fun p hp=>Ah1 (Hi.block p.block (by omega) (by simp))
 have afm: w2.cell? ⟨pk,0,none⟩=some (.int .i64 i):=(Ah1 (Hi.block pk (by omega) (by simp))).trans HK.out
 have hX0:=PJ (Wa:=w1.alloc (.cells #[.int .i64 b.ag,.slice A1 n1 k1,.slice A2 n2 k2,.slice A3 n3 k3,.slice A9 m9 c9,.map (some g)] 151)) (w2:=w2) (KO:=123) (jD:=#[.pointer (some ⟨pk,0,none⟩)]) (out:=fun k=>decide (k=i)) (B:=B) (bT.out.still afA) hv.out (uG hv.out) ⟨_,_,_,rfl⟩ Mv (by simp;omega) q0 q1 q2 qm call123
  (fun k W hk eh=>agl ((Ah1 (eh.block pk (by have:=FR.out.2.2.2.size;omega) (by simp;have:=FR.out.2.2.1;omega))).trans afm) (by have:=eh.size;omega))
 refine Pr (gf:=174) (pre:=#[]) (lb:=#[.pointer (some ⟨w1.heap.size+1,0,none⟩),.pointer (some ⟨w1.heap.size+1+1,0,none⟩),.pointer (some ⟨gn,0,none⟩)]) (by simp[Act.eval]) call174 fun fn rc gP=>?_
 have AA:=((hX0.alloc (by show B<=w2.heap.size;omega) (.deferred (some []))).alloc (by simp[Bw];omega) (.loop rc)).RF (w2.heap.size+1)
 obtain⟨W1,eJ⟩:∃W1,W1=(w2.alloc (Obj.deferred (some []))).alloc (Obj.loop rc):=⟨_,rfl⟩
 obtain⟨X,hX⟩:∃X:cS,X={Bw w2 b (.slice A1 n1 k1) (.slice A2 n2 k2) (.slice A3 n3 k3) (.slice A9 m9 c9) (aD b) (w1.heap.size+1) gn g 123 #[.pointer (some ⟨pk,0,none⟩)] (fun k=>decide (k=i)) with w:=W1,l:=w2.heap.size+1}:=⟨_,rfl⟩
 have dh:X.Ok B:=by rw[hX,eJ];simpa [Bw] using AA
 have xw:X.w=W1:=by rw[hX]
 have xl:X.l=w2.heap.size+1:=by rw[hX]
 have xb:X.b=b:=by rw[hX];rfl
 have xg:X.gm=g:=by rw[hX];rfl
 have cZ:W1.heap.size=w2.heap.size+2:=by rw[eJ];simp
 have xs:X.s=w2.heap.size+2:=by unfold cS.s;rw[xw,cZ]
 have xT:W1.heap[w2.heap.size+1]?=some (.loop rc):=by rw[eJ];exact uI (by simp)
 have jT:W1.heap[w2.heap.size]?=some (.deferred (some [])):=by rw[eJ];exact mm (uI (by simp))
 have dg:dK X.w X.gm X.b:=by
  rw[xw,xg,xb,eJ];exact Hm.grown (row:=none) ((Ahe _ _ _).trans (Ahe _ _ _)) (by simp)
 have hgg:g<w2.heap.size:=Hm.lt;have xn:X.n=cz (aD b):=by rw[hX];rfl
 have xo:X.out=fun k=>decide (k=i):=by rw[hX];rfl
 have xp:X.np=b.pieces.length:=by unfold cS.np;rw[xb]
 have xgs:X.gs=w1.heap.size+1:=by rw[hX];rfl
 have xgo:X.go=w1.heap.size+1+1:=by rw[hX];rfl
 have xgn:X.gn=gn:=by rw[hX];rfl
 rw[<-eJ];clear hX eJ;have hZ:zx X (fun _ W=>W.heap[w2.heap.size]?=some (.deferred (some []))/\W.heap[w2.heap.size+1]?=some (.loop {rc with state:=.done,pending:=some .ret})/\∃i,Bk W (X.s+2) 27 #[.slice (some ⟨X.s+1,0,none⟩) i X.np]):=by
  refine⟨fun full W hz=>hz.2.2,fun full W i hz=>?_,fun m full W hlen hD=>?_⟩
  ·obtain⟨z1,z2,j,z3⟩:=hz
   exact⟨(Ag8 _ _ _ _ (by simp;omega)).trans z1,(Ag8 _ _ _ _ (by simp;omega)).trans z2,i,z3.set 0 _⟩
  ·have eh:=hD.gr
   rw[xw,xg] at eh;have oz:W.heap[w2.heap.size+1]?=some (.loop rc):=(eh.block _ (by omega) (by simp;omega)).trans xT
   have fJ:W.heap[w2.heap.size]?=some (.deferred (some [])):=(eh.block _ (by omega) (by simp;omega)).trans jT
   have oA:=hD.lv;rw[xs,xp] at oA;have aI:=eh.size;rw[xl];refine Qy (n:=0) gP oz rfl ?_
   gi_wp2
   refine⟨_,LA gP oz,?_⟩
   gi_wp2
   have Au:(W.putObj (w2.heap.size+1) (.loop {rc with state:=.busy})).heap[w2.heap.size+1]?=some (.loop {rc with state:=.busy}):=Ahc (by omega)
   refine⟨_,_,SQ .ret Au,rfl,?_,Ahc (by simp;omega),full.length,?_⟩
   ·exact(Ahd (by omega)).trans ((Ahd (by omega)).trans fJ)
   ·exact(Ahd (by omega)).trans ((Ahd (by omega)).trans oA)
 have call:=SJ dh (by rw[xs];omega) hZ dg
 rw[xl,xgs,xgo,xgn,xw,xn,xo,xb,xp] at call;refine(callsIn_wide.2 call).mono ?_
 rintro e W2 ⟨⟨v,rfl⟩,(⟨full,tM,aN,ba,_⟩ | ⟨tM,hD⟩)⟩
 ·refine⟨some .ret,_,SW ba,?_⟩
  gi_wp2
  refine⟨⟨w2.heap.size,_,rfl,(Ahd (by omega)).trans aN⟩,rfl,rfl,rfl,rfl,rfl,.inr ⟨by rw[tM];rfl,rfl⟩⟩
 ·have eh:=hD.gr
  rw[xw,xg] at eh;have oz:W2.heap[w2.heap.size+1]?=some (.loop rc):=(eh.block _ (by omega) (by simp;omega)).trans xT
  have fJ:W2.heap[w2.heap.size]?=some (.deferred (some [])):=(eh.block _ (by omega) (by simp;omega)).trans jT
  refine⟨none,_,L7 gP oz,?_⟩
  exact⟨⟨w2.heap.size,_,rfl,(Ahd (by omega)).trans fJ⟩,rfl,rfl,rfl,rfl,rfl,.inl ⟨tM,rfl⟩⟩
end
end Go.Jn
namespace Go.Jn
open Go Go.Proofs Go.Sim Go.Conc Go.Tw
set_option maxRecDepth 100000
theorem aj4{C:bQ}{ρ:Ren}{w w':Aa4}(hW:bV C ρ w w'){a b o:Nat}(hab:ρ a b){v':Value}(h:ah ρ (.pointer (some ⟨a,o,none⟩)) v'):v'=.pointer (some ⟨b,o,none⟩):=by
 cases h with
 |ptr ha=>
  rename_i q;obtain⟨q1,q2,q3⟩:=q;obtain⟨h1,h2,h3⟩:=ha;simp only at h1 h2 h3;subst h2 h3;rw[hW.fn _ _ _ h1 hab]
theorem IZ{ρ:Ren}{t t':Array Value}(h:aP ρ t t'){i:Nat}{v:Value}(hi:t[i]?=some v):∃v',t'[i]?=some v'/\ah ρ v v':=by
 rcases h.get? i with⟨h1,_⟩ | ⟨a,b,h1,h2,h3⟩
 ·rw[h1] at hi;cases hi
 ·rw[h1] at hi;cases hi;exact⟨b,h2,h3⟩
theorem PU{C:bQ}{ρ:Ren}{w w':Aa4}(hW:bV C ρ w w'){t t':Array Value}(h:aP ρ t t'){i a b o:Nat}(hab:ρ a b)(hi:t[i]?=some (.pointer (some ⟨a,o,none⟩))):t'[i]?=some (.pointer (some ⟨b,o,none⟩)):=by
 obtain⟨v',h1,h2⟩:=IZ h hi;rw[h1,aj4 hW hab h2]
theorem aj3{C:bQ}{ρ:Ren}{w w':Aa4}{M:Sim.aaa}(hW:bV C ρ w w')(hf:Fits M ρ w){r r':Nat}(hr:ρ r r')(h:w.heap[r]?=some (.deferred (some []))):M.O r'/\w'.heap[r']?=some (.deferred (some [])):=by
 obtain⟨o',h1,h2⟩:=hW.obj _ _ _ hr h;cases h2;refine⟨(hf _ _ hr).resolve_right ?_,h1⟩
 rintro⟨_,o,ho,fo⟩;rw[h] at ho;cases ho;exact fo
section
variable {n N0 cL cN:Nat}{eU:Nat->Bool}{val:Nat->Value}{End:List Nat->Sim.aaa->Abe->Aa4->Prop}
def d121(p7:Nat):Deferred:={target:=.fn (.func 121) #[.pointer (some ⟨p7,0,none⟩)],args:=#[]}
theorem Yc{M:Sim.aaa}{w:Aa4}{p7 r:Nat}{x:Array Value}{e7:Aa1}{f7:Nat×Nat}(m7:M.has p7)(h7:w.heap[p7]?=some (.cells #[.chan (some cL)] e7 f7))(hO:M.O r)(hr:w.heap[r]?=some (.deferred (some []))){t:Array Value}{k:List Item}:
 Walk Tryz.prog false (W2 (Pm.mk Tryz.prog n N0 cL cN eU val End)) M (aO ⟨120,t,k,[⟨.collected r,x⟩,d121 p7],.returning,.deferred,none⟩ [dp Tryz.prog]) w:=
 amY hO hr fun aa hk=>am8 m7 ((wa (by rintro rfl;rw[hr] at h7;cases h7)).trans ((hk.kept _ m7).trans h7)) rfl
theorem ana{M:Sim.aaa}{w:Aa4}{p6 p7 pk r:Nat}{x:Array Value}{e6 e7 ek:Aa1}{f6 f7 fk:Nat×Nat}(m6:M.has p6)(m7:M.has p7)(mk:M.has pk)(h6:w.heap[p6]?=some (.cells #[.chan (some cN)] e6 f6))(h7:w.heap[p7]?=some (.cells #[.chan (some cL)] e7 f7))
 {i:Nat}(hk:w.heap[pk]?=some (.cells #[val i] ek fk))(UW:eU i=true)(hO:M.O r)(hr:w.heap[r]?=some (.deferred (some []))){t:Array Value}(hs:t.size=18)(t2:t[2]?=some (.pointer (some ⟨pk,0,none⟩)))(t3:t[3]?=some (.pointer (some ⟨p6,0,none⟩))):
 Walk Tryz.prog false (W1 (Pm.mk Tryz.prog n N0 cL cN eU val End) i) M (rg 120 t [.code (.region 3 pz false)] [⟨.collected r,x⟩,d121 p7] .deferred [dp Tryz.prog]) w:=by
 refine gH ?_
 rw[anp];obtain⟨o,ho,ab,hd,hg⟩:=ZS;obtain⟨dir,hu⟩:=BG;refine du ho (cf hg) rfl (fun aa hk=>⟨_,v8 _ aa ab (cJ t3) hu rfl (lL ((hk.kept _ m6).trans h6) rfl rfl),vY m6 _ rfl⟩) ?_
 rw[hd];obtain⟨o,ho,ab,hd,hg⟩:=ZT;refine du ho (cf hg) rfl (fun aa Hn=>⟨_,v8 _ aa ab (cJ ((bL (by omega)).trans t2)) ty3 rfl (lL ((Hn.kept _ mk).trans hk) rfl rfl),vY mk _ rfl⟩) ?_
 rw[hd];suffices rest:∀T:Array Value,T[16]?=some (.chan (some cN))->T[17]?=some (val i)->
  Walk Tryz.prog false (W1 (Pm.mk Tryz.prog n N0 cL cN eU val End) i) M (rg 120 T [.inRegion pz [2]] [⟨.collected r,x⟩,d121 p7] .deferred [dp Tryz.prog]) w from
  rest _ ((bL (by omega)).trans (eM (by omega))) (eM (by simp[ay];omega))
 intro T h16 h17;obtain⟨o,ho,ab,hd,hg⟩:=ZU;have hx:aS T (.tmp 17)=val i:=cJ h17;refine .stop fun aa Hn=>.inl ⟨UW,rfl,rfl,⟨.tuple #[],FG ho (cf hg) rfl ((WV T aa ab (cJ h16)).trans (by rw[hx]))⟩,?_⟩
 have D1:Ad2 (rg 120 T [.inRegion pz [2]] [⟨.collected r,x⟩,d121 p7] .deferred [dp Tryz.prog]) undef=
  rg 120 T [.inRegion pz []] [⟨.collected r,x⟩,d121 p7] .deferred [dp Tryz.prog]:=by
  simp[Ad2,Frame.finish,ho,hd]
 show Walk Tryz.prog false (W2 (Pm.mk Tryz.prog n N0 cL cN eU val End)) M (Ad2 (rg 120 T [.inRegion pz [2]] [⟨.collected r,x⟩,d121 p7] .deferred [dp Tryz.prog]) undef) aa;rw[D1];exact(iA (am0 (Yc m7 h7 hO hr))).rely Hn
theorem worker{M:Sim.aaa}{ρ:Ren}{w w':Aa4}{b:ao}{pv bv tv:Value}{B i lb lk l6 l7 bk pk p6 p7:Nat}{ek e6 e7:Aa1}{fk f6 f7:Nat×Nat}
 (hW:bV C0 ρ w w')(hg:ρ 0 0)(hf:Fits M ρ w)(hM:∀b,¬M.O b)(gN:∀b,M.has b->b<w'.heap.size)(hn:bJ w.heap)
 (rb:ρ lb bk)(rk:ρ lk pk)(r6:ρ l6 p6)(r7:ρ l7 p7)(m6:M.has p6)(m7:M.has p7)(mk:M.has pk)
 (hB:B<=w.heap.size)(ai:bg w B b pv bv tv)(ab:cj b 0=0)
 (c0: w.cell? ⟨lb,0,none⟩=some (.int .i64 b.ag))(c1: w.cell? ⟨lb,1,none⟩=some pv)(c2: w.cell? ⟨lb,2,none⟩=some bv)(c3: w.cell? ⟨lb,3,none⟩=some tv)(ck: w.cell? ⟨lk,0,none⟩=some (.int .i64 i))
 (h6:w'.heap[p6]?=some (.cells #[.chan (some cN)] e6 f6))(h7:w'.heap[p7]?=some (.cells #[.chan (some cL)] e7 f7))(hk:w'.heap[pk]?=some (.cells #[val i] ek fk))
 (vt:eU i=(search b (cz (aD b)) (fun k=>decide (k=i)) b.pieces.length []).isNone):
 Walk Tryz.prog false (W1 (Pm.mk Tryz.prog n N0 cL cN eU val End) i) M (born Tryz.prog {target:=.fn (.func 120) #[.pointer (some ⟨p7,0,none⟩),.pointer (some ⟨bk,0,none⟩),.pointer (some ⟨pk,0,none⟩),.pointer (some ⟨p6,0,none⟩)],args:=#[]}) w':=by
 letI:=iQ
 refine am9 fun t hs t0 t1 t2 t3 t6 tu=>?_
 obtain⟨v6,hv6⟩:=rB ρ (.func (.func 121) #[] #[.pointer (some ⟨p7,0,none⟩)]);have lb1:lb<w.heap.size:=hW.dA _ _ rb;have lk1:lk<w.heap.size:=hW.dA _ _ rk;have ptr:∀ {a b:Nat},ρ a b->ah ρ (.pointer (some ⟨a,0,none⟩)) (.pointer (some ⟨b,0,none⟩)):=fun h=>.ptr ⟨h,rfl,rfl⟩
 have Eb:aP ρ #[.pointer (some ⟨l7,0,none⟩),.pointer (some ⟨lb,0,none⟩),.pointer (some ⟨lk,0,none⟩),.pointer (some ⟨l6,0,none⟩),undef,undef,v6,undef,undef,undef,undef,undef,undef,undef,undef,undef,undef,undef] t:=by
  refine⟨hs.symm,fun j h1 h2=>?_⟩
  have hj:j<18:=by rw[<-hs];exact h2
  have hu:∀q,4<=q->q<18->q≠6->∀h:q<t.size,ah ρ undef t[q]:=by
   intro q h4 GV h6 h;have:=tu q h4 GV h6;rw[Adb h] at this
   rw[Ac5 this];exact .undef
  have he:∀ {q:Nat} {v:Value} (h:q<t.size),t[q]?=some v->t[q]=v:=fun h e=>by rw[Adb h] at e;exact Ac5 e
  have:j=0\/j=1\/j=2\/j=3\/j=6\/(4<=j/\j≠6):=by omega
  rcases this with rfl|rfl|rfl|rfl|rfl| ⟨h4,h6⟩
  ·rw[he _ t0];exact ptr r7
  ·rw[he _ t1];exact ptr rb
  ·rw[he _ t2];exact ptr rk
  ·rw[he _ t3];exact ptr r6
  ·rw[he _ t6];exact hv6
  ·have:=hu j h4 hj h6 h2
   have:j=4\/j=5\/j=7\/j=8\/j=9\/j=10\/j=11\/j=12\/j=13\/j=14\/j=15\/j=16\/j=17:=by omega
   rcases this with rfl|rfl|rfl|rfl|rfl|rfl|rfl|rfl|rfl|rfl|rfl|rfl|rfl<;>assumption
 have hl:∀T,eX (@Tw.prog iQ) [ur,sL] (Gd b i (.pointer (some ⟨l7,0,none⟩)) (.pointer (some ⟨lb,0,none⟩)) (.pointer (some ⟨lk,0,none⟩)) (.pointer (some ⟨l6,0,none⟩))) ⟨#[.pointer (some ⟨l7,0,none⟩),.pointer (some ⟨lb,0,none⟩),.pointer (some ⟨lk,0,none⟩),.pointer (some ⟨l6,0,none⟩),undef,undef,v6,undef,undef,undef,undef,undef,undef,undef,undef,undef,undef,undef],[cQ]⟩ (aZ w T):=fun T=>
  middle (B:=B) hB (ai.still fun _ _=>rfl) ab c0 c1 c2 c3 ck lb1 lk1
 refine pieces (S:=⟨.region 3 pz false,[],[d121 p7],[dp Tryz.prog],.deferred⟩) (cs:=[ur,sL]) ?_ rfl rfl ?_ hl hW hg hf gN hn Eb ?_
 ·intro c hc
  simp only[Aef,Aeg,or_false] at hc;rcases hc with rfl|rfl
  ·exact aaw
  ·exact aax
 ·rintro e a w ⟨_,_,_,_,_,_,⟨_,rfl⟩ | ⟨_,rfl⟩⟩
  ·exact .inl rfl
  ·exact .inr rfl
 ·rintro e bB aa bS aE eV aA D' ⟨⟨r,x,hd,hr⟩,us,u0,u1,u2,u3,Aj⟩ bY eJ gM DM dB qx vC hD
  rw[hd] at hD;obtain⟨r',x',rr,rfl⟩:∃r' x',aE r r'/\D'=[⟨.collected r',x'⟩,d121 p7]:=by
   cases hD with
   |cons h1 h2=>
    cases h1 with
    |collected hr=>rw[xf h2];exact⟨_,_,hr,rfl⟩
  obtain⟨hO,DX⟩:=aj3 eJ gM rr hr;have kept:∀q,M.has q->aA.heap[q]?=w'.heap[q]?:=fun q hq=>bY.im q hq fun a ha=>((hf a q ha).resolve_left (hM q)).2
  have G7:∀q,M.has q->bS.has q:=fun q hq=>aaa.tx bY.R bY.O hq
  refine⟨fun he=>?_,fun he sH=>?_⟩
  ·subst he
   obtain⟨xX,_⟩:=Aj.resolve_right (by rintro⟨_,h⟩;cases h)
   refine ana (G7 _ m6) (G7 _ m7) (G7 _ mk) ((kept _ m6).trans h6) ((kept _ m7).trans h7) ((kept _ mk).trans hk) (by rw[vt,xX];rfl) hO DX (vC.1.symm.trans us) (PU eJ vC (bY.le _ _ rk) u2) (PU eJ vC (bY.le _ _ r6) u3)
  ·subst he
   obtain⟨Vg,_⟩:=Aj.resolve_left (by rintro⟨_,h⟩;cases h)
   refine Walk.mono (Yc (G7 _ m7) ((kept _ m7).trans h7) hO DX) fun M g w h=>.inr ⟨?_,h⟩
   show eU i=false;rw[vt];cases e:search b (cz (aD b)) (fun k=>decide (k=i)) b.pieces.length [] with
   |none=>rw[e] at Vg;cases Vg
   |some _=>rfl
end
end Go.Jn
namespace Go.Jn
open Go Go.Sim Go.Conc
open Go.ConcN (sumTo upd sumTo_upd upd_ne upd_same)
theorem al3(n:Nat):sumTo n (fun _=>0)=0:=by
 induction n with
 |zero=>rfl
 |succ n ih=>simp only[sumTo,ih]
theorem acE{X:Pm}{gs:Array Abe}{w:Aa4}{t:Trace}{q:Nat->Nat}{g:Abe}{M:aaa}(hF:Fr X.P gs w t q g)(hN0:X.N0=gs.size)
 (gN:∀b,M.has b->b<w.heap.size/\b≠X.cL/\b≠X.cN)(bz:g.status=.running)(hW:Walk X.P true (StopA X X.n) M g w)
 (hL:w.heap[X.cL]?=some (.chan 0 #[] false 0 0 false))(hN:w.heap[X.cN]?=some (.chan 0 #[] false 0 0 false))(aw:X.cL≠X.cN){N:Nat}(hT:lK N t)(xJ:N<=X.cN):
 ∃G,FI X w gs w t G:=by
 obtain⟨T,lO⟩:=hW.tree;have h0:0<gs.size:=(Aaf.1 hF.zero).1
 have known:∀k a,touchAt t k=some a->a.loc.isMemory=true->Knows t 0 k:=fun k a ha hm=>(hF.gD.known k a ha hm).elim id fun h=>h.1.elim
 refine⟨{j:=0,st:=fun _=>.no,mp:=.spawn,cp:=.no,act:=fun i=>if i=0 then some ⟨M,g,w⟩ else none,q:=q,tr:=fun _=>T},?_⟩
 refine⟨hN0.symm,by omega,Agm _,fun h=>(by cases h),⟨fun⟨_,_,e⟩=>(by rcases e with e|e<;>cases e),fun h=>(by cases h)⟩,fun i _=>⟨fun _=>Agm _,fun _=>rfl⟩,⟨g,hF.zero,M,w,rfl,bz,lO⟩,fun i hi=>absurd hi (Nat.not_lt_zero _),fun h=>(by cases h),
  fun i x h1 _ hx=>hF.lv i x h1 hx,fun i h1 _=>?_,fun i hi=>?_,al3 _,fun _ _ _=>rfl,fun⟨_,_,e⟩=>(by cases e),fun⟨_,e⟩=>(by cases e),fun⟨_,_,e⟩=>(by cases e),⟨fun i j hj=>?_,fun i i' j j' hii hj qq=>?_,fun i j hj=>?_,hF.gD.seen,hF.nd,hF.gD.clean,fun i j hj k a ha b hb _=>?_,?_,?_⟩,
  ⟨0,hL⟩,⟨0,hN⟩,aw,⟨Ac2 _,rfl,rfl,rfl⟩,fun k a ha hm i _ _=>known k a ha hm,fun k i hi=>?_,fun i _ hq=>(by cases hq),fun _ k a ha=>?_,fun h=>(by cases h)⟩
 ·exact if_neg (by omega)
 ·exact if_neg (by omega)
 ·by_cases e:i=0
  ·simp only[e,if_true,Ac6] at hj
   subst hj;exact bN.refl _ _
  ·simp only[e,if_false] at hj;cases hj
 ·by_cases e:i=0
  ·have e':i'≠0:=fun x=>hii (e.trans x.symm)
   simp only[e',if_false] at qq;cases qq
  ·simp only[e,if_false] at hj;cases hj
 ·by_cases e:i=0
  ·simp only[e,if_true,Ac6] at hj
   subst hj;exact gN
  ·simp only[e,if_false] at hj;cases hj
 ·by_cases e:i=0
  ·subst e
   refine known k a ha ?_
   rcases hb with hb| ⟨c,hb,_⟩<;>rw[hb]<;>rfl
  ·simp only[e,if_false] at hj;cases hj
 ·exact(Aaf.1 hL).1
 ·exact(Aaf.1 hN).1
 ·unfold Trace.g? at hi
  obtain⟨op,ab,e⟩:=Aej.1 hi;rw[<-e];exact hF.gb op (Ac9 ab)
 ·obtain⟨op,ab,cB⟩:=touch_of ha
  exact hT op (mem_of_getElem? ab) a cB _ xJ
end Go.Jn
namespace Go.Jn
open Go Go.Proofs Go.Sim Go.Conc
set_option maxRecDepth 100000
noncomputable def nP:Code:=a8 (a8 (a8 zJ))
noncomputable def pT:Code:=bO (a8 zJ)
noncomputable def p0:Array Aev:=opsOf (bO zJ)
noncomputable def p5:Array Aev:=opsOf (bO (bO nP))
noncomputable def uE:Code:=qV (qV (a8 (bO nP)))
noncomputable def p6:Array Aev:=opsOf (bO uE)
noncomputable def p7:Array Aev:=opsOf (bO (qV (bO (a8 (a8 uE)))))
noncomputable def p8:Array Aev:=opsOf (a8 (qV (bO (a8 (a8 uE)))))
noncomputable def p9:Array Aev:=opsOf (a8 (a8 (a8 uE)))
noncomputable def vZ:Code:=a8 nP
noncomputable def IK:Array Aev:=opsOf (bO vZ)
noncomputable def Bf:Array Aev:=opsOf (bO (a8 vZ))
noncomputable def ub:Code:=a8 (a8 vZ)
noncomputable def Ol:Array Aev:=opsOf (bO (bO ub))
noncomputable def pR:Code:=qV (qV (a8 (bO ub)))
noncomputable def tU:Array Aev:=opsOf (bO pR)
noncomputable def IL:Array Aev:=opsOf (bO (qV (a8 (a8 pR))))
noncomputable def qP:Array Aev:=opsOf (a8 (qV (a8 (a8 pR))))
noncomputable def sd:Code:=a8 ub
noncomputable def Bg:Array Aev:=opsOf (bO sd)
noncomputable def yM:Array Aev:=opsOf (bO (a8 sd))
theorem RG:Tryz.f38.body=some (.seq (.region 0 p0 false) (.seq pT (.seq (.region 4 iP true) nP))):=rfl
theorem akf:nP=.seq (.seq (.region 5 p5 false) (.block 0 (.loop uE))) vZ:=rfl
theorem Rk:uE=.seq (.region 6 p6 false) (.seq (.cond (.tmp 25) .skip (.exit 0)) (.seq (.block 1 (.seq (.region 7 p7 false) (.region 8 p8 false))) (.region 9 p9 false))):=rfl
theorem akc:vZ=.seq (.region 10 IK false) (.seq (.region 11 Bf false) ub):=rfl
theorem akd:ub=.seq (.seq (.region 12 Ol false) (.block 2 (.loop pR))) sd:=rfl
theorem ake:sd=.seq (.region 16 Bg false) (.seq (.region 17 yM false) .ret):=rfl
theorem m00:∃o,p0[0]?=some o/\o.op=.box 26 (.tmp 0)/\o.dst=some 1/\o.guard=none:=⟨_,rfl,rfl,rfl,rfl⟩
theorem m01:∃o,p0[1]?=some o/\o.op=.assign (.const (.slice none 0 0))/\o.dst=some 2/\o.guard=none:=⟨_,rfl,rfl,rfl,rfl⟩
theorem m02:∃o,p0[2]?=some o/\o.op=.assign (.const (.int .i64 0))/\o.dst=some 3/\o.guard=none:=⟨_,rfl,rfl,rfl,rfl⟩
theorem m50:∃o,p5[0]?=some o/\o.op=.fieldAddr 26 (.tmp 1) 2/\o.dst=some 21/\o.guard=none:=⟨_,rfl,rfl,rfl,rfl⟩
theorem m51:∃o,p5[1]?=some o/\o.op=.load 23 (.tmp 21)/\o.dst=some 22/\o.guard=none:=⟨_,rfl,rfl,rfl,rfl⟩
theorem m52:∃o,p5[2]?=some o/\o.op=.call {callee:=.builtin .len,args:=#[.tmp 22],argTypes:=#[23]}/\o.dst=some 23/\o.guard=none:=⟨_,rfl,rfl,rfl,rfl⟩
theorem m53:∃o,p5[3]?=some o/\o.op=.move (.const (.int .i64 0))/\o.dst=some 24/\o.guard=none:=⟨_,rfl,rfl,rfl,rfl⟩
theorem V6:∃o,p6[0]?=some o/\o.op=.binOp .lss 3 (.tmp 24) (.tmp 23) 3/\o.dst=some 25/\o.guard=none:=⟨_,rfl,rfl,rfl,rfl⟩
theorem m70:∃o,p7[0]?=some o/\o.op=.move (.tmp 24)/\o.dst=some 26/\o.guard=none:=⟨_,rfl,rfl,rfl,rfl⟩
theorem m71:∃o,p7[1]?=some o/\o.op=.alloc 3/\o.dst=some 8/\o.guard=none:=⟨_,rfl,rfl,rfl,rfl⟩
theorem m72:∃o,p7[2]?=some o/\o.op=.store 3 (.tmp 8) (.tmp 26)/\o.dst=none/\o.guard=none:=⟨_,rfl,rfl,rfl,rfl⟩
theorem m80:∃o,p8[0]?=some o/\o.op=.makeFunc (.func 120) #[] #[.tmp 7,.tmp 1,.tmp 8,.tmp 6]/\o.dst=some 27/\o.guard=none:=⟨_,rfl,rfl,rfl,rfl⟩
theorem m81:∃o,p8[1]?=some o/\o.op=.go {callee:=.value (.tmp 27),args:=#[],argTypes:=#[]}/\o.dst=none/\o.guard=none:=⟨_,rfl,rfl,rfl,rfl⟩
theorem m90:∃o,p9[0]?=some o/\o.op=.binOp .add 3 (.tmp 24) (.const (.int .i64 1)) 3/\o.dst=some 28/\o.guard=none:=⟨_,rfl,rfl,rfl,rfl⟩
theorem m91:∃o,p9[1]?=some o/\o.op=.move (.tmp 28)/\o.dst=some 24/\o.guard=none:=⟨_,rfl,rfl,rfl,rfl⟩
theorem ahu:∃o,IK[0]?=some o/\o.op=.makeFunc (.func 124) #[] #[.tmp 1,.tmp 7,.tmp 6]/\o.dst=some 29/\o.guard=none:=⟨_,rfl,rfl,rfl,rfl⟩
theorem ahv:∃o,IK[1]?=some o/\o.op=.go {callee:=.value (.tmp 29),args:=#[],argTypes:=#[]}/\o.dst=none/\o.guard=none:=⟨_,rfl,rfl,rfl,rfl⟩
theorem ahw:∃o,Bf[0]?=some o/\o.op=.assign (.const (.slice none 0 0))/\o.dst=some 9/\o.guard=none:=⟨_,rfl,rfl,rfl,rfl⟩
theorem ahx:∃o,Ol[0]?=some o/\o.op=.load 154 (.tmp 6)/\o.dst=some 30/\o.guard=none:=⟨_,rfl,rfl,rfl,rfl⟩
theorem OS:∃o,tU[0]?=some o/\o.op=.recv 154 (.tmp 30) true/\o.dst=some 31/\o.guard=none:=⟨_,rfl,rfl,rfl,rfl⟩
theorem V5:∃o,tU[1]?=some o/\o.op=.extract (.tmp 31) 1/\o.dst=some 32/\o.guard=none:=⟨_,rfl,rfl,rfl,rfl⟩
theorem ahy:∃o,IL[0]?=some o/\o.op=.extract (.tmp 31) 0/\o.dst=some 33/\o.guard=none:=⟨_,rfl,rfl,rfl,rfl⟩
theorem ahz:∃o,IL[1]?=some o/\o.op=.assign (.tmp 33)/\o.dst=some 10/\o.guard=none:=⟨_,rfl,rfl,rfl,rfl⟩
theorem ahF:∃o,yM[0]?=some o/\o.op=.move (.tmp 9)/\o.dst=some 40/\o.guard=none:=⟨_,rfl,rfl,rfl,rfl⟩
theorem ahG:∃o,yM[1]?=some o/\o.op=.assign (.tmp 40)/\o.dst=some 2/\o.guard=none:=⟨_,rfl,rfl,rfl,rfl⟩
theorem ahH:∃o,yM[2]?=some o/\o.op=.assign (.const (.int .i64 0))/\o.dst=some 3/\o.guard=none:=⟨_,rfl,rfl,rfl,rfl⟩
theorem s0:p0.size=3:=rfl
theorem s5:p5.size=4:=rfl
theorem s6:p6.size=1:=rfl
theorem s7:p7.size=3:=rfl
theorem s8:p8.size=2:=rfl
theorem s9:p9.size=2:=rfl
theorem s10:IK.size=2:=rfl
theorem s11:Bf.size=1:=rfl
theorem s12:Ol.size=1:=rfl
theorem WX:tU.size=2:=rfl
theorem s14:IL.size=2:=rfl
theorem s17:yM.size=3:=rfl
theorem Ig:∃i,Tryz.prog.info? 3=some i/\i.zero=some (.int .i64 0)/\i.size=1:=⟨_,rfl,rfl,rfl⟩
theorem akb:Tryz.f38.results=#[.tmp 2,.tmp 3]:=rfl
theorem aiN:(Tryz.f38.name== "runtime.NumGoroutine")=false:=by decide+kernel
theorem aay:C0.clean pT:=by show cr Tryz.prog G0 pT=true;decide+kernel
theorem aar:C0.clean (.region 15 qP false):=by show cr Tryz.prog G0 (.region 15 qP false)=true;decide+kernel
theorem aas:C0.clean (.region 16 Bg false):=by show cr Tryz.prog G0 (.region 16 Bg false)=true;decide+kernel
theorem akp{P:Aa6}(t:Array Value)(w:Aa4){o:Aev}{e:Aa1}{n:Nat}{v:Value}(ho:o.op=.box e (.tmp n))(hn:t.getD n undef=v):
 (execOp (aS t) o).runT P w #[]=(.ok (.value (.pointer (some ⟨w.heap.size,0,none⟩))) (w.alloc (.cells v.cells e)),#[]):=by
 have e1:aS t (.tmp n)=v:=hn;unfold execOp;rw[ho]
 simp only[Instr.box,e1,newVar,newRow,newObj,bind,Sem.bind,Sem.runT,pure,World.alloc]
end Go.Jn
namespace Go.Jn
open Go Go.Proofs Go.Sim Go.Conc
theorem acY{G:Nat->Bool}{ρ:Ren}(hG:∀g,G g=true->ρ g g){tl t:Array Value}(h:aP ρ tl t):pL G ρ (aS tl) (aS t):=by
 have:=C5 (f:=0) (k:=[]) (k':=[]) (d:=[]) (d':=[]) (m:=.run) (kd:=.normal) (eT:=.normal) (r:=none) (r':=none) hG h;rwa[tf,tf] at this
section
variable {P:Aa6}{F:Array Func}{C:bQ}{G:Nat->Bool}
theorem Yb(E:Env P F C G){main:Bool}{Stop:Sim.aaa->Abe->Aa4->Prop}{M:Sim.aaa}{ρ:Ren}{f:FuncId}{k:List Item}{D:List Deferred}{kd:CallKind}{cs:List Abd}{ops:Array Aev}{i:Nat}{rest:List Nat}{o:Aev}{tl t:Array Value}{wl w':Aa4}
 (ho:ops[i]?=some o)(hg:Afi o (Aew ops t)=true)(hk:(kd==.early)=false)(k8:j7 P G o=true)(ht:aP ρ tl t)(hW:bV C ρ wl w')(hG:∀g,G g=true->ρ g g)(hf:Fits M ρ wl)(gN:∀b,M.has b->b<w'.heap.size)
 {QL:Value->Aa4->Prop}(hl:∀T,∃v aa,(execOp (aS tl) o).run (tw P F) (aZ wl T)=.ok (.value v) aa/\QL v aa)
 (h:∀v v' wy aE bS aA,QL v wy->ah aE v v'->bV C aE wy aA->gX M ρ wl w' bS aE wy aA->Fits bS aE wy->(∀b,bS.has b->b<aA.heap.size)->Walk P main Stop bS (rg f (ay t o.dst v') (.inRegion ops rest::k) D kd cs) aA):
 Walk P main Stop M (rg f t (.inRegion ops (i::rest)::k) D kd cs) w':=by
 refine BN ho hg hk fun aa hw=>?_
 have hR:=hW.keep hf hw
 let T:Tape:=fun j q=>aa.tape (aa.drawn+(j - wl.drawn)) q
 obtain⟨v,wy,hr,hq⟩:=hl T;have eC:gY C ρ (aZ wl T) aa:=(hR.left (aa:=aZ wl T) rfl).rel fun j q=>by
  show aa.tape (aa.drawn+(wl.drawn+j - wl.drawn)) q=aa.tape (aa.drawn+j) q;rw[Nat.add_sub_cancel_left]
 obtain⟨aE,n',aA,eD,k1,k2,k3,k4,k5⟩:=ed.execOp E o k8 (acY hG ht) ρ ρ.le_refl (aZ wl T) aa #[] eC (.value v) wy hr;cases k2 with
 |value hv=>
  rename_i v';have DM:∀b,M.has b->b<aa.heap.size:=fun b hb=>Aeh (gN b hb) hw.size
  have Mf:∀b,b<aa.heap.size->¬M.O b->∀a,ρ a b->∃o,wl.heap[a]?=some o/\lC o:=fun b _ hb a ha=>((hf a b ha).resolve_left hb).2
  have GH:eO M aa aA eD:=by
   refine⟨k4.fQ,fun b hb hO=>k4.im b hb (Mf b hb hO),k4.wv,k4.vR,k4.vS,fun e he=>?_⟩
   rcases k5 e he with⟨b,a,e1,e2,e3,e4⟩ |x
   ·refine .inl ⟨b,e1,e2,?_⟩
    rcases k4.new a b e3 with x| ⟨x,y⟩
    ·rcases hf a b x with o| ⟨r,o,ho,fo⟩
     ·exact⟨.inl (.inl o),fun _=>.inl o⟩
     ·refine⟨.inr r,fun Ec=>?_⟩
      rcases e4 with e4| ⟨o',oB,e4⟩
      ·have:=hW.dA a b x
       have e4:wl.heap.size<=a:=e4;omega
      ·have e5:wl.heap[a]?=some o':=oB
       rw[ho] at e5;obtain rfl:=Ac5 e5;exact absurd fo (e4 Ec)
    ·have hb:=k3.dc a b e3
     exact⟨.inl (.inr ⟨y,hb⟩),fun _=>.inr ⟨y,hb⟩⟩
   ·exact .inr x
  have tP:(execOp (aS t) o).runT P aa #[]=(.ok (.value v') aA,eD):=by rw[k1];simp
  refine⟨v',aA,eD,.inl tP,GH,?_⟩
  refine h v v' wy aE (M.grow aa aA) aA hq hv ⟨k3.dA,k3.dc,k3.fn,k3.inj,k3.obj⟩ ((gX.keep hw).trans (pU:=M.grow aa aA) ⟨k4.le,k4.new,k4.mP,k4.fQ,k4.kE,fun b hb Hg=>k4.im b (DM b hb) Hg,rfl,fun _ x=>.inl x,fun _ x=>x,k4.wv,k4.vR,k4.vS⟩ gN) (fun a b hab=>?_) (zU GH DM)
  rcases k4.new a b hab with x| ⟨x,y⟩
  ·rcases hf a b x with o| ⟨r,o,ho,fo⟩
   ·exact .inl (.inl o)
   ·exact .inr ⟨r,o,k4.kE a o ho fo,fo⟩
  ·exact .inl (.inr ⟨y,k3.dc a b hab⟩)
end
end Go.Jn
namespace Go.Jn
open Go Go.Proofs Go.Sim Go.Conc Go.Tw
set_option maxRecDepth 100000
def ext(ρ:Ren)(a0 b0:Nat):Ren:=fun a b=>ρ a b\/(a=a0/\b=b0)
theorem xj(ρ:Ren)(a0 b0:Nat):ρ.le (ext ρ a0 b0):=fun _ _ h=>.inl h
theorem uP{C:bQ}{ρ:Ren}{wl w':Aa4}{o o':Obj}{q:Nat}(hW:bV C ρ wl w')(hq:w'.heap[q]?=some o')(xU:∀a,¬ρ a q)(ho:iE C (ext ρ wl.heap.size q) o o'):
 bV C (ext ρ wl.heap.size q) (wl.alloc o) w' where
 dA a b h:=by
  rw[fa];rcases h with h| ⟨rfl,rfl⟩
  ·have:=hW.dA a b h;omega
  ·omega
 dc a b h:=by
  rcases h with h| ⟨rfl,rfl⟩
  ·exact hW.dc a b h
  ·exact(Aaf.1 hq).1
 fn a b b' h h':=by
  rcases h with h| ⟨rfl,rfl⟩
  ·rcases h' with h'| ⟨rfl,rfl⟩
   ·exact hW.fn a b b' h h'
   ·have:=hW.dA _ _ h;omega
  ·rcases h' with h'| ⟨_,rfl⟩
   ·have:=hW.dA _ _ h';omega
   ·rfl
 inj a a' b h h':=by
  rcases h with h| ⟨rfl,rfl⟩
  ·rcases h' with h'| ⟨rfl,rfl⟩
   ·exact hW.inj a a' b h h'
   ·exact absurd h (xU a)
  ·rcases h' with h'| ⟨rfl,_⟩
   ·exact absurd h' (xU a')
   ·rfl
 obj a b x h hx:=by
  rcases h with h| ⟨rfl,rfl⟩
  ·rw[kB (hW.dA a b h)] at hx
   obtain⟨y,h1,h2⟩:=hW.obj a b x h hx;exact⟨y,h1,h2.mono (xj ρ _ _)⟩
  ·rw[jO] at hx
   cases hx;exact⟨o',hq,ho⟩
theorem ta{C:bQ}{ρ:Ren}{wl w' bq:Aa4}(hW:bV C ρ wl w')(hs:w'.heap.size<=bq.heap.size)(hk:∀a b,ρ a b->bq.heap[b]?=w'.heap[b]?):bV C ρ wl bq where
 dA:=hW.dA
 dc a b h:=Aeh (hW.dc a b h) hs
 fn:=hW.fn
 inj:=hW.inj
 obj a b o h ho:=by
  obtain⟨o',h1,h2⟩:=hW.obj a b o h ho;exact⟨o',(hk a b h).trans h1,h2⟩
structure LW(b:ao)(ρ:Ren)(wl:Aa4)(pv bv tv:Value)(B lb l6 l7 bk p6 p7:Nat)(M:Sim.aaa)(w':Aa4):Prop where
 core:bV C0 ρ wl w'
 gL:ρ 0 0
 nb:bJ wl.heap
 has:∀a q,ρ a q->M.has q
 fixed:∀a q,ρ a q->∃o,wl.heap[a]?=some o/\lC o
 rb:ρ lb bk
 r6:ρ l6 p6
 r7:ρ l7 p7
 hB:B<=wl.heap.size
 book:bg wl B b pv bv tv
 c0: wl.cell? ⟨lb,0,none⟩=some (.int .i64 b.ag)
 c1: wl.cell? ⟨lb,1,none⟩=some pv
 c2: wl.cell? ⟨lb,2,none⟩=some bv
 c3: wl.cell? ⟨lb,3,none⟩=some tv
structure St(b:ao)(ρ:Ren)(wl:Aa4)(pv bv tv:Value)(B lb l6 l7 bk p6 p7 cN cL n NB:Nat)(wB:Aa4)(M:Sim.aaa)(w:Aa4):Prop where
 lw:LW b ρ wl pv bv tv B lb l6 l7 bk p6 p7 M w
 low:∀q,M.has q->q<w.heap.size
 m6:M.has p6
 m7:M.has p7
 mb:M.has bk
 h6:w.heap[p6]?=some (.cells #[.chan (some cN)] 154 (0,0))
 h7:w.heap[p7]?=some (.cells #[.chan (some cL)] 155 (0,0))
 hb:∃bc e fb A c,w.heap[bk]?=some (.cells bc e fb)/\bc[2]?=some (.slice A n c)
 old:∀q,q<NB->M.has q/\w.heap[q]?=wB.heap[q]?
 nb:NB<=w.heap.size
 nc:¬M.has cN/\¬M.has cL
 lc:cN<w.heap.size/\cL<w.heap.size
section
variable {b:ao}{ρ:Ren}{wl wB w bq:Aa4}{pv bv tv:Value}{B lb l6 l7 bk p6 p7 cN cL n NB:Nat}{M M':Sim.aaa}
theorem St.to(h:(St b ρ wl pv bv tv B lb l6 l7 bk p6 p7 cN cL n NB wB) M w)(hs:w.heap.size<=bq.heap.size)(hk:∀q,M.has q->bq.heap[q]?=w.heap[q]?)(hM:∀q,M.has q->M'.has q)(hl:∀q,M'.has q->q<bq.heap.size)(hc:¬M'.has cN/\¬M'.has cL):(St b ρ wl pv bv tv B lb l6 l7 bk p6 p7 cN cL n NB wB) M' bq:=by
 obtain⟨⟨core,gL,nb,has,fixed,rb,r6,r7,hB,book,c0,c1,c2,c3⟩,low,m6,m7,mb,h6,h7,⟨bc,e,fb,A,c,ae,ak⟩,old,gy,nc,lc⟩:=h;exact⟨⟨ta core hs fun a q hq=>hk q (has a q hq),gL,nb,fun a q hq=>hM q (has a q hq),fixed,rb,r6,r7,hB,book,c0,c1,c2,c3⟩,hl,hM _ m6,hM _ m7,hM _ mb,(hk _ m6).trans h6,(hk _ m7).trans h7,⟨bc,e,fb,A,c,(hk _ mb).trans ae,ak⟩,
  fun q hq=>⟨hM q (old q hq).1,(hk q (old q hq).1).trans (old q hq).2⟩,Ac3 gy hs,hc,Aeh lc.1 hs,Aeh lc.2 hs⟩
theorem St.keep(h:(St b ρ wl pv bv tv B lb l6 l7 bk p6 p7 cN cL n NB wB) M w)(k:bN M w bq):(St b ρ wl pv bv tv B lb l6 l7 bk p6 p7 cN cL n NB wB) M bq:=h.to k.size k.kept (fun _ h=>h) (fun q hq=>Aeh (h.low q hq) k.size) h.nc
theorem St.shared(h:(St b ρ wl pv bv tv B lb l6 l7 bk p6 p7 cN cL n NB wB) M w):(St b ρ wl pv bv tv B lb l6 l7 bk p6 p7 cN cL n NB wB) M.shared w:=h.to (Ac2 _) (fun _ _=>rfl) (fun _ h=>.inr h) (fun q hq=>h.low q (hq.resolve_left id)) ⟨fun x=>h.nc.1 (x.resolve_left id),fun x=>h.nc.2 (x.resolve_left id)⟩
theorem St.alloc(h:(St b ρ wl pv bv tv B lb l6 l7 bk p6 p7 cN cL n NB wB) M w)(o:Obj):(St b ρ wl pv bv tv B lb l6 l7 bk p6 p7 cN cL n NB wB) (M.grow w (w.alloc o)) (w.alloc o):=by
 refine h.to (by rw[fa];omega) (fun q hq=>kB (h.low q hq)) (fun q hq=>hq.imp .inl id) (fun q hq=>?_) ⟨fun hq=>?_,fun hq=>?_⟩
 ·rw[fa]
  rcases hq with(hq|hq) |hq
  ·have:=h.low q (.inl hq);omega
  ·rw[fa] at hq;omega
  ·have:=h.low q (.inr hq);omega
 ·rcases hq with(hq|hq) |hq
  ·exact h.nc.1 (.inl hq)
  ·have:=h.lc.1;omega
  ·exact h.nc.1 (.inr hq)
 ·rcases hq with(hq|hq) |hq
  ·exact h.nc.2 (.inl hq)
  ·have:=h.lc.2;omega
  ·exact h.nc.2 (.inr hq)
end
end Go.Jn
namespace Go.Jn
open Go Go.Proofs Go.Sim Go.Conc Go.Tw
set_option maxRecDepth 100000
def X0(i:Nat):Value:=.int .i64 i
theorem vs3{t:Array Value}{a b c:Nat}{x y z:Value}(h1:t[a]?=some x)(h2:t[b]?=some y)(h3:t[c]?=some z):(#[Operand.tmp a,.tmp b,.tmp c].map (aS t))=#[x,y,z]:=by
 have e1:aS t (.tmp a)=x:=cJ h1;have e2:aS t (.tmp b)=y:=cJ h2;have e3:aS t (.tmp c)=z:=cJ h3;simp only[Ah4,Ah2,Ah5,e1,e2,e3]
theorem vs4{t:Array Value}{a b c d:Nat}{x y z u:Value}(h1:t[a]?=some x)(h2:t[b]?=some y)(h3:t[c]?=some z)(h4:t[d]?=some u):(#[Operand.tmp a,.tmp b,.tmp c,.tmp d].map (aS t))=#[x,y,z,u]:=by
 have e1:aS t (.tmp a)=x:=cJ h1;have e2:aS t (.tmp b)=y:=cJ h2;have e3:aS t (.tmp c)=z:=cJ h3;have e4:aS t (.tmp d)=u:=cJ h4;simp only[Ah4,Ah2,Ah5,e1,e2,e3,e4]
section
variable {b:ao}{ρ:Ren}{wl wB:Aa4}{pv bv tv:Value}{B lb l6 l7 bk p6 p7 cN cL n N0 NB:Nat}{eU:Nat->Bool}{End:List Nat->Sim.aaa->Abe->Aa4->Prop}
structure jN(bk p6 p7:Nat)(t:Array Value):Prop where
 sz:t.size=41
 t1:t[1]?=some (.pointer (some ⟨bk,0,none⟩))
 t6:t[6]?=some (.pointer (some ⟨p6,0,none⟩))
 t7:t[7]?=some (.pointer (some ⟨p7,0,none⟩))
theorem jN.put{t:Array Value}(h:jN bk p6 p7 t){d:Nat}(hd:d≠1/\d≠6/\d≠7){v:Value}:jN bk p6 p7 (ay t (some d) v):=
 ⟨by simp[ay,h.sz],(bL hd.1).trans h.t1,(bL hd.2.1).trans h.t6,(bL hd.2.2).trans h.t7⟩
theorem alE(vt:∀i,eU i=(search b (cz (aD b)) (fun k=>decide (k=i)) b.pieces.length []).isNone)(ab:cj b 0=0){i pk:Nat}{M:Sim.aaa}{w:Aa4}(h:(St b ρ wl pv bv tv B lb l6 l7 bk p6 p7 cN cL n NB wB) M w)(mk:M.has pk)(hk:w.heap[pk]?=some (.cells #[.int .i64 i] 3 (0,0)))(xU:∀a,¬ρ a pk):
 Walk Tryz.prog false (W1 (Pm.mk Tryz.prog n N0 cL cN eU X0 End) i) M.shared (born Tryz.prog {target:=.fn (.func 120) #[.pointer (some ⟨p7,0,none⟩),.pointer (some ⟨bk,0,none⟩),.pointer (some ⟨pk,0,none⟩),.pointer (some ⟨p6,0,none⟩)],args:=#[]}) w:=by
 have hW:=uP (o:=.cells #[.int .i64 i] 3 (0,1)) h.lw.core hk xU (.cells 3 ⟨rfl,fun j h1 h2=>by
  have:j=0:=by simp at h1;omega
  subst this;exact .int _ _⟩ (.inr ⟨rfl,by simp⟩))
 have st:=(Still.refl wl).alloc h.lw.hB (.cells #[.int .i64 i] 3 (0,1));have old:∀ {j:Nat} {v:Value},wl.cell? ⟨lb,j,none⟩=some v->(wl.alloc (.cells #[.int .i64 i] 3 (0,1))).cell? ⟨lb,j,none⟩=some v:=fun hv=>(World.cell?_alloc_lt wl _ _ (h.lw.core.dA _ _ h.lw.rb)).trans hv
 refine worker (val:=X0) (ρ:=ext ρ wl.heap.size pk) (w:=wl.alloc (.cells #[.int .i64 i] 3 (0,1))) (b:=b) (pv:=pv) (bv:=bv) (tv:=tv) (B:=B) (lb:=lb) (lk:=wl.heap.size) (l6:=l6) (l7:=l7) hW (.inl h.lw.gL) ?_ (fun _ h=>h) (fun q hq=>h.low q (hq.resolve_left id)) ?_ (.inl h.lw.rb) (.inr ⟨rfl,rfl⟩) (.inl h.lw.r6) (.inl h.lw.r7) (.inr h.m6) (.inr h.m7) (.inr mk) (by rw[fa];exact Nat.le_succ_of_le h.lw.hB) (h.lw.book.still st) ab (old h.lw.c0) (old h.lw.c1) (old h.lw.c2) (old h.lw.c3) ?_ h.h6 h.h7 hk (vt i)
 ·rintro a q (hq| ⟨rfl,rfl⟩)
  ·obtain⟨o,ho,fo⟩:=h.lw.fixed a q hq
   exact .inr ⟨h.lw.has a q hq,o,(kB (h.lw.core.dA _ _ hq)).trans ho,fo⟩
  ·exact .inr ⟨mk,_,jO,⟨rfl,by simp⟩⟩
 ·exact h.lw.nb.push (fun h=>h)
 ·exact lL jO rfl rfl
theorem spawns(vt:∀i,eU i=(search b (cz (aD b)) (fun k=>decide (k=i)) b.pieces.length []).isNone)(ab:cj b 0=0)(hn:n<2 ^ 61){cs:List Abd}
 (cont:∀t M w,jN bk p6 p7 t->(St b ρ wl pv bv tv B lb l6 l7 bk p6 p7 cN cL n NB wB) M w->Walk Tryz.prog true (nj (Pm.mk Tryz.prog n N0 cL cN eU X0 End) n []) M (rg 38 t [.code (.seq (.region 11 Bf false) ub)] [] .normal cs) w):
 ∀(r:Nat) (t:Array Value) (M:Sim.aaa) (w:Aa4),r<=n->jN bk p6 p7 t->t[23]?=some (.int .i64 n)->t[24]?=some (.int .i64 ((n:Int) - r))->(St b ρ wl pv bv tv B lb l6 l7 bk p6 p7 cN cL n NB wB) M w->
  Walk Tryz.prog true (StopA (Pm.mk Tryz.prog n N0 cL cN eU X0 End) r) M (rg 38 t [.code uE,.inLoop uE,.inBlock 0,.code vZ] [] .normal cs) w:=by
 intro r;induction r with
 |zero=>
  intro t M w hr hs t23 t24 hS;rw[Rk];refine fF (gH ?_)
  rw[s6];obtain⟨o,ho,bG,hd,hg⟩:=V6;refine du ho (cf hg) rfl (fun aa _=>⟨_,I3 t aa bG (cJ t24) (cJ t23),eo⟩) ?_
  rw[hd];have cZ:jN bk p6 p7 (ay t (some 25) (.bool (decide ((n:Int) - ((0:Nat):Int)<n)))):=hs.put ⟨by omega,by omega,by omega⟩
  have xy:(ay t (some 25) (.bool (decide ((n:Int) - ((0:Nat):Int)<n)))).getD 25 undef=.bool false:=
   (ib (by rw[hs.sz];omega)).trans (congrArg Value.bool (by simp))
  revert cZ xy
  generalize ay t (some 25) (.bool (decide ((n:Int) - ((0:Nat):Int)<n)))=t1;intro cZ xy;refine iA (fF (BM (q:=false) xy ?_))
  refine Qm (k':=[.code vZ]) rfl ?_
  rw[akc];refine fF (gH ?_)
  rw[s10];obtain⟨o,ho,bG,hd,hg⟩:=ahu;refine du ho (cf hg) rfl (fun aa _=>⟨_,(Pz t1 aa bG).trans (by rw[vs3 cZ.t1 cZ.t7 cZ.t6]),eo⟩) ?_
  rw[hd];have Ms:(ay t1 (some 29) (.func (.func 124) #[] #[.pointer (some ⟨bk,0,none⟩),.pointer (some ⟨p7,0,none⟩),.pointer (some ⟨p6,0,none⟩)])).getD 29 undef=.func (.func 124) #[] #[.pointer (some ⟨bk,0,none⟩),.pointer (some ⟨p7,0,none⟩),.pointer (some ⟨p6,0,none⟩)]:=ib (by rw[cZ.sz];omega)
  have dD:jN bk p6 p7 (ay t1 (some 29) (.func (.func 124) #[] #[.pointer (some ⟨bk,0,none⟩),.pointer (some ⟨p7,0,none⟩),.pointer (some ⟨p6,0,none⟩)])):=cZ.put ⟨by omega,by omega,by omega⟩
  revert Ms dD
  generalize ay t1 (some 29) (.func (.func 124) #[] #[.pointer (some ⟨bk,0,none⟩),.pointer (some ⟨p7,0,none⟩),.pointer (some ⟨p6,0,none⟩)])=t2;intro Ms dD;refine .stop fun aa hk=>?_
  obtain⟨o,ho,bG,hd,hg⟩:=ahv;have fU:=hS.keep hk;obtain⟨bc,e,fb,A,c,ae,ak⟩:=fU.hb;refine⟨rfl,_,_,Xz (k:=[.code (.seq (.region 11 Bf false) ub)]) ho (cf hg) rfl (by simp) (WO t2 aa bG Ms),rfl,rfl,?_,?_⟩
  ·exact closer (.inr fU.mb) (.inr fU.m6) (.inr fU.m7) ae ak fU.h6 fU.h7 hn
  ·rw[hd]
   exact iA (cont _ _ _ dD fU.shared)
 |succ r ih=>
  intro t M w hr hs t23 t24 hS;rw[Rk];refine fF (gH ?_)
  rw[s6];obtain⟨o,ho,bG,hd,hg⟩:=V6;refine du ho (cf hg) rfl (fun aa _=>⟨_,I3 t aa bG (cJ t24) (cJ t23),eo⟩) ?_
  rw[hd];have cZ:jN bk p6 p7 (ay t (some 25) (.bool (decide ((n:Int) - ((r+1:Nat):Int)<n)))):=hs.put ⟨by omega,by omega,by omega⟩
  have xy:(ay t (some 25) (.bool (decide ((n:Int) - ((r+1:Nat):Int)<n)))).getD 25 undef=.bool true:=
   (ib (by rw[hs.sz];omega)).trans (congrArg Value.bool (by have:(n:Int) - ((r+1:Nat):Int)<n:=by omega
                                                            exact decide_eq_true this))
  have xx:(ay t (some 25) (.bool (decide ((n:Int) - ((r+1:Nat):Int)<n))))[23]?=some (.int .i64 n):=(bL (by omega)).trans t23
  have Da:(ay t (some 25) (.bool (decide ((n:Int) - ((r+1:Nat):Int)<n))))[24]?=some (.int .i64 ((n:Int) - ((r+1:Nat):Int))):=(bL (by omega)).trans t24
  revert cZ xy xx Da
  generalize ay t (some 25) (.bool (decide ((n:Int) - ((r+1:Nat):Int)<n)))=t1;intro cZ xy xx Da;obtain⟨i,hi⟩:∃i,i=n - (r+1):=⟨_,rfl⟩
  have bu:(n:Int) - ((r+1:Nat):Int)=(i:Int):=by omega
  rw[bu] at Da;refine iA (fF (BM (q:=true) xy ?_))
  refine Qq (fF (BL (fF (gH ?_))))
  rw[s7];obtain⟨o,ho,bG,hd,hg⟩:=m70;have e24:aS t1 (.tmp 24)=.int .i64 i:=cJ Da;refine du ho (cf hg) rfl (fun aa _=>⟨_,(run_move t1 aa bG).trans (by rw[e24]),eo⟩) ?_
  rw[hd];have dD:jN bk p6 p7 (ay t1 (some 26) (.int .i64 i)):=cZ.put ⟨by omega,by omega,by omega⟩
  have OD:(ay t1 (some 26) (.int .i64 i))[26]?=some (.int .i64 i):=eM (by rw[cZ.sz];omega)
  have OB:(ay t1 (some 26) (.int .i64 i))[23]?=some (.int .i64 n):=(bL (by omega)).trans xx
  have OC:(ay t1 (some 26) (.int .i64 i))[24]?=some (.int .i64 i):=(bL (by omega)).trans Da
  revert dD OD OB OC
  generalize ay t1 (some 26) (.int .i64 i)=t2;intro dD OD OB OC;obtain⟨o,ho,bG,hd,hg⟩:=m71;obtain⟨ti,lU,hz,il⟩:=Ig;refine BN ho (cf hg) rfl fun aa hk=>?_
  have fU:=hS.keep hk;refine⟨_,_,_,.inl (Py t2 bG lU hz rfl aa),xe,?_⟩
  rw[hd];have Dg:=fU.alloc (.cells #[.int .i64 0] 3);obtain⟨pk,AD⟩:∃pk,pk=aa.heap.size:=⟨_,rfl⟩
  have xU:∀a,¬ρ a pk:=fun a ha=>by have:=fU.lw.core.dc a pk ha;omega
  have zZ:(M.grow aa (aa.alloc (.cells #[.int .i64 0] 3))).O pk:=.inr ⟨by omega,by rw[fa];omega⟩
  have M9:(aa.alloc (.cells #[.int .i64 0] 3)).heap[pk]?=some (.cells #[.int .i64 0] 3):=by rw[AD];exact jO
  rw[<-AD];have gQ:jN bk p6 p7 (ay t2 (some 8) (.pointer (some ⟨pk,0,none⟩))):=dD.put ⟨by omega,by omega,by omega⟩
  have q8:(ay t2 (some 8) (.pointer (some ⟨pk,0,none⟩)))[8]?=some (.pointer (some ⟨pk,0,none⟩)):=eM (by rw[dD.sz];omega)
  have sa:(ay t2 (some 8) (.pointer (some ⟨pk,0,none⟩)))[26]?=some (.int .i64 i):=(bL (by omega)).trans OD
  have tX:(ay t2 (some 8) (.pointer (some ⟨pk,0,none⟩)))[23]?=some (.int .i64 n):=(bL (by omega)).trans OB
  have r8:(ay t2 (some 8) (.pointer (some ⟨pk,0,none⟩)))[24]?=some (.int .i64 i):=(bL (by omega)).trans OC
  revert gQ q8 sa tX r8
  generalize ay t2 (some 8) (.pointer (some ⟨pk,0,none⟩))=t3;intro gQ q8 sa tX r8
  revert Dg zZ M9
  generalize M.grow aa (aa.alloc (.cells #[.int .i64 0] 3))=M2;generalize aa.alloc (.cells #[.int .i64 0] 3)=w2;intro Dg zZ M9;obtain⟨o,ho,bG,hd,hg⟩:=m72;refine BN ho (cf hg) rfl fun ky fh=>?_
  have MF:=Dg.keep fh;have T7:=(fh.kept pk (.inl zZ)).trans M9;refine⟨undef,jh ky pk (.cells #[.int .i64 i] 3 (0,0)),_,.inr ⟨rfl,PC t3 bG (cJ q8) (cJ sa) rfl rfl lU il ky T7⟩,LZ zZ,?_⟩
  rw[hd,GQ];have aw:∀q,M2.has q->q≠pk->(jh ky pk (.cells #[.int .i64 i] 3 (0,0))).heap[q]?=ky.heap[q]?:=fun q _ hq=>wa (Ne.symm hq)
  have afn:pk<ky.heap.size:=(Aaf.1 T7).1
  have vE:(jh ky pk (.cells #[.int .i64 i] 3 (0,0))).heap[pk]?=some (.cells #[.int .i64 i] 3 (0,0)):=PM afn;have tq:NB<=pk:=by have:=fU.nb;omega
  have fI:p6≠pk:=by have:=fU.low _ fU.m6;omega
  have jx:p7≠pk:=by have:=fU.low _ fU.m7;omega
  have jS:bk≠pk:=by have:=fU.low _ fU.mb;omega
  have MG:(St b ρ wl pv bv tv B lb l6 l7 bk p6 p7 cN cL n NB wB) M2 (jh ky pk (.cells #[.int .i64 i] 3 (0,0))):=by
   obtain⟨⟨core,gL,nb,has,fixed,rb,r6,r7,hB,book,c0,c1,c2,c3⟩,low,m6,m7,mb,h6,h7,⟨bc,e,fb,A,c,ae,ak⟩,old,gy,nc,lc⟩:=MF;exact⟨⟨ta core (by rw[qS];omega) fun a q hq=>aw q (has a q hq) (by rintro rfl;exact xU a hq),gL,nb,has,fixed,rb,r6,r7,hB,book,c0,c1,c2,c3⟩,fun q hq=>by rw[qS];exact low q hq,m6,m7,mb,(aw _ m6 fI).trans h6,(aw _ m7 jx).trans h7,
    ⟨bc,e,fb,A,c,(aw _ mb jS).trans ae,ak⟩,fun q hq=>⟨(old q hq).1,(aw q (old q hq).1 (by omega)).trans (old q hq).2⟩,by rw[qS];exact gy,nc,by rw[qS];exact lc⟩
  revert MG vE
  generalize jh ky pk (.cells #[.int .i64 i] 3 (0,0))=w4;intro vE MG;refine iA (gH ?_)
  rw[s8];obtain⟨o,ho,bG,hd,hg⟩:=m80;refine du ho (cf hg) rfl (fun aa _=>⟨_,(Pz _ aa bG).trans (by rw[vs4 (t:=ay t3 none undef) gQ.t7 gQ.t1 q8 gQ.t6]),eo⟩) ?_
  rw[hd];have Mr:(ay t3 (some 27) (.func (.func 120) #[] #[.pointer (some ⟨p7,0,none⟩),.pointer (some ⟨bk,0,none⟩),.pointer (some ⟨pk,0,none⟩),.pointer (some ⟨p6,0,none⟩)])).getD 27 undef=.func (.func 120) #[] #[.pointer (some ⟨p7,0,none⟩),.pointer (some ⟨bk,0,none⟩),.pointer (some ⟨pk,0,none⟩),.pointer (some ⟨p6,0,none⟩)]:=ib (by rw[gQ.sz];omega)
  have tK:jN bk p6 p7 (ay t3 (some 27) (.func (.func 120) #[] #[.pointer (some ⟨p7,0,none⟩),.pointer (some ⟨bk,0,none⟩),.pointer (some ⟨pk,0,none⟩),.pointer (some ⟨p6,0,none⟩)])):=gQ.put ⟨by omega,by omega,by omega⟩
  have z23:(ay t3 (some 27) (.func (.func 120) #[] #[.pointer (some ⟨p7,0,none⟩),.pointer (some ⟨bk,0,none⟩),.pointer (some ⟨pk,0,none⟩),.pointer (some ⟨p6,0,none⟩)]))[23]?=some (.int .i64 n):=(bL (by omega)).trans tX
  have z24:(ay t3 (some 27) (.func (.func 120) #[] #[.pointer (some ⟨p7,0,none⟩),.pointer (some ⟨bk,0,none⟩),.pointer (some ⟨pk,0,none⟩),.pointer (some ⟨p6,0,none⟩)]))[24]?=some (.int .i64 i):=(bL (by omega)).trans r8
  show Walk Tryz.prog true (StopA (Pm.mk Tryz.prog n N0 cL cN eU X0 End) (r+1)) M2 (rg 38 (ay t3 (some 27) (.func (.func 120) #[] #[.pointer (some ⟨p7,0,none⟩),.pointer (some ⟨bk,0,none⟩),.pointer (some ⟨pk,0,none⟩),.pointer (some ⟨p6,0,none⟩)])) _ _ _ _) w4
  revert Mr tK z23 z24
  generalize ay t3 (some 27) (.func (.func 120) #[] #[.pointer (some ⟨p7,0,none⟩),.pointer (some ⟨bk,0,none⟩),.pointer (some ⟨pk,0,none⟩),.pointer (some ⟨p6,0,none⟩)])=t4;intro Mr tK z23 z24;refine .stop fun ang DF=>?_
  obtain⟨o,ho,bG,hd,hg⟩:=m81;have TR:=MG.keep DF;have Oh:=(DF.kept pk (.inl zZ)).trans vE;refine⟨rfl,_,_,Xz ho (cf hg) rfl (by simp) (WO t4 ang bG Mr),rfl,rfl,?_,?_⟩
  ·show Walk Tryz.prog false (W1 (Pm.mk Tryz.prog n N0 cL cN eU X0 End) (n - (r+1))) _ _ _
   rw[<-hi];exact alE vt ab TR (.inl zZ) Oh xU
  ·rw[hd]
   refine iA (Qn (gH ?_))
   rw[s9];obtain⟨o,ho,bG,hd,hg⟩:=m90;refine du ho (cf hg) rfl (fun aa _=>⟨_,WL t4 aa bG (cJ z24) rfl,eo⟩) ?_
   rw[hd];obtain⟨o,ho,bG,hd,hg⟩:=m91;have Ec:IntKind.i64.wrap ((i:Int)+1)=(n:Int) - r:=by rw[wrap_small (by omega) (by omega)];omega
   rw[Ec];have AJ:jN bk p6 p7 (ay t4 (some 28) (.int .i64 ((n:Int) - r))):=tK.put ⟨by omega,by omega,by omega⟩
   have y28:aS (ay t4 (some 28) (.int .i64 ((n:Int) - r))) (.tmp 28)=.int .i64 ((n:Int) - r):=ib (by rw[tK.sz];omega)
   refine du ho (cf hg) rfl (fun aa _=>⟨_,(run_move _ aa bG).trans (congrArg (fun v=>((Result.ok (Next.value v) aa,#[]):Result Next×Array Event)) y28),eo⟩) ?_
   rw[hd];refine iA (Qo ?_)
   exact ih _ _ _ (by omega) (AJ.put ⟨by omega,by omega,by omega⟩) ((bL (by omega)).trans ((bL (by omega)).trans z23)) (eM (by have:=AJ.sz;show 24<(ay t4 (some 28) (.int .i64 ((n:Int) - r))).size;omega)) TR.shared
end
end Go.Jn
namespace Go.Jn
open Go Go.Proofs Go.Sim Go.Conc Go.Tw
set_option maxRecDepth 100000
theorem Mb(ρ:Ren)(t:Array Value):∃u:Array Value,aP ρ u t:=by
 refine⟨Ahw fun i:Fin t.size=>Adi (rB ρ t[i.1]),by simp,fun i h1 h2=>?_⟩
 rw[Ahx];exact Adj (rB ρ t[i])
theorem EM{ρ:Ren}{u t:Array Value}(h:aP ρ u t){i:Nat}{v v':Value}(hv:ah ρ v v')(ht:t[i]?=some v'):aP ρ (u.setIfInBounds i v) t:=by
 refine⟨by simp[h.1],fun j h1 h2=>?_⟩
 rw[Array.getElem_setIfInBounds (by simpa using h1)]
 split
 ·rename_i e
  subst e;rw[Adb h2] at ht
  rw[Ac5 ht];exact hv
 ·exact h.2 j (by simpa using h1) h2
theorem akq(t:Array Value)(w:Aa4){o:Aev}{n:Nat}{v:Value}(ho:o.op=.buildSlice 33 1 #[(0,.tmp n)])(hn:t.getD n undef=v)(hv:v.cells=#[v]):
 (execOp (aS t) o).runT Tryz.prog w #[]=(.ok (.value (.slice (some ⟨w.heap.size,0,none⟩) 1 1)) (w.alloc (.cells #[v] 3)),#[]):=by
 have e1:aS t (.tmp n)=v:=hn;obtain⟨i,hi,hz,hs⟩:=Ig;have hu:Tryz.prog.underlying 33=some (.slice 3):=rfl;have hf:Instr.fill (fun i=>some (i * 1,1)) (Array.map (fun x=>(Value.int .i64 0).cells[x % (Value.int .i64 0).cells.size]!) (Array.range (1 * 1))) [(0,v)]=some #[v]:=by
  have e2:Array.range (1 * 1)=#[0]:=rfl;rw[e2];simp[Instr.fill,hv]
 have hb:(Instr.buildSlice 33 1 #[(0,v)]).runT Tryz.prog w #[]=(.ok (.slice (some ⟨w.heap.size,0,none⟩) 1 1) (w.alloc (.cells #[v] 3)),#[]):=by
  have e3:¬ (1 * 1>2 ^ 24):=by decide
  have e4:¬ (1 * 1=0):=by decide
  simp only[Instr.buildSlice,Go.underlying,Go.program,Go.typeInfo,Go.sizeOf,Go.zeroValue,bind,Sem.bind,Sem.runT,pure,hu,hi,hs,hz,if_neg e3,if_neg e4,hf,newRow,newObj,World.alloc]
 unfold execOp;rw[ho]
 have e5:(#[(0,Operand.tmp n)].map fun(i,x)=>(i,aS t x))=#[(0,v)]:=by simp only[Ah4,Ah2,Ah5,e1]
 show((Instr.buildSlice 33 1 (#[(0,Operand.tmp n)].map fun(i,x)=>(i,aS t x))).bind fun v=>Sem.pure (Next.value v)).runT Tryz.prog w #[]=_
 rw[e5,pA,hb];rfl
theorem Wv{C:bQ}{ρ:Ren}{wl w:Aa4}(hW:bV C ρ wl w){base NR n:Nat}{v v':Value}{xs:List Int}(hv:ah ρ v v')(h:wl.ownsRow base 3 1 v n (xs.map (Value.int .i64)))(hn:n≠0)(hb:∀a q,base<=a->ρ a q->NR<=q):
 w.ownsRow NR 3 1 v' n (xs.map (Value.int .i64))/\∃a q cap,v=.slice (some ⟨a,0,none⟩) n cap/\v'=.slice (some ⟨q,0,none⟩) n cap/\ρ a q/\∃cur,wl.heap[a]?=some (.cells cur 3 (0,0))/\cur.size≠0:=by
 obtain⟨hl,hc⟩:=h;rcases hc with⟨_,rfl⟩ | ⟨g,cap,cur,rfl,nC,hg,dX,kZ,fg,lT⟩
 ·exact absurd rfl hn
 ·cases hv with
  |sliceDead=>exact absurd rfl hn
  |slice _ _ ha=>
   rename_i q;obtain⟨qb,qo,qs⟩:=q;obtain⟨h1,h2,h3⟩:=ha;simp only at h1 h2 h3;subst h2 h3;obtain⟨o',oB,hr⟩:=hW.obj _ _ _ h1 hg;cases hr with
   | @cells _ c' _ _ aV hc hf=>
     have b7:aV=(0,0):=by
      rcases hf with hf|hf
      ·exact hf
      ·obtain⟨_,hf⟩:=hf
       have:cur.size<=0:=hf;omega
     subst b7;refine⟨⟨hl,.inr ⟨qb,cap,c',rfl,hb _ _ nC h1,oB,dX,kZ,hc.1.symm.trans fg,?_⟩⟩,_,_,_,rfl,rfl,h1,cur,hg,by omega⟩
     apply List.ext_getElem?;intro j;rw[<-lT];rw[Ah6,Ah6]
     split
     ·rename_i hj
      rw[Agv,Agv]
      rcases hc.get? j with⟨e1,e2⟩ | ⟨x,y,e1,e2,e3⟩
      ·rw[e1,e2]
      ·rw[e1,e2]
       have hx:(cur.toList.take (n * 1))[j]?=some x:=by rw[Ah6,if_pos hj,Agv,e1]
       rw[lT] at hx;rw[List.getElem?_map] at hx
       obtain⟨z,_,rfl⟩:=Aej.1 hx;cases e3;rfl
     ·rfl
end Go.Jn
namespace Go.Jn
open Go Go.Proofs Go.Sim Go.Conc Go.Tw
set_option maxRecDepth 100000
theorem ahA:∃o,qP[0]?=some o/\o.op=.move (.tmp 9)/\o.dst=some 34/\o.guard=none:=⟨_,rfl,rfl,rfl,rfl⟩
theorem ahB:∃o,qP[1]?=some o/\o.op=.move (.tmp 10)/\o.dst=some 35/\o.guard=none:=⟨_,rfl,rfl,rfl,rfl⟩
theorem ahC:∃o,qP[2]?=some o/\o.op=.buildSlice 33 1 #[(0,.tmp 35)]/\o.dst=some 36/\o.guard=none:=⟨_,rfl,rfl,rfl,rfl⟩
theorem ahD:∃o,qP[3]?=some o/\o.op=.call {callee:=.builtin .append,args:=#[.tmp 34,.tmp 36],argTypes:=#[33,33]}/\o.dst=some 37/\o.guard=none:=⟨_,rfl,rfl,rfl,rfl⟩
theorem ahE:∃o,qP[4]?=some o/\o.op=.assign (.tmp 37)/\o.dst=some 9/\o.guard=none:=⟨_,rfl,rfl,rfl,rfl⟩
theorem s15:qP.size=5:=rfl
theorem ajp{id:Nat}{ops:Array Aev}{d:Bool}(h:C0.clean (.region id ops d)){i:Nat}{o:Aev}(ho:ops[i]?=some o):j7 Tryz.prog G0 o=true:=by
 have h:cr Tryz.prog G0 (.region id ops d)=true:=h;have h:ops.all (j7 Tryz.prog G0)=true:=by
  unfold cr at h;simpa using h
 exact Array.all_eq_true_iff_forall_mem.1 h o (Ac9 ho)
theorem ako{P:Aa6}{tl:Array Value}{w aa:Aa4}{o:Aev}{v v' x:Value}(ho:o.op=.call {callee:=.builtin .append,args:=#[.tmp 34,.tmp 36],argTypes:=#[33,33]})(h34:tl.getD 34 undef=v)(h36:tl.getD 36 undef=x)
 (hr:(Builtin.append_ #[33,33] o.type #[v,x]).run P w=.ok v' aa):(execOp (aS tl) o).run P w=.ok (.value v') aa:=by
 have e1:aS tl (.tmp 34)=v:=h34;have e2:aS tl (.tmp 36)=x:=h36;unfold execOp;rw[ho]
 simp only[resolve,Ah4,Ah2,Ah5,e1,e2];show((Builtin.append_ #[33,33] o.type #[v,x]).bind fun v=>Sem.pure (Next.value v)).run P w=_
 rw[run_bind,hr];rfl
section
variable {b:ao}{ρ:Ren}{wl wB:Aa4}{pv bv tv:Value}{B lb l6 l7 bk p6 p7 cN cL n N0 NB NR:Nat}
theorem St.to2{M M':Sim.aaa}{w bq:Aa4}(h:(St b ρ wl pv bv tv B lb l6 l7 bk p6 p7 cN cL n NB wB) M w)(hr:∀a q,ρ a q->q<NR)(hN:NB<=NR)(hs:w.heap.size<=bq.heap.size)(hk:∀q,M.has q->q<NR->bq.heap[q]?=w.heap[q]?)(hM:∀q,M.has q->M'.has q)(hl:∀q,M'.has q->q<bq.heap.size)(hc:¬M'.has cN/\¬M'.has cL):(St b ρ wl pv bv tv B lb l6 l7 bk p6 p7 cN cL n NB wB) M' bq:=by
 obtain⟨⟨core,gL,nb,has,fixed,rb,r6,r7,hB,book,c0,c1,c2,c3⟩,low,m6,m7,mb,h6,h7,⟨bc,e,fb,A,c,ae,ak⟩,old,gy,nc,lc⟩:=h;exact⟨⟨ta core hs fun a q hq=>hk q (has a q hq) (hr a q hq),gL,nb,fun a q hq=>hM q (has a q hq),fixed,rb,r6,r7,hB,book,c0,c1,c2,c3⟩,hl,hM _ m6,hM _ m7,hM _ mb,(hk _ m6 (hr _ _ r6)).trans h6,(hk _ m7 (hr _ _ r7)).trans h7,⟨bc,e,fb,A,c,(hk _ mb (hr _ _ rb)).trans ae,ak⟩,
  fun q hq=>⟨hM q (old q hq).1,(hk q (old q hq).1 (by omega)).trans (old q hq).2⟩,Ac3 gy hs,hc,Aeh lc.1 hs,Aeh lc.2 hs⟩
structure RI(NR:Nat)(az:List Nat)(t:Array Value)(M:Sim.aaa)(w:Aa4):Prop where
 own:∃ov,t[9]?=some ov/\w.ownsRow NR 3 1 ov az.length ((az.map fun i:Nat=>(i:Int)).map (Value.int .i64))/\∀g k c,ov=.slice (some g) k c->M.O g.block
 le:NR<=w.heap.size
 nz:az=[]->t[9]?=some (.slice none 0 0)
theorem Pb{w aa:Aa4}{base n:Nat}{v:Value}{xs:List Value}(h:w.ownsRow base 3 1 v n xs)(hk:∀g k c,v=.slice (some g) k c->aa.heap[g.block]?=w.heap[g.block]?):aa.ownsRow base 3 1 v n xs:=by
 refine⟨h.1,?_⟩
 rcases h.2 with h0| ⟨g,cap,cur,rfl,nC,hg,h4⟩
 ·exact .inl h0
 ·exact .inr ⟨g,cap,cur,rfl,nC,(hk _ _ _ rfl).trans hg,h4⟩
theorem RI.keep{az:List Nat}{t t':Array Value}{M:Sim.aaa}{w aa:Aa4}(h:RI NR az t M w)(k:bN M w aa)(ht:t'[9]?=t[9]?):RI NR az t' M aa:=by
 obtain⟨⟨ov,h1,h2,h3⟩,hle,hz⟩:=h;exact⟨⟨ov,ht.trans h1,Pb h2 fun g k' c e=>k.kept _ (.inl (h3 g k' c e)),h3⟩,Ac3 hle k.size,fun e=>ht.trans (hz e)⟩
theorem Pt(ρ:Ren)(c:Array Value)(m:Nat)(xs:List Int)(h:c.toList.take (m * 1)=xs.map (Value.int .i64)):∃u:Array Value,aP ρ u c/\u.toList.take (m * 1)=xs.map (Value.int .i64):=by
 have key:∀i:Fin c.size,∃u,ah ρ u c[i.1]/\(i.1<m->u=c[i.1]):=by
  intro i;by_cases hi:i.1<m
  ·have hx:(c.toList.take (m * 1))[i.1]?=some c[i.1]:=by
    rw[Ah6,if_pos (by omega),Agv,Adb i.2]
   rw[h,List.getElem?_map] at hx
   obtain⟨z,_,e⟩:=Aej.1 hx;exact⟨c[i.1],by rw[<-e];exact .int _ _,fun _=>rfl⟩
  ·obtain⟨u,hu⟩:=rB ρ c[i.1]
   exact⟨u,hu,fun h=>absurd h hi⟩
 refine⟨Ahw fun i=>Adi (key i),⟨by simp,fun i h1 h2=>?_⟩,?_⟩
 ·rw[Ahx]
  exact(Adj (key ⟨i,h2⟩)).1
 ·rw[<-h]
  apply List.ext_getElem?;intro j;rw[Ah6,Ah6]
  split
  ·rename_i hj
   rw[Agv,Agv,Ahy]
   split
   ·rename_i al
    rw[(Adj (key ⟨j,al⟩)).2 (by simpa using hj),Adb al]
   ·rename_i al
    rw[Aan (by omega)]
  ·rfl
end
end Go.Jn
namespace Go.Jn
open Go Go.Proofs Go.Sim Go.Conc Go.Tw
set_option maxRecDepth 100000
theorem af9:∃i,Tryz.prog.info? 3=some i/\i.zero=some (.int .i64 0)/\i.size=1/\i.bytes=8:=⟨_,rfl,rfl,rfl,rfl⟩
def ints(az:List Nat):List Int:=az.map fun i:Nat=>(i:Int)
theorem agj(az:List Nat)(i:Nat):(ints az).map (Value.int .i64)++ [.int .i64 i]=(ints (az++ [i])).map (Value.int .i64):=by simp[ints]
section
variable {b:ao}{ρ:Ren}{wl wB:Aa4}{pv bv tv:Value}{B lb l6 l7 bk p6 p7 cN cL n N0 NB NR:Nat}
theorem ag4{M:Sim.aaa}{w:Aa4}(h:(St b ρ wl pv bv tv B lb l6 l7 bk p6 p7 cN cL n NB wB) M w)(hr:∀a q,ρ a q->q<NR){az:List Nat}{ov:Value}{q i:Nat}(ho:w.ownsRow NR 3 1 ov az.length ((ints az).map (Value.int .i64)))(hO:∀g k c,ov=.slice (some g) k c->M.O g.block/\g.block≠q)
 (hq:w.heap[q]?=some (.cells #[.int .i64 i] 3))(AE:M.O q)(Hw:NR<=q):
 ∃(bM:Ren) (fR:Aa4) (ol:Value) (lq:Nat),bV C0 bM fR w/\ρ.le bM/\(∀a p,bM a p->ρ a p\/(wl.heap.size<=a/\NR<=p/\M.O p))/\ah bM ol ov/\fR.ownsRow wl.heap.size 3 1 ol az.length ((ints az).map (Value.int .i64))/\bM lq q/\
  fR.heap[lq]?=some (.cells #[.int .i64 i] 3)/\(∀(a:Nat) (o:Obj),wl.heap[a]?=some o->fR.heap[a]?=some o)/\wl.heap.size<=fR.heap.size:=by
 have eJ:=uP (o:=.cells #[.int .i64 i] 3) h.lw.core hq (fun a ha=>by have:=hr a q ha;omega) (.cells 3 ⟨rfl,fun j h1 h2=>by
  have:j=0:=by simp at h1;omega
  subst this;exact .int _ _⟩ (.inl rfl))
 rcases ho.2 with⟨rfl,h0⟩ | ⟨g,cap,cur,rfl,nC,hg,dX,kZ,fg,lT⟩
 ·refine⟨_,_,.slice none 0 0,_,eJ,xj _ _ _,?_,.sliceNone 0 0,⟨ho.1,.inl ⟨rfl,h0⟩⟩,.inr ⟨rfl,rfl⟩,jO,fun a o ha=>(kB (Aaf.1 ha).1).trans ha,by rw[fa];omega⟩
  rintro a p (ha| ⟨rfl,rfl⟩)
  ·exact .inl ha
  ·exact .inr ⟨Ac2 _,Hw,AE⟩
 ·obtain⟨Ul,Um⟩:=hO _ _ _ rfl
  simp only at Ul Um;obtain⟨u,hu,D9⟩:=Pt (ext (ext ρ wl.heap.size q) (wl.alloc (.cells #[.int .i64 i] 3)).heap.size g) cur az.length (ints az) lT;have jw:=uP (o:=.cells u 3) eJ hg (fun a ha=>by
   rcases ha with ha| ⟨_,e⟩
   ·have:=hr a g ha;omega
   ·exact Um e) (.cells 3 hu (.inl rfl))
  refine⟨_,_,.slice (some ⟨(wl.alloc (.cells #[.int .i64 i] 3)).heap.size,0,none⟩) az.length cap,wl.heap.size,jw,Ren.le_trans (xj _ _ _) (xj _ _ _),?_,.slice _ _ ⟨.inr ⟨rfl,rfl⟩,rfl,rfl⟩,⟨ho.1,.inr ⟨_,cap,u,rfl,by rw[fa];omega,jO,dX,kZ,hu.1.trans fg,D9⟩⟩,.inl (.inr ⟨rfl,rfl⟩),(kB (by rw[fa];omega)).trans jO,
   fun a o ha=>(kB (by rw[fa];have:=(Aaf.1 ha).1;omega)).trans ((kB (Aaf.1 ha).1).trans ha),by rw[fa,fa];omega⟩
  rintro a p ((ha| ⟨rfl,rfl⟩) | ⟨rfl,rfl⟩)
  ·exact .inl ha
  ·exact .inr ⟨Ac2 _,Hw,AE⟩
  ·exact .inr ⟨by rw[fa];omega,nC,Ul⟩
theorem ac9{c:Array Value}(hc:c.size≠0):¬lC (.cells c 3 (0,0)):=by
 rintro⟨_,h⟩;have h:c.size<=0:=h;omega
theorem amX{Stop:Sim.aaa->Abe->Aa4->Prop}{main:Bool}{M:Sim.aaa}{w:Aa4}(h:(St b ρ wl pv bv tv B lb l6 l7 bk p6 p7 cN cL n NB wB) M w)(hr:∀a q,ρ a q->q<NR)(hN:NB<=NR)(Df:NR<=w.heap.size){az:List Nat}(qm:az.length<=1000){ov:Value}{q i:Nat}(ho:w.ownsRow NR 3 1 ov az.length ((ints az).map (Value.int .i64)))(hO:∀g k c,ov=.slice (some g) k c->M.O g.block/\g.block≠q)
 (hq:w.heap[q]?=some (.cells #[.int .i64 i] 3))(AE:M.O q)(Hw:NR<=q){t:Array Value}(t34:t[34]?=some ov)(t36:t[36]?=some (.slice (some ⟨q,0,none⟩) 1 1)){k:List Item}{cs:List Abd}{rest:List Nat}
 (cont:∀v' bS aA,(St b ρ wl pv bv tv B lb l6 l7 bk p6 p7 cN cL n NB wB) bS aA->aA.ownsRow NR 3 1 v' (az++ [i]).length ((ints (az++ [i])).map (Value.int .i64))->(∀g k c,v'=.slice (some g) k c->bS.O g.block)->NR<=aA.heap.size->Walk Tryz.prog main Stop bS (rg 38 (ay t (some 37) v') (.inRegion qP rest::k) [] .normal cs) aA):
 Walk Tryz.prog main Stop M (rg 38 t (.inRegion qP (3::rest)::k) [] .normal cs) w:=by
 obtain⟨bM,fR,ol,lq,hW,hle,hinv,hv,aG,hlq,hcq,hold,aI⟩:=ag4 h hr ho hO hq AE Hw;obtain⟨u0,yn⟩:=Mb bM t;have Od:=EM yn hv t34;have hu2:=EM Od (i:=36) (v:=.slice (some ⟨lq,0,none⟩) 1 1) (v':=.slice (some ⟨q,0,none⟩) 1 1) (.slice 1 1 ⟨hlq,rfl,rfl⟩) t36;have afx:34<t.size:=(Aaf.1 t34).1
 have afy:36<t.size:=(Aaf.1 t36).1
 have l36:((u0.setIfInBounds 34 ol).setIfInBounds 36 (.slice (some ⟨lq,0,none⟩) 1 1)).getD 36 undef=.slice (some ⟨lq,0,none⟩) 1 1:=cJ (eM (by rw[Array.size_setIfInBounds,yn.1];exact afy))
 have l34:((u0.setIfInBounds 34 ol).setIfInBounds 36 (.slice (some ⟨lq,0,none⟩) 1 1)).getD 34 undef=ol:=cJ ((bL (by omega)).trans (eM (by rw[yn.1];exact afx)))
 obtain⟨o,oB,ab,hd,hg⟩:=ahD;obtain⟨ti,lU,hz,hs,MX⟩:=af9;have hf:Fits M bM fR:=by
  intro a p hp;rcases hinv a p hp with hp| ⟨_,_,hp⟩
  ·obtain⟨o,h1,h2⟩:=h.lw.fixed a p hp
   rcases h.lw.has a p hp with hx|hx
   ·exact .inl hx
   ·exact .inr ⟨hx,o,hold a o h1,h2⟩
  ·exact .inl hp
 refine Yb (M:=M) (ρ:=bM) (wl:=fR) (QL:=fun v aa=>aa.ownsRow wl.heap.size 3 1 v (az++ [i]).length ((ints (az++ [i])).map (Value.int .i64))) GJ oB (cf hg) rfl (ajp aar oB) hu2 hW (fun g oy=>?_) hf h.low (fun T=>?_) ?_
 ·have:g=0:=by simpa [G0] using oy
  subst this;exact hle _ _ h.lw.gL
 ·have au:(aZ fR T).cell? ⟨lq,0,none⟩=some (.int .i64 i):=lL (w:=aZ fR T) hcq rfl rfl
  obtain⟨v',w',h1,h2,h3,h4⟩:=run_append_own (P:=tw Tryz.prog (@Tw.F iQ)) (w:=aZ fR T) wl.heap.size 33 o.type 3 ti (.int .i64 0) 1 8 (by rw[jH];rfl) (by rw[ly];exact lU) hz hs MX rfl (by omega) ol az.length ((ints az).map (Value.int .i64)) aG ⟨lq,0,none⟩ 1 1 [.int .i64 i] rfl
   (fun j u hu=>by
     cases j with
     |zero=>simp at hu;subst hu;exact au
     |succ j=>simp at hu) (fun u hu=>by simp at hu;subst hu;rfl) (by unfold maxLen;omega) (by omega) aI
  refine⟨v',w',ako ab l34 l36 h1,?_⟩
  rw[agj] at h2;rw[List.length_append];exact h2
 ·intro v v' wy aE bS aA tH vC eJ bY gM DM
  have hb:∀a p,wl.heap.size<=a->aE a p->NR<=p:=by
   intro a p ha hp;rcases bY.new a p hp with hp| ⟨_,hp⟩
   ·rcases hinv a p hp with hp| ⟨_,hp,_⟩
    ·have:=h.lw.core.dA a p hp;omega
    ·exact hp
   ·omega
  obtain⟨cK,a1,q1,anH,rfl,rfl,ye,anO,ff,ic⟩:=Wv eJ vC tH (by simp) hb
  have kept:∀p,M.has p->p<NR->aA.heap[p]?=w.heap[p]?:=by
   intro p hp al;refine bY.im p hp fun a ha=>?_
   rcases hinv a p ha with ha| ⟨_,hx,_⟩
   ·obtain⟨o,h1,h2⟩:=h.lw.fixed a p ha
    exact⟨o,hold a o h1,h2⟩
   ·omega
  have nc:∀c,¬M.has c->c<w.heap.size->¬bS.has c:=by
   intro c h1 h2 hx;rcases hx with hx|hx
   ·rcases bY.On c hx with hx| ⟨hx,_⟩
    ·exact h1 (.inl hx)
    ·omega
   ·rw[bY.R] at hx;exact h1 (.inr hx)
  have fU:(St b ρ wl pv bv tv B lb l6 l7 bk p6 p7 cN cL n NB wB) bS aA:=h.to2 hr hN bY.fQ kept (fun p hp=>aaa.tx bY.R bY.O hp) DM ⟨nc _ h.nc.1 h.lc.1,nc _ h.nc.2 h.lc.2⟩
  rw[hd];refine cont _ bS aA fU cK (fun g k c e=>?_) (Ac3 Df bY.fQ)
  cases e;rcases gM _ _ ye with hx| ⟨_,o,Ht,fo⟩
  ·exact hx
  ·rw[ff] at Ht;cases Ht
   exact absurd fo (ac9 ic)
end
end Go.Jn
namespace Go.Jn
open Go Go.Proofs Go.Sim Go.Conc Go.Tw
set_option maxRecDepth 100000
noncomputable def Co:Code:=a8 pR
theorem Gb:pR=.seq (.region 13 tU false) Co:=rfl
theorem Ri:Co=.seq (.cond (.tmp 32) .skip (.exit 2)) (.block 3 (.seq (.region 14 IL false) (.region 15 qP false))):=rfl
section
variable {b:ao}{ρ:Ren}{wl wB:Aa4}{pv bv tv:Value}{B lb l6 l7 bk p6 p7 cN cL n N0 NB NR:Nat}{eU:Nat->Bool}{cs:List Abd}
def Kn(NR NB:Nat)(wB:Aa4)(cs:List Abd)(az:List Nat)(M:Sim.aaa)(g:Abe)(w:Aa4):Prop:=
 ∃(t:Array Value) (z:Value),g=rg 38 t [.inRegion tU [1],.code Co,.inLoop pR,.inBlock 2,.code sd] [] .normal cs/\t.size=41/\t[31]?=some (.tuple #[z,.bool false])/\RI NR az t M w/\
  (∀q,q<NB->w.heap[q]?=wB.heap[q]?)/\NB<=w.heap.size
theorem Xh{t:Array Value}{v:Value}{ok:Bool}{k:List Item}:Ad2 (rg 38 t (.inRegion tU [0,1]::k) [] .normal cs) (recvd true v ok)=rg 38 (t.setIfInBounds 31 (.tuple #[v,.bool ok])) (.inRegion tU [1]::k) [] .normal cs:=by
 obtain⟨o,ho,ab,hd,hg⟩:=OS;simp[Ad2,Frame.finish,ho,hd,recvd]
theorem SV{t:Array Value}{M:Sim.aaa}{w:Aa4}{az:List Nat}{z:Value}(hs:t.size=41)(hR:RI NR az t M w)(hS:(St b ρ wl pv bv tv B lb l6 l7 bk p6 p7 cN cL n NB wB) M w):
 Kn NR NB wB cs az M (Ad2 (rg 38 t (.inRegion tU [0,1]:: [.code Co,.inLoop pR,.inBlock 2,.code sd]) [] .normal cs) (recvd true z false)) w:=by
 refine⟨_,z,Xh,by simp[hs],eM (by omega),?_,fun q hq=>(hS.old q hq).2,hS.nb⟩
 exact hR.keep (bN.refl M w) (bL (by omega))
theorem recvs(hr:∀a q,ρ a q->q<NR)(hN:NB<=NR)(hn:n<=1000):∀(f:Nat) (az:List Nat) (t:Array Value) (M:Sim.aaa) (w:Aa4),f+az.length=n->t.size=41->t[30]?=some (.chan (some cN))->RI NR az t M w->(St b ρ wl pv bv tv B lb l6 l7 bk p6 p7 cN cL n NB wB) M w->
 Walk Tryz.prog true (nj (Pm.mk Tryz.prog n N0 cL cN eU X0 (Kn NR NB wB cs)) f az) M (rg 38 t [.code pR,.inLoop pR,.inBlock 2,.code sd] [] .normal cs) w:=by
 intro f;induction f with
 |zero=>
  intro az t M w hf hs t30 hR hS;rw[Gb];refine fF (gH ?_)
  rw[WX];obtain⟨o,ho,ab,hd,hg⟩:=OS;obtain⟨dir,hu⟩:=BG;obtain⟨ti,lU,hz,_⟩:=Ig;rw[<-Gb];refine .stop fun aa hk=>⟨rfl,rfl,_,FG ho (cf hg) rfl (PB t aa ab (cJ t30) hu lU hz),?_⟩
  exact SV hs (hR.keep hk rfl) (hS.keep hk)
 |succ f ih=>
  intro az t M w hf hs t30 hR hS;rw[Gb];refine fF (gH ?_)
  rw[WX];obtain⟨o,ho,ab,hd,hg⟩:=OS;obtain⟨dir,hu⟩:=BG;obtain⟨ti,lU,hz,_⟩:=Ig;rw[<-Gb];refine .stop fun aa hk=>⟨rfl,rfl,_,FG ho (cf hg) rfl (PB t aa ab (cJ t30) hu lU hz),SV hs (hR.keep hk rfl) (hS.keep hk),fun i hi UW aoF=>?_⟩
  show Walk Tryz.prog true (nj (Pm.mk Tryz.prog n N0 cL cN eU X0 (Kn NR NB wB cs)) f (az++ [i])) M (Ad2 (rg 38 t (.inRegion tU [0,1]:: [.code Co,.inLoop pR,.inBlock 2,.code sd]) [] .normal cs) (recvd true (.int .i64 i) true)) aa;rw[Xh];have oq:=hR.keep (t':=t.setIfInBounds 31 (.tuple #[.int .i64 i,.bool true])) hk (bL (by omega))
  have fU:=hS.keep hk;have zX:(t.setIfInBounds 31 (.tuple #[.int .i64 i,.bool true]))[31]?=some (.tuple #[.int .i64 i,.bool true]):=eM (by omega)
  have Mt:(t.setIfInBounds 31 (.tuple #[.int .i64 i,.bool true]))[30]?=some (.chan (some cN)):=(bL (by omega)).trans t30
  have cZ:(t.setIfInBounds 31 (.tuple #[.int .i64 i,.bool true])).size=41:=by simp[hs]
  clear hR hS ho ab hd hg
  revert oq fU zX Mt cZ
  generalize t.setIfInBounds 31 (.tuple #[.int .i64 i,.bool true])=t1;generalize aa=w at *;intro oq fU zX Mt cZ;obtain⟨o,ho,ab,hd,hg⟩:=V5;refine du (v:=.bool true) ho (cf hg) rfl (fun aa _=>⟨_,Ft t1 aa ab (cJ zX) rfl,eo⟩) ?_
  rw[hd];refine iA ?_
  rw[Ri];refine fF (BM (q:=true) (ib (by omega)) (Qq (BL (fF (gH ?_)))))
  rw[s14];have MB:=oq.keep (t':=ay t1 (some 32) (.bool true)) (bN.refl M w) (bL (by omega))
  have Ov:(ay t1 (some 32) (.bool true))[31]?=some (.tuple #[.int .i64 i,.bool true]):=(bL (by omega)).trans zX
  have Ou:(ay t1 (some 32) (.bool true))[30]?=some (.chan (some cN)):=(bL (by omega)).trans Mt
  have js:(ay t1 (some 32) (.bool true)).size=41:=by simp[ay,cZ]
  revert MB Ov Ou js
  generalize ay t1 (some 32) (.bool true)=t2;intro MB Ov Ou js;obtain⟨o,ho,ab,hd,hg⟩:=ahy;refine du (v:=.int .i64 i) ho (cf hg) rfl (fun aa _=>⟨_,Ft t2 aa ab (cJ Ov) rfl,eo⟩) ?_
  rw[hd];have MC:=MB.keep (t':=ay t2 (some 33) (.int .i64 i)) (bN.refl M w) (bL (by omega))
  have OF:aS (ay t2 (some 33) (.int .i64 i)) (.tmp 33)=.int .i64 i:=ib (by omega)
  have yv:(ay t2 (some 33) (.int .i64 i))[30]?=some (.chan (some cN)):=(bL (by omega)).trans Ou
  have ks:(ay t2 (some 33) (.int .i64 i)).size=41:=by simp[ay,js]
  revert MC OF yv ks
  generalize ay t2 (some 33) (.int .i64 i)=t3;intro MC OF yv ks;obtain⟨o,ho,ab,hd,hg⟩:=ahz;refine du ho (cf hg) rfl (fun aa _=>⟨_,(run_assign t3 aa ab).trans (by rw[OF]),eo⟩) ?_
  rw[hd];have MD:=MC.keep (t':=ay t3 (some 10) (.int .i64 i)) (bN.refl M w) (bL (by omega))
  have V8:aS (ay t3 (some 10) (.int .i64 i)) (.tmp 10)=.int .i64 i:=ib (by omega)
  have OX:(ay t3 (some 10) (.int .i64 i))[10]?=some (.int .i64 i):=eM (by omega)
  have n30:(ay t3 (some 10) (.int .i64 i))[30]?=some (.chan (some cN)):=(bL (by omega)).trans yv
  have ns:(ay t3 (some 10) (.int .i64 i)).size=41:=by simp[ay,ks]
  revert MD V8 OX n30 ns
  generalize ay t3 (some 10) (.int .i64 i)=t4;intro MD V8 OX n30 ns;obtain⟨⟨ov,u9,aG,hO⟩,hle,_⟩:=MD;refine iA (gH ?_)
  rw[s15];obtain⟨o,ho,ab,hd,hg⟩:=ahA;have e9:aS t4 (.tmp 9)=ov:=cJ u9;refine du ho (cf hg) rfl (fun aa _=>⟨_,(run_move t4 aa ab).trans (by rw[e9]),eo⟩) ?_
  rw[hd];have Lj:(ay t4 (some 34) ov)[34]?=some ov:=eM (by omega)
  have Lh:aS (ay t4 (some 34) ov) (.tmp 10)=.int .i64 i:=cJ ((bL (by omega)).trans OX)
  have Li:(ay t4 (some 34) ov)[30]?=some (.chan (some cN)):=(bL (by omega)).trans n30
  have Ls:(ay t4 (some 34) ov).size=41:=by simp[ay,ns]
  revert Lj Lh Li Ls
  generalize ay t4 (some 34) ov=t5;intro Lj Lh Li Ls;obtain⟨o,ho,ab,hd,hg⟩:=ahB;refine du ho (cf hg) rfl (fun aa _=>⟨_,(run_move t5 aa ab).trans (by rw[Lh]),eo⟩) ?_
  rw[hd];have LF:(ay t5 (some 35) (.int .i64 i))[34]?=some ov:=(bL (by omega)).trans Lj
  have jd:(ay t5 (some 35) (.int .i64 i)).getD 35 undef=.int .i64 i:=ib (by omega)
  have LD:(ay t5 (some 35) (.int .i64 i))[30]?=some (.chan (some cN)):=(bL (by omega)).trans Li
  have bh:(ay t5 (some 35) (.int .i64 i)).size=41:=by simp[ay,Ls]
  revert LF jd LD bh
  generalize ay t5 (some 35) (.int .i64 i)=t6;intro LF jd LD bh;obtain⟨o,ho,ab,hd,hg⟩:=ahC;refine BN ho (cf hg) rfl fun aa dg=>⟨_,_,_,.inl (akq t6 aa ab jd rfl),xe,?_⟩
  rw[hd];have Dg:=(fU.keep dg).alloc (.cells #[.int .i64 i] 3);have yo:NR<=aa.heap.size:=Ac3 hle dg.size;have cK:=Pb (aa:=aa.alloc (.cells #[.int .i64 i] 3)) aG fun g k c e=>(kB (Aeh (fU.low _ (.inl (hO g k c e))) dg.size)).trans (dg.kept _ (.inl (hO g k c e)))
  have hO1:∀g k c,ov=.slice (some g) k c->(M.grow aa (aa.alloc (.cells #[.int .i64 i] 3))).O g.block/\g.block≠aa.heap.size:=fun g k c e=>⟨.inl (hO g k c e),by have:=fU.low _ (.inl (hO g k c e));have:=dg.size;omega⟩
  have AE:(M.grow aa (aa.alloc (.cells #[.int .i64 i] 3))).O aa.heap.size:=.inr ⟨Ac2 _,by rw[fa];omega⟩
  have d34:(ay t6 (some 36) (.slice (some ⟨aa.heap.size,0,none⟩) 1 1))[34]?=some ov:=(bL (by omega)).trans LF
  have d36:(ay t6 (some 36) (.slice (some ⟨aa.heap.size,0,none⟩) 1 1))[36]?=some (.slice (some ⟨aa.heap.size,0,none⟩) 1 1):=eM (by omega)
  have d30:(ay t6 (some 36) (.slice (some ⟨aa.heap.size,0,none⟩) 1 1))[30]?=some (.chan (some cN)):=(bL (by omega)).trans LD
  have ds:(ay t6 (some 36) (.slice (some ⟨aa.heap.size,0,none⟩) 1 1)).size=41:=by simp[ay,bh]
  refine amX Dg hr hN (by rw[fa];omega) (by omega) cK hO1 jO AE yo d34 d36 ?_
  revert d30 ds
  generalize ay t6 (some 36) (.slice (some ⟨aa.heap.size,0,none⟩) 1 1)=t7;intro d30 ds v' pU aq MF tG hO3 aeY;obtain⟨o,ho,ab,hd,hg⟩:=ahE;have e37:aS (ay t7 (some 37) v') (.tmp 37)=v':=ib (by omega)
  have f30:(ay t7 (some 37) v')[30]?=some (.chan (some cN)):=(bL (by omega)).trans d30
  have fs:(ay t7 (some 37) v').size=41:=by simp[ay,ds]
  refine du ho (cf hg) rfl (fun aa _=>⟨_,(run_assign (ay t7 (some 37) v') aa ab).trans (by rw[e37]),eo⟩) ?_
  rw[hd];refine iA (Qn (Qo ?_))
  exact ih (az++ [i]) _ pU aq (by simp;omega) (by simp[ay,ds]) ((bL (by omega)).trans f30) ⟨⟨v',eM (by omega),tG,hO3⟩,aeY,fun e=>by simp at e⟩ MF
end
end Go.Jn
namespace Go.Jn
open Go Go.Proofs Go.Sim Go.Conc Go.Tw Go.RowKit
attribute [local go_sem] ze zd Oper.semAt_some
def FU(lb:Nat)(e:Exit)(a:Act)(_:Aa4):Prop:=e=.normal/\a.defers=[cQ]/\a.tmps.size=41/\a.tmps[1]?=some (.pointer (some ⟨lb,0,none⟩))
section
variable [Go.Tw.aR]
set_option maxRecDepth 100000 in
theorem ahead{w:Aa4}{b:ao}{pv bv tv:Value}{B lb:Nat}{x0:Value}(hB:B<=w.heap.size)(ai:bg w B b pv bv tv)(h:cj b 0=0)
 (c0: w.cell? ⟨lb,0,none⟩=some (.int .i64 b.ag))(c1: w.cell? ⟨lb,1,none⟩=some pv)(c2: w.cell? ⟨lb,2,none⟩=some bv)(c3: w.cell? ⟨lb,3,none⟩=some tv)(ae:lb<w.heap.size):
 eX prog [pT] (FU lb)
  ⟨(x0:: .pointer (some ⟨lb,0,none⟩):: .slice none 0 0:: .int .i64 0::undef::undef::undef::undef::undef::undef::undef::undef::undef::undef::undef::undef::undef::undef::undef::undef::undef::undef::undef::undef::undef::undef::undef::undef::undef::undef::undef::undef::undef::undef::undef::undef::undef::undef::undef::undef::undef:: []).toArray,[cQ]⟩ w:=by
 have aB:=Af3 (PO hB ai h);obtain⟨A1,n1,k1,rfl,-⟩:=ai.pieces.open_;obtain⟨A2,n2,k2,rfl,-⟩:=ai.aF.open_;obtain⟨A3,n3,k3,rfl,-⟩:=ai.aJ.open_;clear ai h;unfold eX eX;rw[then_self];refine(wpIn_wide (n:=0)).1 ?_
 simp only[pT,zJ,Tryz.f38,bO,a8,Afv]
 gi_wp2_with (first
  | (gi_at_call 119;refine(callsIn_wide.2 aB.out).mono ?_;rintro e w1 ⟨sv,g,rfl,aG,da,hg,ae⟩
     obtain⟨A9,m9,c9,rfl⟩:=j8 aG;have aN:w.heap.size<=w1.heap.size:=ae.size;clear ae aG da hg))
 exact⟨rfl,rfl,rfl,rfl⟩
theorem ahc(u:Array Value)(h:u.size=41):∃x0 x1 x2 x3 x4 x5 x6 x7 x8 x9 Jq Jr Js Jt Ju Jv Jw Jx Jy Jz JA JB JC JD JE JF JG JH JI JJ JK JL JM JN JO JP JQ JR JS JU JV:Value,u=(x0::x1::x2::x3::x4::x5::x6::x7::x8::x9::Jq::Jr::Js::Jt::Ju::Jv::Jw::Jx::Jy::Jz::JA::JB::JC::JD::JE::JF::JG::JH::JI::JJ::JK::JL::JM::JN::JO::JP::JQ::JR::JS::JU::JV:: []).toArray:=by
 obtain⟨l⟩:=u;simp only[List.size_toArray] at h;match l,h with
 |x0::x1::x2::x3::x4::x5::x6::x7::x8::x9::Jq::Jr::Js::Jt::Ju::Jv::Jw::Jx::Jy::Jz::JA::JB::JC::JD::JE::JF::JG::JH::JI::JJ::JK::JL::JM::JN::JO::JP::JQ::JR::JS::JU::JV:: [],_=>exact⟨x0,x1,x2,x3,x4,x5,x6,x7,x8,x9,Jq,Jr,Js,Jt,Ju,Jv,Jw,Jx,Jy,Jz,JA,JB,JC,JD,JE,JF,JG,JH,JI,JJ,JK,JL,JM,JN,JO,JP,JQ,JR,JS,JU,JV,rfl⟩
set_option maxRecDepth 100000 in
theorem alz{w:Aa4}{base n:Nat}{ol:Value}{zs:List Int}(ho:w.ownsRow base 3 1 ol n (zs.map (Value.int .i64)))(hn:n<=100000)(hb:base<=w.heap.size){u:Array Value}(hu:u.size=41)(h9:u[9]?=some ol):
 (Code.region 16 Bg false).wp prog (fun e a w'=>(e=.normal/\a.defers=[cQ]\/e=.ret)/\(e=.normal/\a.tmps.size=41/\a.tmps[9]?=some ol/\w'.ownsRow base 3 1 ol n ((ga zs).map (Value.int .i64)))) ⟨u,[cQ]⟩ w:=by
 have aB:=Af3 (PW ho hn hb);obtain⟨x0,x1,x2,x3,x4,x5,x6,x7,x8,x9,Jq,Jr,Js,Jt,Ju,Jv,Jw,Jx,Jy,Jz,JA,JB,JC,JD,JE,JF,JG,JH,JI,JJ,JK,JL,JM,JN,JO,JP,JQ,JR,JS,JU,JV,rfl⟩:=ahc u hu;cases h9;clear ho hu;refine(wpIn_wide (n:=0)).1 ?_
 simp only[Bg,sd,ub,vZ,nP,zJ,Tryz.f38,bO,a8,opsOf,Afv]
 gi_wp2_with (first
  | (gi_at_call 101;refine(callsIn_wide.2 aB.out).mono ?_;rintro e w1 ⟨rfl,aG,ae⟩
     have HO:=Af3 aG;clear aG ae))
 exact HO.out
end
end Go.Jn
namespace Go.Jn
open Go Go.Proofs Go.Sim Go.Conc Go.Tw
set_option maxRecDepth 100000
def allM(w:Aa4):Sim.aaa:=⟨fun q=>q<w.heap.size,fun _=>False⟩
theorem kA{w:Aa4}{q:Nat}:(allM w).has q↔q<w.heap.size:=⟨fun h=>h.elim id False.elim,.inl⟩
theorem zF{C:bQ}{ρ:Ren}{wl w:Aa4}(h:bV C ρ wl w):Fits (allM w) ρ wl:=fun a q hq=>.inl (h.dc a q hq)
structure J5(b:ao)(σ:Ren)(wl:Aa4)(pv bv tv:Value)(B:Nat)(arg:Value)(w:Aa4):Prop where
 core:bV C0 σ wl w
 gL:σ 0 0
 nb:bJ wl.heap
 fixed:∀a q,σ a q->∃o,wl.heap[a]?=some o/\lC o
 hB:B<=wl.heap.size
 book:bg wl B b pv bv tv
 arg:ah σ (.agg #[.int .i64 b.ag,pv,bv,tv]) arg
theorem WE{σ:Ren}{a b c d x:Value}(h:ah σ (.agg #[a,b,c,d]) x):∃a' b' c' d',x=.agg #[a',b',c',d']/\ah σ a a'/\ah σ b b'/\ah σ c c'/\ah σ d d':=by
 cases h with
 | @agg _ x' hx h1=>
   obtain⟨l⟩:=x';simp only[List.size_toArray] at hx;match l,hx,h1 with
   | [a',b',c',d'],_,h1=>exact⟨a',b',c',d',rfl,h1 0 (by simp) (by simp),h1 1 (by simp) (by simp),h1 2 (by simp) (by simp),h1 3 (by simp) (by simp)⟩
theorem aj5{σ:Ren}{A:Option Addr}{n c:Nat}{x:Value}(h:ah σ (.slice A n c) x):∃A',x=.slice A' n c:=by
 cases h with
 |sliceNone=>exact⟨_,rfl⟩
 |slice=>exact⟨_,rfl⟩
 |sliceDead=>exact⟨_,rfl⟩
structure Le(b:ao)(ρ:Ren)(wl:Aa4)(pv bv tv:Value)(B lb bk n NB:Nat)(wB:Aa4)(w:Aa4):Prop where
 core:bV C0 ρ wl w
 gL:ρ 0 0
 Wc:bJ wl.heap
 fixed:∀a q,ρ a q->∃o,wl.heap[a]?=some o/\lC o
 rb:ρ lb bk
 hB:B<=wl.heap.size
 book:bg wl B b pv bv tv
 c0: wl.cell? ⟨lb,0,none⟩=some (.int .i64 b.ag)
 c1: wl.cell? ⟨lb,1,none⟩=some pv
 c2: wl.cell? ⟨lb,2,none⟩=some bv
 c3: wl.cell? ⟨lb,3,none⟩=some tv
 hb:∃bc e fb A c,w.heap[bk]?=some (.cells bc e fb)/\bc[2]?=some (.slice A n c)
 old:∀q,q<NB->w.heap[q]?=wB.heap[q]?
 nb:NB<=w.heap.size
def Rq(b:ao)(pv bv tv:Value)(B NB:Nat)(wB:Aa4)(cs:List Abd)(_:Sim.aaa)(g:Abe)(w:Aa4):Prop:=
 ∃(t:Array Value) (bk lb:Nat) (ρ:Ren) (wl:Aa4),g=rg 38 t [.code (.seq (.region 4 iP true) nP)] [] .normal cs/\t.size=41/\t[1]?=some (.pointer (some ⟨bk,0,none⟩))/\Le b ρ wl pv bv tv B lb bk b.aF.length NB wB w
theorem amh(x p s i:Value):((((#[x]++Aeo 40 undef:Array Value).setIfInBounds 1 p).setIfInBounds 2 s).setIfInBounds 3 i)=(x::p::s::i::undef::undef::undef::undef::undef::undef::undef::undef::undef::undef::undef::undef::undef::undef::undef::undef::undef::undef::undef::undef::undef::undef::undef::undef::undef::undef::undef::undef::undef::undef::undef::undef::undef::undef::undef::undef::undef:: []).toArray:=by
 have e:(#[x]++Aeo 40 undef:Array Value)=(x::undef::undef::undef::undef::undef::undef::undef::undef::undef::undef::undef::undef::undef::undef::undef::undef::undef::undef::undef::undef::undef::undef::undef::undef::undef::undef::undef::undef::undef::undef::undef::undef::undef::undef::undef::undef::undef::undef::undef::undef:: []).toArray:=by
  apply Array.ext';simp[List.replicate]
 rw[e];simp
theorem Zs{ρ:Ren}{x0 x:Value}(hx:ah ρ x0 x):aP ρ (#[x0]++Aeo 40 undef) (#[x]++Aeo 40 undef):=by
 have h1:aP ρ #[x0] #[x]:=⟨rfl,fun i h1 h2=>by
  have:i=0:=by simp at h1;omega
  subst this;exact hx⟩
 have h2:aP ρ (Aeo 40 undef) (Aeo 40 undef):=⟨rfl,fun i h1 h2=>by rw[Array.getElem_replicate];exact .undef⟩
 exact bU.append h1 h2
theorem alK{ρ:Ren}{x0 x p p':Value}(hx:ah ρ x0 x)(hp:ah ρ p p'):
 aP ρ ((((#[x0]++Aeo 40 undef:Array Value).setIfInBounds 1 p).setIfInBounds 2 (.slice none 0 0)).setIfInBounds 3 (.int .i64 0)) (ay (ay (ay (#[x]++Aeo 40 undef:Array Value) (some 1) p') (some 2) (.slice none 0 0)) (some 3) (.int .i64 0)):=by
 have h0:=Zs hx
 revert h0
 generalize (#[x0]++Aeo 40 undef:Array Value)=U;generalize (#[x]++Aeo 40 undef:Array Value)=V;intro h0;exact((h0.set 1 hp).set 2 (.sliceNone 0 0)).set 3 (.int _ _)
theorem ag3{b:ao}{wl:Aa4}{pv bv tv x0:Value}{B lb:Nat}(hB:B<=wl.heap.size)(ai:bg wl B b pv bv tv)(h:cj b 0=0)
 (c0: wl.cell? ⟨lb,0,none⟩=some (.int .i64 b.ag))(c1: wl.cell? ⟨lb,1,none⟩=some pv)(c2: wl.cell? ⟨lb,2,none⟩=some bv)(c3: wl.cell? ⟨lb,3,none⟩=some tv)(ae:lb<wl.heap.size)(T:Tape):
 eX (@Tw.prog iQ) [pT] (FU lb) ⟨((((#[x0]++Aeo 40 undef:Array Value).setIfInBounds 1 (.pointer (some ⟨lb,0,none⟩))).setIfInBounds 2 (.slice none 0 0)).setIfInBounds 3 (.int .i64 0)),[cQ]⟩ (aZ wl T):=by
 letI:=iQ
 rw[amh];exact ahead (b:=b) (pv:=pv) (bv:=bv) (tv:=tv) (B:=B) (lb:=lb) (x0:=x0) hB (ai.still fun _ _=>rfl) h c0 c1 c2 c3 ae
theorem alH{b:ao}{ρ:Ren}{lz wB:Aa4}{pv bv tv:Value}{B lb bk NB:Nat}{M1:Sim.aaa}{w1:Aa4}{cs:List Abd}(ab:cj b 0=0)(hP:Le b ρ lz pv bv tv B lb bk b.aF.length NB wB w1)
 (hM:∀q,M1.has q->q<w1.heap.size)(oq:∀a q,ρ a q->M1.O q)(zY:∀q,q<NB->M1.O q){u T:Array Value}(Eb:aP ρ u T)(hl:∀T,eX (@Tw.prog iQ) [pT] (FU lb) ⟨u,[cQ]⟩ (aZ lz T)):
 Walk Tryz.prog true (Rq b pv bv tv B NB wB cs) M1 (rg 38 T [.code (.seq pT (.seq (.region 4 iP true) nP))] [] .normal cs) w1:=by
 obtain⟨hW,k7,Hr,lP,mF,om,Hb,c0,c1,Gv,c3,⟨bc,be,bf,bA,bC,ad0,MU⟩,old,tq⟩:=hP;refine pieces (S:=⟨.seq (.region 4 iP true) nP,[],[],cs,.normal⟩) (cs:=[pT]) (f:=38) (a:=⟨u,[cQ]⟩) (fun c hc=>?_) rfl rfl (QL:=FU lb) (fun e a w h=>.inl h.1) hl hW k7 (fun a q hq=>.inl (oq a q hq)) hM Hr Eb ?_
 ·simp only[Aef,Aeg,or_false] at hc
  subst hc;exact aay
 ·rintro e bB aq pU bH Jl ep D' ⟨rfl,Ao,aI,h1⟩ bY jw nD ae1 kG dM AK hD
  rw[Ao] at hD;rw[xf hD];have kept:∀q,M1.has q->ep.heap[q]?=w1.heap[q]?:=fun q hq=>bY.im q hq fun a ha=>lP a q ha
  refine⟨fun _=>?_,fun he=>by cases he⟩
  refine .stop fun ky fh=>?_
  have Nq:∀q,M1.has q->ky.heap[q]?=w1.heap[q]?:=fun q hq=>(fh.kept q (aaa.tx bY.R bY.O hq)).trans (kept q hq)
  refine⟨Jl,bk,lb,ρ,lz,rfl,AK.1.symm.trans aI,PU jw AK (bY.le _ _ mF) h1,?_⟩
  exact⟨ta hW (Ac3 bY.fQ fh.size) fun a q hq=>Nq q (.inl (oq a q hq)),k7,Hr,lP,mF,om,Hb,c0,c1,Gv,c3,⟨bc,be,bf,bA,bC,(Nq bk (.inl (oq _ _ mF))).trans ad0,MU⟩,fun q hq=>(Nq q (.inl (zY q hq))).trans (old q hq),Ac3 tq (Ac3 bY.fQ fh.size)⟩
theorem stA{b:ao}{σ:Ren}{wl:Aa4}{pv bv tv arg:Value}{B:Nat}{w:Aa4}{cs:List Abd}(h:J5 b σ wl pv bv tv B arg w)(ab:cj b 0=0):
 Walk Tryz.prog true (Rq b pv bv tv B w.heap.size w cs) (allM w) (rg 38 (#[arg]++Aeo 40 undef) [.code (.seq (.region 0 p0 false) (.seq pT (.seq (.region 4 iP true) nP)))] [] .normal cs) w:=by
 letI:=iQ
 obtain⟨a',ix,ia,fD,rfl,ra,rp,Ps,rt⟩:=WE h.arg;obtain⟨A2,n2,c2,ebv,en2,-⟩:=h.book.aF.open_;obtain⟨Yj,abH⟩:=aj5 (by rw[ebv] at Ps;exact Ps)
 refine fF (gH ?_)
 rw[s0];obtain⟨o,ho,bG,hd,hg⟩:=m00;have vB:(#[Value.agg #[a',ix,ia,fD]]++Aeo 40 undef:Array Value).getD 0 undef=.agg #[a',ix,ia,fD]:=by simp[Array.getD_eq_getD_getElem?]
 refine BN ho (cf hg) rfl fun aa hk=>⟨_,_,_,.inl (akp _ aa bG vB),xe,?_⟩
 rw[hd];have aea:(Value.agg #[a',ix,ia,fD]).cells=#[a',ix,ia,fD]:=rfl;rw[aea];have hM:∀q,((allM w).grow aa (aa.alloc (.cells #[a',ix,ia,fD] 26))).has q->q<(aa.alloc (.cells #[a',ix,ia,fD] 26)).heap.size:=by
  rintro q ((hq|hq) |hq)
  ·have hq:q<w.heap.size:=hq
   have:=hk.size;rw[fa];omega
  ·exact hq.2
  ·exact hq.elim
 have zY:∀q,q<w.heap.size->((allM w).grow aa (aa.alloc (.cells #[a',ix,ia,fD] 26))).O q:=fun q hq=>.inl hq
 have G8:((allM w).grow aa (aa.alloc (.cells #[a',ix,ia,fD] 26))).O aa.heap.size:=.inr ⟨Ac2 _,by rw[fa];omega⟩
 have old:∀q,q<w.heap.size->(aa.alloc (.cells #[a',ix,ia,fD] 26)).heap[q]?=w.heap[q]?:=fun q hq=>(kB (Aeh hq hk.size)).trans (hk.kept q (.inl hq))
 have Ub:bV C0 σ wl (aa.alloc (.cells #[a',ix,ia,fD] 26)):=ta h.core (by rw[fa];have:=hk.size;omega) fun a q hq=>old q (h.core.dc a q hq)
 have hW:=uP (o:=.cells #[.int .i64 b.ag,pv,bv,tv] 26 (0,4)) Ub (q:=aa.heap.size) jO (fun a ha=>by have:=h.core.dc a _ ha;have:=hk.size;omega) (.cells 26 ⟨rfl,fun j h1 h2=>by
  have:j=0\/j=1\/j=2\/j=3:=by simp at h1;omega
  have hle:=xj σ wl.heap.size aa.heap.size;rcases this with rfl|rfl|rfl|rfl
  ·exact ra.mono hle
  ·exact rp.mono hle
  ·exact Ps.mono hle
  ·exact rt.mono hle⟩ (.inr ⟨rfl,by simp⟩))
 obtain⟨lz,AO⟩:∃lz,lz=wl.alloc (.cells #[.int .i64 b.ag,pv,bv,tv] 26 (0,4)):=⟨_,rfl⟩
 obtain⟨lb,tE⟩:∃lb,lb=wl.heap.size:=⟨_,rfl⟩
 obtain⟨bk,ai⟩:∃bk,bk=aa.heap.size:=⟨_,rfl⟩
 have Av:lz.heap[lb]?=some (.cells #[.int .i64 b.ag,pv,bv,tv] 26 (0,4)):=by rw[AO,tE];exact jO
 have MV:(aa.alloc (.cells #[a',ix,ia,fD] 26)).heap[bk]?=some (.cells #[a',ix,ia,fD] 26):=by rw[ai];exact jO
 have lP:∀a q,ext σ lb bk a q->∃o,lz.heap[a]?=some o/\lC o:=by
  rintro a q (ha| ⟨rfl,rfl⟩)
  ·obtain⟨o,h1,h2⟩:=h.fixed a q ha
   exact⟨o,by rw[AO];exact(kB (h.core.dA _ _ ha)).trans h1,h2⟩
  ·exact⟨_,Av,⟨rfl,by simp⟩⟩
 have Hr:bJ lz.heap:=by rw[AO];exact h.nb.push fun h=>h
 have om:B<=lz.heap.size:=by rw[AO,fa];exact Nat.le_succ_of_le h.hB
 have Hb:bg lz B b pv bv tv:=by rw[AO];exact h.book.still ((Still.refl wl).alloc h.hB _)
 have aoB:w.heap.size<=bk:=by rw[ai];exact hk.size
 rw[<-AO,<-tE,<-ai] at hW;rw[<-ai] at G8 |-
 have tq:w.heap.size<=(aa.alloc (.cells #[a',ix,ia,fD] 26)).heap.size:=by rw[fa];have:=hk.size;omega
 revert hM zY G8 old hW MV tq
 generalize (allM w).grow aa (aa.alloc (.cells #[a',ix,ia,fD] 26))=M1;clear Ub;generalize aa.alloc (.cells #[a',ix,ia,fD] 26)=w1;intro hM zY old G8 hW MV tq;obtain⟨o,ho,bG,hd,hg⟩:=m01;refine du ho (cf hg) rfl (fun aa _=>⟨_,run_assign _ aa bG,eo⟩) ?_
 rw[hd];obtain⟨o,ho,bG,hd,hg⟩:=m02;refine du ho (cf hg) rfl (fun aa _=>⟨_,run_assign _ aa bG,eo⟩) ?_
 rw[hd];refine iA ?_
 obtain⟨x0,vF⟩:=rB (ext σ lb bk) (.agg #[a',ix,ia,fD]);have c0: lz.cell? ⟨lb,0,none⟩=some (.int .i64 b.ag):=lL Av rfl rfl;have c1: lz.cell? ⟨lb,1,none⟩=some pv:=lL Av rfl rfl;have Gv: lz.cell? ⟨lb,2,none⟩=some bv:=lL Av rfl rfl;have c3: lz.cell? ⟨lb,3,none⟩=some tv:=lL Av rfl rfl;have ae:lb<lz.heap.size:=(Aaf.1 Av).1
 have Eb:=alK (ρ:=ext σ lb bk) (p:=.pointer (some ⟨lb,0,none⟩)) (p':=.pointer (some ⟨bk,0,none⟩)) vF (.ptr ⟨.inr ⟨rfl,rfl⟩,rfl,rfl⟩);exact alH ab ⟨hW,.inl h.gL,Hr,lP,.inr ⟨rfl,rfl⟩,om,Hb,c0,c1,Gv,c3,⟨_,_,_,Yj,c2,MV,by rw[abH,<-en2];rfl⟩,old,tq⟩ hM (fun a q hq=>by
  rcases hq with hq| ⟨_,rfl⟩
  ·exact zY q (h.core.dc _ _ hq)
  ·exact G8) zY Eb (ag3 om Hb ab c0 c1 Gv c3 ae)
end Go.Jn
namespace Go.Jn
open Go Go.Proofs Go.Sim Go.Conc
section
variable {P:Aa6}{main:Bool}
variable {f:FuncId}{t:Array Value}{k:List Item}{D:List Deferred}{kd:CallKind}{cs:List Abd}
theorem alW{ops:Array Aev}{i:Nat}{rest:List Nat}{o:Aev}(ho:ops[i]?=some o)(hg:Afi o (Aew ops t)=false)(hd:o.dst=none)(aa:Aa4):
 Adn P main (rg f t (.inRegion ops (i::rest)::k) D .normal cs) aa=.go (rg f t (.inRegion ops rest::k) D .normal cs) aa #[]:=by
 simp[Adn,stepG.exec,ho,hg,Frame.finish,hd]
theorem Xw{ops:Array Aev}{i:Nat}{rest:List Nat}{o:Aev}{v:Value}(ho:ops[i]?=some o)(hg:Afi o (Aew ops t)=true)(ab:o.op=.assign (.const v))(aa:Aa4):
 ∃es,Adn P main (rg f t (.inRegion ops (i::rest)::k) D .normal cs) aa=.go (rg f (ay t o.dst v) (.inRegion ops rest::k) D .normal cs) aa es:=
 ⟨_,Jd ho hg rfl (es:=#[]) (by rw[execOp,ab];rfl)⟩
end
def ml(p:Aa6):Nat->Abe->Abe->Prop
 |0,g,cg=>g=cg
 |n+1,g,cg=>g.callers≠ []/\∃dG,(∀w,∃es,Adn p true g w=.go dG w es)/\ml p n dG cg
theorem ml.trans{p:Aa6}{b:Nat}{y z:Abe}(k:ml p b y z):∀ {a:Nat} {x:Abe},ml p a x y->ml p (a+b) x z
 |0,x,h=>by cases(show x=y from h);rw[Nat.zero_add];exact k
 |a+1,x,h=>by rw[Nat.succ_add];exact⟨h.1,h.2.choose,h.2.choose_spec.1,ml.trans k h.2.choose_spec.2⟩
theorem ml.cons{p:Aa6}{n:Nat}{x y z:Abe}(hc:x.callers≠ [])(h:∀w,∃es,Adn p true x w=.go y w es)(k:ml p n y z):ml p (n+1) x z:=⟨hc,y,h,k⟩
noncomputable abbrev lp:Aa6:= @Tw.prog jg
theorem GO:lp.funcs[21]?=some stub:=by
 letI:=jg
 exact(congrArg (·[21]?) Tw.Pe).trans Tw.zh
section
variable {x:Array Value}{fr:Abd}{cs:List Abd}
theorem XE:ml lp 3 (aO (Afh lp 21 x .normal) (fr::cs))
 (rg 21 (ay (x++Aeo (1 - x.size) undef) (some 1) (.bool true)) (.inRegion kg [1,2]:: [.code .ret]) [] .normal (fr::cs)):=by
 rw[zQ GO (c:=.seq (.region 0 kg false) .ret) rfl x .normal];refine .cons (by simp) (fun w=>⟨#[],by simp[Adn,stepG.exec];rfl⟩) ?_
 refine .cons (by simp) (fun w=>⟨#[],by simp[Adn,stepG.exec];rfl⟩) ?_
 refine .cons (by simp) (fun w=>Xw (o:=kg[0]) rfl rfl rfl w) ?_
 rfl
theorem alZ(hx:x.size<=1):ml lp 8 (aO (Afh lp 21 x .normal) (fr::cs)) (aO (fr.finish (.bool true)) cs):=by
 refine ml.trans (a:=3) (b:=5) ?_ XE
 have hs:(x++Aeo (1 - x.size) undef).size=1:=by simp;omega
 generalize (x++Aeo (1 - x.size) undef)=t at hs;have e1:ay t (some 1) (.bool true)=t:=by
  show t.setIfInBounds 1 _=t;rw[Array.setIfInBounds_eq_of_size_le (by omega)]
 rw[e1];have hy:Afi kg[1] (Aew kg t)=false:=by
  have:t[1]?=none:=Aan (by omega)
  show(Aew kg t 0==some true)=false;unfold Aew;show((match(t[1]?:Option Value) with|some (Value.bool b)=>some b|_=>none)==some true)=false
  rw[this];rfl
 refine .cons (by simp) (fun w=>⟨#[],alW (o:=kg[1]) rfl hy rfl w⟩) ?_
 refine .cons (by simp) (fun w=>Xw (o:=kg[2]) rfl rfl rfl w) ?_
 have e0:(ay t (some 0) (.bool true)).getD 0 undef=.bool true:=by simp[ay,hs]
 have e2:ay t kg[2].dst (.bool true)=ay t (some 0) (.bool true):=rfl;rw[e2]
 revert e0
 generalize ay t (some 0) (.bool true)=t2;intro e0;refine .cons (by simp) (fun w=>⟨#[],by simp[Adn,stepG.exec];rfl⟩) ?_
 refine .cons (by simp) (fun w=>⟨#[],by simp[Adn,stepG.exec];rfl⟩) ?_
 refine .cons (by simp) (fun w=>⟨#[],?_⟩) rfl
 have e:unwind lp true ⟨21,t2,[.code .ret],[],.returning,.normal,none⟩ (fr::cs) none w=.go (aO (fr.finish (.bool true)) cs) w #[]:=by
  have hr:(results stub t2).runT lp w #[]=(.ok (.bool true) w,#[]):=by
   have e:results stub t2=Sem.pure (.bool true):=by
    unfold results;rw[show stub.results=#[.tmp 0] from rfl]
    simp only[Aak,List.mapM_cons,List.mapM_nil,e0];rfl
   rw[e];rfl
  unfold unwind;simp only[GO,hr,ud,GStep.after,doReturn];rfl
 exact e
theorem al0(hx:2<=x.size)(w:Aa4):∃o aa es,Adn lp true (rg 21 (ay (x++Aeo (1 - x.size) undef) (some 1) (.bool true)) (.inRegion kg [1,2]:: [.code .ret]) [] .normal (fr::cs)) w=.ended o aa es:=by
 have hs:2<=(x++Aeo (1 - x.size) undef).size:=by rw[Array.size_append,Array.size_replicate];omega
 generalize (x++Aeo (1 - x.size) undef)=t at hs;have hy:Afi kg[1] (Aew kg (ay t (some 1) (.bool true)))=true:=by
  have:(ay t (some 1) (.bool true))[1]?=some (.bool true):=Array.getElem?_setIfInBounds_self_of_lt (by omega)
  show(Aew kg (ay t (some 1) (.bool true)) 0==some true)=true;unfold Aew;show((match((ay t (some 1) (Value.bool true))[1]?:Option Value) with|some (Value.bool b)=>some b|_=>none)==some true)=true
  rw[this];rfl
 generalize (ay t (some 1) (.bool true))=t2 at hy;have ho:kg[1]?=some kg[1]:=rfl;have hx:∃h,(execOp (aS t2) kg[1]).runT lp w #[]=(.halt (.stuck h) w,#[]):=⟨_,rfl⟩
 obtain⟨h,hx⟩:=hx;have e1:Frame.eval ⟨21,t2,.inRegion kg [1,2]:: [.code .ret],[],.run,.normal,none⟩=aS t2:=tf;simp only[Adn,stepG.exec,ho,Option.map_some,hy,Afv,if_true,stepG.oper,Frame.oper?,stepG.apply,e1,hx,GStep.after];exact⟨_,_,_,rfl⟩
end
end Go.Jn
namespace Go.Jn
open Go Go.Proofs Go.Sim Go.Conc
def ri(w:Aa4):Prop:=∃fr,w.heap[0]?=some (.cells #[.func (.func 234) #[] #[],.func (.func 236) #[] #[]] 146 fr)
def Cq:Prop:=∀ {gs:Array Abe} {w:Aa4} {t:Trace} {q:Nat->Nat} {x:Array Value} {fr:Abd} {cs:List Abd} (sl:Option (Nat×Nat)),x.size<=1->ri w->
 Fr Tryz.prog gs w t q (aO (Afh Tryz.prog 21 x .normal) (fr::cs))->
 ∃N aT w' bm t' q',runNT Tryz.prog N (crowd gs w sl) t=(.next (crowd aT w' bm),t')/\Fr Tryz.prog aT w' t' q' (aO (fr.finish (.bool true)) cs)/\Base w w'/\∀b,b<w.heap.size->w'.heap[b]?=w.heap[b]?
abbrev ni(S:Tl):=Rel Tryz.prog (@Tw.F jg) C1 S G0
theorem ni.all{S:Tl}{M:Sim.aaa}{ρ:Ren}{g g':Abe}{w w':Aa4}(h:ni S M ρ g w g' w'):ni S (allM w') ρ g w g' w':=
 ⟨h.gr,h.core,h.gL,zF h.core,fun _ hb=>kA.1 hb⟩
def mZ(ρ:Ren)(wl:Aa4)(b:Nat):Prop:=∀a,ρ a b->∃o,wl.heap[a]?=some o/\lC o
theorem CY{M bS:Sim.aaa}{ρ aE:Ren}{wl w' aa aA:Aa4}(h:gX M ρ wl w' bS aE aa aA){b:Nat}(hb:b<w'.heap.size)(hf:mZ ρ wl b):mZ aE aa b:=fun a ha=>by
 rcases h.new a b ha with x| ⟨_,y⟩
 ·obtain⟨o,ho,fo⟩:=hf a x
  exact⟨o,h.kE a o ho fo,fo⟩
 ·omega
theorem amq{S:Tl}{ρ:Ren}{g g':Abe}{wl w':Aa4}(hR:ni S (allM w') ρ g wl g' w')
 (dL:∃b fr aV cs bh,g=aO fr cs/\g'=aO aV bh/\ea C1 S ρ b fr aV/\Below C1 S ρ b cs bh)
 {nx:Tape->Abe×Aa4}(hn:∀T:Tape,(∃es,Adn lp true g (aZ wl T)=.go (nx T).1 (nx T).2 es)/\Plain (nx T).1)
 {gs:Array Abe}{t:Trace}{q:Nat->Nat}(sl:Option (Nat×Nat))(hF:Fr Tryz.prog gs w' t q g'):
 ∃N iK aA nQ nS sc en T aE,runNT Tryz.prog N (crowd gs w' sl) t=(.next (crowd iK aA nQ),nS)/\Fr Tryz.prog iK aA nS sc en/\ni S (allM aA) aE (nx T).1 (nx T).2 en aA/\Base w' aA/\
  (∀b,b<w'.heap.size->mZ ρ wl b->aA.heap[b]?=w'.heap[b]?/\mZ aE (nx T).2 b):=by
 have key:∀aa:Aa4,∃y:Abe×Aa4×Array Event,bN (allM w') w' aa->∃(T:Tape) (aE:Ren),Adn Tryz.prog true g' aa=.go y.1 y.2.1 y.2.2/\eO (allM w') aa y.2.1 y.2.2/\
  ni S ((allM w').grow aa y.2.1) aE (nx T).1 (nx T).2 y.1 y.2.1/\gX (allM w') ρ wl aa ((allM w').grow aa y.2.1) aE (nx T).2 y.2.1:=by
  intro aa;by_cases k:bN (allM w') w' aa
  ·obtain⟨T,aE,en,aA,es,a1,a2,a3,a4⟩:=WG abO (hR.keep k) dL hn true
   exact⟨(en,aA,es),fun _=>⟨T,aE,a1,a2,a3,a4⟩⟩
  ·exact⟨(g',aa,#[]),fun x=>absurd x k⟩
 have bz:g'.status=.running:=by obtain⟨b,fr,aV,cs,bh,_,rfl,_⟩:=dL;rfl
 have hW:Walk Tryz.prog true (fun bS en aA=>∃(T:Tape) (aE:Ren),ni S bS aE (nx T).1 (nx T).2 en aA/\gX (allM w') ρ wl w' bS aE (nx T).2 aA) (allM w') g' w':=by
  refine .step bz (fun aa=>Adi (key aa)) (fun aa k=>?_) fun aa k=>.stop fun aq k₂=>?_
  ·obtain⟨T,aE,a1,a2,a3,a4⟩:=Adj (key aa) k
   exact⟨a1,a2⟩
  ·obtain⟨T,aE,a1,a2,a3,a4⟩:=Adj (key aa) k
   exact⟨T,aE,a3.keep k₂,((gX.keep k).trans a4 hR.low).trans (gX.keep k₂) hR.low⟩
 obtain⟨N,iK,bS,en,aA,nQ,nS,sc,r1,_,⟨⟨T,aE,xB,bY⟩,hb⟩,tn⟩:=Cw (FM hW (Gr w')) gs sl t q hF (fun b hb=>kA.1 hb)
 exact⟨N,iK,aA,nQ,nS,sc,en,T,aE,r1,tn,ni.all xB,hb,fun b hb hf=>⟨bY.im b (kA.2 hb) hf,CY bY hb hf⟩⟩
theorem WZ{Q:Abe->Aa4->Prop}(z7:∀g w,Q g w->g.callers=[]){cg:Abe}:∀ {n:Nat} {g:Abe} {w:Aa4},ml lp n g cg->Sim.Safe lp Q g w->Sim.Safe lp Q cg w
 |0,g,w,h,hs=>by cases(show g=cg from h);exact hs
 |n+1,g,w,h,hs=>by
  obtain⟨hc,dG,h1,h2⟩:=h;cases hs with
  |stop hq=>exact absurd (z7 _ _ hq) hc
  |step nx hn hs=>
   obtain⟨⟨es,k1⟩,_⟩:=hn w.tape;obtain⟨es',k2⟩:=h1 (aZ w w.tape);rw[k2] at k1;simp only[GStep.go.injEq] at k1;have:=hs w.tape;rw[<-k1.1,<-k1.2.1] at this;exact WZ z7 h2 this
theorem amp(yj:Cq){S:Tl}{Q:Abe->Aa4->Prop}(z7:∀g w,Q g w->g.callers=[]){g:Abe}{wl:Aa4}(hs:Sim.Safe lp Q g wl):
 ∀ {n:Nat} {cg:Abe},ml lp n g cg->∀ {ρ:Ren} {g':Abe} {w':Aa4},ni S (allM w') ρ cg wl g' w'->ri w'->mZ ρ wl 0->
 ∀ {gs:Array Abe} {t:Trace} {q:Nat->Nat} (sl:Option (Nat×Nat)),Fr Tryz.prog gs w' t q g'->
 ∃N iK aA nQ nS sc en aE dG aa,runNT Tryz.prog N (crowd gs w' sl) t=(.next (crowd iK aA nQ),nS)/\Fr Tryz.prog iK aA nS sc en/\Q dG aa/\ni S (allM aA) aE dG aa en aA/\Base w' aA/\
  (∀b,b<w'.heap.size->mZ ρ wl b->aA.heap[b]?=w'.heap[b]?):=by
 induction hs with
 | @stop g w h=>
   intro n cg hl ρ g' w' hR hM h0 gs t q sl hF;cases n with
   |zero=>cases(show g=cg from hl);exact⟨0,gs,w',sl,t,q,g',ρ,g,w,rfl,hF,h,hR,Gr _,fun _ _ _=>rfl⟩
   |succ n=>exact absurd (z7 _ _ h) hl.1
 | @step g w nx hn hs ih=>
   intro n cg hl ρ g' w' hR hM h0 gs t q sl hF;have along:∀ {n:Nat} {cg:Abe},ml lp (n+1) g cg->∀ {ρ:Ren} {g':Abe} {w':Aa4},ni S (allM w') ρ cg w g' w'->ri w'->mZ ρ w 0->∀ {gs:Array Abe} {t:Trace} {q:Nat->Nat} (sl:Option (Nat×Nat)),Fr Tryz.prog gs w' t q g'->
    ∃N iK aA nQ nS sc en aE dG aa,runNT Tryz.prog N (crowd gs w' sl) t=(.next (crowd iK aA nQ),nS)/\Fr Tryz.prog iK aA nS sc en/\Q dG aa/\ni S (allM aA) aE dG aa en aA/\Base w' aA/\
     (∀b,b<w'.heap.size->mZ ρ w b->aA.heap[b]?=w'.heap[b]?):=by
    intro n cg hl ρ g' w' hR hM h0 gs t q sl hF;obtain⟨hc,dG,h1,h2⟩:=hl;obtain⟨⟨es,k1⟩,_⟩:=hn w.tape;obtain⟨es',k2⟩:=h1 (aZ w w.tape);rw[k2] at k1;simp only[GStep.go.injEq] at k1;obtain⟨e1,e2,_⟩:=k1;have:=ih w.tape (n:=n) (cg:=cg) (e1▸h2) (ρ:=ρ) (g':=g') (w':=w') (e2▸hR) hM (e2▸h0) sl hF;rw[<-e2] at this;exact this
   cases n with
   |succ n=>exact along hl hR hM h0 sl hF
   |zero=>
    cases(show g=cg from hl)
    have gr:=hR.gr;generalize eg:g=gg at gr;generalize SU:g'=gg' at gr;cases gr with
    | @inside b fr aV cs bh b7 hL=>
      subst eg SU;obtain⟨N,iK,aA,nQ,nS,sc,en,T,aE,r1,tn,xB,hb,hk⟩:=amq hR ⟨b,fr,aV,cs,bh,rfl,rfl,b7,hL⟩ hn sl hF;have hz:0<w'.heap.size:=by obtain⟨_,h⟩:=hM;exact(Aaf.1 h).1
      have MA:ri aA:=by obtain⟨f,h⟩:=hM;exact⟨f,(hk 0 hz h0).1.trans h⟩
      obtain⟨N2,xu,ep,PV,Qk,Pq,C9,bH,cg,aq,r2,Mz,hq,ME,MY,Nx⟩:=ih T (n:=0) rfl xB MA (hk 0 hz h0).2 nQ tn;exact⟨N+N2,xu,ep,PV,Qk,Pq,C9,bH,cg,aq,uc _ _ _ r1 r2,Mz,hq,ME,rn hb MY,fun b al hf=>(Nx b (Aeh al hb.size) (hk b al hf).2).trans (hk b al hf).1⟩
    | @hole b f hf x x' hx fr aV cs bh h aw hL=>
      have hf:f=21:=by simpa [C1] using hf
      subst hf eg SU;have hxs:=hx.1;by_cases h2:x.size<=1
      ·obtain⟨N,iK,aA,nQ,nS,sc,r1,tn,hb,hk⟩:=yj sl (by omega) hM hF
       have MA:ri aA:=by obtain⟨f,h⟩:=hM;exact⟨f,(hk 0 (Aaf.1 h).1).trans h⟩
       have core:=ta hR.core hb.size fun a b hab=>hk b (hR.core.dc a b hab)
       have xB:ni S (allM aA) ρ (aO (fr.finish (.bool true)) cs) w (aO (aV.finish (.bool true)) bh) aA:=
        ⟨.inside (CX h (.bool true) aw) hL,core,hR.gL,zF core,fun _ hb=>kA.1 hb⟩
       obtain⟨N2,xu,ep,PV,Qk,Pq,C9,bH,cg,aq,r2,Mz,hq,ME,MY,Nx⟩:=along (n:=7) (alZ h2) xB MA h0 nQ tn;exact⟨N+N2,xu,ep,PV,Qk,Pq,C9,bH,cg,aq,uc _ _ _ r1 r2,Mz,hq,ME,rn hb MY,fun b al hf=>(Nx b (Aeh al hb.size) hf).trans (hk b al)⟩
      ·exfalso
       have gQ:=WZ z7 (XE (x:=x) (fr:=fr) (cs:=cs)) (.step nx hn hs);cases gQ with
       |stop hq=>exact absurd (z7 _ _ hq) (by simp)
       |step nx2 dM _=>
        obtain⟨⟨es,k1⟩,_⟩:=dM w.tape;obtain⟨o,aa,es',k2⟩:=al0 (x:=x) (fr:=fr) (cs:=cs) (by omega) (aZ w w.tape)
        rw[k2] at k1;cases k1
end Go.Jn
namespace Go.Jn
open Go Go.Proofs Go.Conc
section
variable {H:Type}{enc:Aa1×Value->H}
theorem ag2{a:Assume}{C:Checked}{os:Os}{f:FuncId}{fn:Func}{s:ChangeSpec}{conds:List PathCond}{apart fresh handsOn again:Bool}{X:Aa4->Array Value->Prop}
 (hX:∀(w w':Aa4) (args:Array Value),w.heap=w'.heap->X w args->X w' args)
 (own:ownKnob C.prog.godebug=none)(started:os.Started)(Du:C.prog.funcs[f]?=some fn)
 (witness:∃(w:Aa4) (tape:Tape) (i:Input),w.os=os/\(w.forCall tape i).Shaped C.prog/\i.vars=[]/\Input.okWide C.prog (w.forCall tape i) .any w.heap.size f i/\
   ((s.pre enc C.prog fn conds apart (w.forCall tape i).memory i.args/\X (w.forCall tape i).memory i.args)/\sizedMet enc C.prog fn (OpenSpec.ofChange s) apart (w.forCall tape i).memory i.args)/\a.holds C.prog (lone (Afh C.prog f i.args .normal) [] (w.forCall tape i)))
 (runs:∀(W:Aa4) (base:Nat) (args:Array Value) (ds gs:List (DataW H)) (before:List MemPlace),
   (∀(j:Nat) t v,fn.params[j]?=some t->args[j]?=some v->Value.okWide C.prog W .any base t v)->
   DataW.Whole enc C.prog fn.params.toList s.vars apart W args.toList ds gs before->W.ShapedOpen C.prog->X W args->
   ∃M last o w' t',runNT C.prog (M+1) (solo (G (Afh C.prog f args .normal) []) W) #[]=(.ended o w',t')/\runN C.prog M (solo (G (Afh C.prog f args .normal) []) W)=.next last/\
    step C.prog last=.ended o w'/\Conc.Good C.prog (fun v W'=>s.post enc C.prog fn apart fresh handsOn again W args v W') last o w' t'):
 ReturnsInLeavingWide a C os f .any (fun w args=>(s.pre enc C.prog fn conds apart w args/\X w args)/\sizedMet enc C.prog fn (OpenSpec.ofChange s) apart w args) (s.post enc C.prog fn apart fresh handsOn again):=by
 refine returnsInLeavingWide_of_good own started witness ?_
 intro w tape i _ vz _ dh afp aon;obtain⟨_,_,_,fn',aew,_,_,_,_,AM⟩:=dh;have e:fn'=fn:=Ac5 (aew.symm.trans Du);subst e;obtain⟨⟨⟨ds,gs,before,hw,hc⟩,hx⟩,hz⟩:=afp;have AN:=DataW.Whole.of_heap (w':=w.forCall tape i) (by rfl) hw
 obtain⟨M,last,o,w',t',h1,h2,h3,v,e1,h4,h5⟩:=runs (w.forCall tape i) w.heap.size i.args ds gs before AM AN vz (hX _ _ _ (by rfl) hx)
 exact⟨M,last,o,w',t',h1,h2,h3,v,e1,ChangeSpec.post_blind h4,h5⟩
end
end Go.Jn
namespace Go.Jn
open Go Go.Proofs Go.Sim Go.Tw
def fH(W:Aa4)(a:Nat):Prop:=∃c e fr,W.heap[a]?=some (.cells c e fr)
theorem LQ{W:Aa4}{p:Addr}{v:Value}(h: W.cell? p=some v):fH W p.block:=by
 unfold Ah0 at h;split at h
 ·rename_i c e fr ho;exact⟨c,e,fr,ho⟩
 ·cases h
theorem LP{W:Aa4}{a:Nat}(h:fH W a):a<W.heap.size:=by
 obtain⟨c,e,fr,h⟩:=h;exact(Aaf.1 h).1
theorem zL:Tryz.prog.cellsOf 3=1:=by kernel_rfl
theorem Sq:Tryz.prog.cellsOf 9=1:=by kernel_rfl
theorem aah:Tryz.prog.cellsOf 22=1:=by kernel_rfl
theorem aai:Tryz.prog.cellsOf 23=1:=by kernel_rfl
theorem aaj:Tryz.prog.cellsOf 24=1:=by kernel_rfl
theorem aak:Tryz.prog.cellsOf 26=4:=by kernel_rfl
theorem aal:Tryz.prog.cellsOf 33=1:=by kernel_rfl
theorem Gz:Tryz.prog.cellsOf 37=2:=by kernel_rfl
theorem aam:Tryz.prog.cellsOf 57=1:=by kernel_rfl
theorem aan:Tryz.prog.cellsOf 59=3:=by kernel_rfl
theorem aao:Tryz.prog.cellsOf 72=4:=by kernel_rfl
theorem aap:Tryz.prog.cellsOf 95=3:=by kernel_rfl
section
variable {H:Type}{enc:Aa1×Value->H}{W:Aa4}{n:Nat}{cs:List Value}{y:DataW H×List MemPlace}
noncomputable abbrev oh(enc:Aa1×Value->H)(W:Aa4)(n:Nat)(t:Aa1)(cs:List Value):Option (DataW H×List MemPlace):=DataW.trod enc Tryz.prog W 0 (fun _=>true) true n t cs
theorem Fq{α:Type}{t e:Aa1}{sz:Nat}{R:α->List Value->Prop}(ht:Tryz.prog.underlying t=some (.slice e))(hc:Tryz.prog.cellsOf e=sz)(aI:0<sz)
 (Ng:∀(m:Nat) (cs:List Value) (y:DataW H×List MemPlace),oh enc W m e cs=some y->cs.length=sz->∃x,R x cs)(h:oh enc W n t cs=some y):
 ∃v xs,cs=[v]/\Row W W.heap.size sz R v xs/\Sv (fH W) v:=by
 rcases DataW.trod_slice ht h with⟨rfl,_⟩ | ⟨a,len,cap,elems,rest,m,_,rfl,_,_,hl,hm,hlen,aeq,afu,_⟩
 ·exact⟨_,[],rfl,Row.nil,fun A n c e=>by cases e⟩
 ·have one:∀i,i<cap->∃cs y,W.cells? 0 (a.add (i * sz)) sz=some cs/\oh enc W m e cs=some y:=fun i hi=>by
   by_cases h1:i<len
   ·have:=aeq i h1
    rw[Aga (by omega),hc,Ags] at this
    obtain⟨cs,h2,h3⟩:=this;exact⟨cs,_,h2,h3⟩
   ·obtain⟨hr,hj⟩:=afu rfl
    have:=hj (i - len) (by omega)
    rw[Aga (by omega),hc,Ags,show len+(i - len)=i by omega] at this
    obtain⟨cs,h2,h3⟩:=this;exact⟨cs,_,h2,h3⟩
  have two:∀i,i<cap->∃x cs,R x cs/\cs.length=sz/\∀j u,cs[j]?=some u-> W.cell? (a.add (i * sz+j))=some u:=fun i hi=>by
   obtain⟨cs,y,h1,h2⟩:=one i hi;obtain⟨_,h3,h4⟩:=World.cells?_some h1
   obtain⟨x,hx⟩:=Ng m cs y h2 h3;refine⟨x,cs,hx,h3,fun j u hu=>?_⟩
   have hj:j<sz:=by have:=(Agb.1 hu).1;omega
   rw[<-Rt,h4 j hj];exact hu
  have hS:0<cap->fH W a.block:=fun rP=>by
   obtain⟨x,cs,_,h3,h4⟩:=two 0 rP;obtain⟨u,hu⟩:∃u,cs[0]?=some u:=⟨cs[0]'(by omega),Aga _⟩
   have:=LQ (h4 0 u hu);rw[cq] at this;exact this
  refine⟨_,List.ofFn fun i:Fin len=>Adi (two i.1 (by omega)),rfl,⟨some a,cap,by rw[List.length_ofFn],by rw[List.length_ofFn];exact hl,hm,fun hx=>⟨a,rfl,?_,fun i x hi=>?_⟩⟩,fun A n c e h0=>?_⟩
  ·refine LP (hS ?_)
   rcases Nat.eq_zero_or_pos len with h0|h0
   ·subst h0;exact absurd rfl hx
   ·omega
  ·rw[List.getElem?_ofFn] at hi
   split at hi
   ·rename_i al
    cases hi;exact Adj (two i (by omega))
   ·cases hi
  ·cases e
   rcases Nat.eq_zero_or_pos cap with h|h
   ·exact .inr h
   ·exact .inl (hS h)
theorem AS(h:oh enc W n 3 cs=some y):∃x:Int,cs=[.int .i64 x]:=by
 obtain⟨x,rfl,_⟩:=DataW.trod_int Tryz.underlying3 h;exact⟨x,rfl⟩
theorem XC(h:oh enc W n 9 cs=some y):∃s:ByteArray,cs=[.string s]/\s.size<=maxLen:=by
 obtain⟨x,rfl,_,h⟩:=DataW.trod_string Tryz.underlying9 h;exact⟨x,rfl,h⟩
theorem ny{t:Aa1}{fs:Array Field}(ht:Tryz.prog.underlying t=some (.struct fs))(h:oh enc W n t cs=some y)(i:Nat){u:Aa1}{o sz:Nat}(hc:Tryz.prog.cellsOf u=sz)(hf:∃f,fs[i]?=some f/\f.type=u/\f.offset=o):
 ∃m z,oh enc W m u ((cs.drop o).take sz)=some z:=by
 obtain⟨f,hf,rfl,rfl⟩:=hf;obtain⟨xs,m,_,_,_,hl,h1⟩:=DataW.trod_struct ht h;have hi:i<xs.length:=by have:=(Aaf.1 hf).1;omega
 exact⟨m,xs[i],by rw[<-Aga hi,<-hc];exact h1 i f hf⟩
theorem VV{t:Aa1}{fs:Array Field}(ht:Tryz.prog.underlying t=some (.struct fs))(h:oh enc W n t cs=some y):cs.length=Tryz.prog.cellsOf t:=by
 obtain⟨xs,m,_,_,hl,_⟩:=DataW.trod_struct ht h;exact hl
theorem P0(h:oh enc W n 37 cs=some y):∃x:Span,Span.R x cs:=by
 have hl:=VV Tryz.underlying37 h;rw[Gz] at hl;obtain⟨a,b,rfl⟩:∃a b,cs=[a,b]:=by
  match cs,hl with
  | [a,b],_=>exact⟨a,b,rfl⟩
 obtain⟨_,_,h0⟩:=ny Tryz.underlying37 h 0 (u:=3) (o:=0) zL ⟨_,rfl,rfl,rfl⟩;obtain⟨_,_,h1⟩:=ny Tryz.underlying37 h 1 (u:=3) (o:=1) zL ⟨_,rfl,rfl,rfl⟩;simp only[Ah7,Ah8] at h0 h1;obtain⟨x0,e0⟩:=AS h0;obtain⟨x1,e1⟩:=AS h1;cases e0;cases e1
 exact⟨⟨x0,x1⟩,rfl⟩
theorem ajG(h:oh enc W n 72 cs=some y)(hl:cs.length=4):∃x:Piece,Piece.R x cs:=by
 obtain⟨a,b,c,d,rfl⟩:∃a b c d,cs=[a,b,c,d]:=by
  match cs,hl with
  | [a,b,c,d],_=>exact⟨a,b,c,d,rfl⟩
 obtain⟨_,_,h0⟩:=ny Tryz.underlying72 h 0 (u:=9) (o:=0) Sq ⟨_,rfl,rfl,rfl⟩;obtain⟨_,_,h1⟩:=ny Tryz.underlying72 h 1 (u:=37) (o:=1) Gz ⟨_,rfl,rfl,rfl⟩;obtain⟨_,_,h2⟩:=ny Tryz.underlying72 h 2 (u:=3) (o:=3) zL ⟨_,rfl,rfl,rfl⟩;simp only[Ah7,Ah8] at h0 h1 h2;obtain⟨s,e0,hs⟩:=XC h0;obtain⟨x,e1⟩:=P0 h1;obtain⟨z,e2⟩:=AS h2;cases e0;cases e1;cases e2
 exact⟨⟨s,x,z⟩,rfl,hs⟩
theorem ZK(h:oh enc W n 59 cs=some y)(hl:cs.length=3):∃x:bR,bR.R W W.heap.size x cs/\∀u∈cs,Sv (fH W) u:=by
 obtain⟨a,b,c,rfl⟩:∃a b c,cs=[a,b,c]:=by
  match cs,hl with
  | [a,b,c],_=>exact⟨a,b,c,rfl⟩
 obtain⟨_,_,h0⟩:=ny Tryz.underlying59 h 0 (u:=9) (o:=0) Sq ⟨_,rfl,rfl,rfl⟩;obtain⟨_,_,h1⟩:=ny Tryz.underlying59 h 1 (u:=3) (o:=1) zL ⟨_,rfl,rfl,rfl⟩;obtain⟨_,_,h2⟩:=ny Tryz.underlying59 h 2 (u:=57) (o:=2) aam ⟨_,rfl,rfl,rfl⟩;simp only[Ah7,Ah8] at h0 h1 h2;obtain⟨s,e0,hs⟩:=XC h0;obtain⟨z,e1⟩:=AS h1;obtain⟨v,xs,e2,hr,hv⟩:=Fq (R:=Span.R) Tryz.underlying57 Gz (by omega) (fun m cs y h _=>P0 h) h2
 cases e0;cases e1;cases e2
 refine⟨⟨s,z,xs⟩,⟨_,rfl,hs,hr⟩,fun u hu=>?_⟩
 simp only[Aef,Aeg,or_false] at hu;rcases hu with rfl|rfl|rfl
 ·intro A n c e;cases e
 ·intro A n c e;cases e
 ·exact hv
theorem ama(h:oh enc W n 95 cs=some y)(hl:cs.length=3):∃x:Tw.Tape,Tw.Tape.R W W.heap.size x cs/\∀u∈cs,Sv (fH W) u:=by
 obtain⟨a,b,c,rfl⟩:∃a b c,cs=[a,b,c]:=by
  match cs,hl with
  | [a,b,c],_=>exact⟨a,b,c,rfl⟩
 obtain⟨_,_,h0⟩:=ny Tryz.underlying95 h 0 (u:=33) (o:=0) aal ⟨_,rfl,rfl,rfl⟩;obtain⟨_,_,h1⟩:=ny Tryz.underlying95 h 1 (u:=37) (o:=1) Gz ⟨_,rfl,rfl,rfl⟩;simp only[Ah7,Ah8] at h0 h1;obtain⟨v,xs,e0,hr,hv⟩:=Fq (R:=cH) Tryz.underlying33 zL (by omega) (fun m cs y h _=>AS h) h0
 obtain⟨x,e1⟩:=P0 h1;cases e0;cases e1
 refine⟨⟨xs,x⟩,⟨_,rfl,hr⟩,fun u hu=>?_⟩
 simp only[Aef,Aeg,or_false] at hu;rcases hu with rfl|rfl|rfl
 ·exact hv
 ·intro A n c e;cases e
 ·intro A n c e;cases e
theorem ZP(h:oh enc W n 26 cs=some y):∃(b:ao) (pv bv tv:Value),cs=[.int .i64 b.ag,pv,bv,tv]/\FY (fH W) W W.heap.size b pv bv tv:=by
 have hl:=VV Tryz.underlying26 h;rw[aak] at hl;obtain⟨a,b,c,d,rfl⟩:∃a b c d,cs=[a,b,c,d]:=by
  match cs,hl with
  | [a,b,c,d],_=>exact⟨a,b,c,d,rfl⟩
 obtain⟨_,_,h0⟩:=ny Tryz.underlying26 h 0 (u:=3) (o:=0) zL ⟨_,rfl,rfl,rfl⟩;obtain⟨_,_,h1⟩:=ny Tryz.underlying26 h 1 (u:=22) (o:=1) aah ⟨_,rfl,rfl,rfl⟩;obtain⟨_,_,h2⟩:=ny Tryz.underlying26 h 2 (u:=23) (o:=2) aai ⟨_,rfl,rfl,rfl⟩;obtain⟨_,_,h3⟩:=ny Tryz.underlying26 h 3 (u:=24) (o:=3) aaj ⟨_,rfl,rfl,rfl⟩;simp only[Ah7,Ah8] at h0 h1 h2 h3;obtain⟨z,e0⟩:=AS h0;obtain⟨pv,ps,e1,r1,s1⟩:=Fq (R:=Piece.R) Tryz.underlying22 aao (by omega) (fun m cs y h hl=>ajG h hl) h1
 obtain⟨bv,bs,e2,r2,s2⟩:=Fq (R:=fun x cs=>bR.R W W.heap.size x cs/\∀u∈cs,Sv (fH W) u) Tryz.underlying23 aan (by omega) (fun m cs y h hl=>ZK h hl) h2
 obtain⟨tv,ts,e3,r3,s3⟩:=Fq (R:=fun x cs=>Tw.Tape.R W W.heap.size x cs/\∀u∈cs,Sv (fH W) u) Tryz.underlying24 aap (by omega) (fun m cs y h hl=>ama h hl) h3
 cases e0;cases e1;cases e2;cases e3
 exact⟨⟨z,ps,bs,ts⟩,_,_,_,rfl,r1,r2,r3,s1,s2,s3⟩
end
end Go.Jn
namespace Go.Jn
open Go Go.Proofs Go.Sim Go.Conc
theorem ajq{C C':bQ}(h:∀c,C.clean c->C'.clean c){ρ:Ren}{o o':Obj}(x:iE C ρ o o'):iE C' ρ o o':=by
 cases x with
 |cells e hc hf=>exact .cells e hc hf
 |map clock hm=>exact .map clock hm
 |loop hl=>
  cases hl with
  |mk st px fn ps oU body ht hd ha hb hp=>exact .loop (.mk st px fn ps oU body ht hd (h _ ha) (h _ hb) fun c hc=>h _ (hp c hc))
 |EF=>exact .EF
 |calls=>exact .calls
 |stringIter s p=>exact .stringIter s p
 |number lost ha=>exact .number lost ha
theorem aa2{C C':bQ}(h:∀c,C.clean c->C'.clean c){ρ:Ren}{w w':Aa4}(x:bV C ρ w w'):bV C' ρ w w':=
 ⟨x.dA,x.dc,x.fn,x.inj,fun a b o hab ho=>by obtain⟨o',h1,h2⟩:=x.obj a b o hab ho;exact⟨o',h1,ajq h h2⟩⟩
def Rn(f r:Nat)(g:Abe)(_:Aa4):Prop:=∃(t:Array Value) (todo:List Item),t[r]?=some (.bool true)/\g=aO ⟨f,t,todo,[cQ],.returning,.normal,none⟩ []
def Cr:Tl:=⟨.skip,[],[],[],.normal⟩
theorem agR{f r:Nat}{c:Code}(hc:cr Tryz.prog G0 c=true){tl t':Array Value}{ρ:Ren}{wl w:Aa4}
 (hl:∀T,c.wp lp (fun e bB _=>e=.ret/\bB.defers=[cQ]/\bB.tmps[r]?=some (.bool true)) ⟨tl,[cQ]⟩ (aZ wl T))
 (hW:bV C1 ρ wl w)(hg:ρ 0 0)(hn:bJ wl.heap)(ht:aP ρ tl t'):
 Sim.Safe lp (Rn f r) (aO ⟨f,tl,[.code c,.code di],[cQ],.run,.normal,none⟩ []) wl:=by
 have hG:∀g,G0 g=true->ρ g g:=fun g oy=>by
  have:g=0:=by simpa [G0] using oy
  subst this;exact hg
 let b:Abd:={ (default:Abd) with fn:=f,kind:=.normal}
 have b7:ea CA Cr ρ true ⟨f,tl,[.code c,.code di],[cQ],.run,.normal,none⟩ ⟨f,t',[.code c],[],.run,.normal,none⟩:=
  .mk f ht (.cons (.code c hc) .stop) .stop .run .none ⟨fun h=>by simp at h,fun _=>rfl,fun h=>absurd rfl h,fun h=>by simp at h,rfl,fun _=>rfl⟩
 have hi:Inv CA Cr G0 (aO ⟨f,tl,[.code c,.code di],[cQ],.run,.normal,none⟩ []) wl:=⟨hn,ρ,true,_,_,_,_,w,rfl,hG,b7,.base,aa2 (C:=C1) (C':=CA) (fun _ h=>h) hW⟩
 have h:=PD (S:=Cr) abN (fun _=>rfl) (Q:=Rn f r) (fun g w T h=>h) ?_ hi ?_
 ·rw[Ji] at h;exact h
 ·rintro g w ⟨t,todo,_,rfl⟩ ch;simp
 ·intro T
  rw[Ji];obtain⟨e,bB,aa,⟨rfl,h2,h3⟩,todo,n,hr⟩:=hl T b [.code di] [];refine⟨n,_,_,aa,hr,bB.tmps,todo,h3,?_⟩
  show aO _ _=aO _ _;rw[<-h2];rfl
theorem ajC{w:Aa4}:Past Iz w.heap.size #[]:=Past.mono past_nil (Agm _)
theorem results1{P:Aa6}{fn:Func}{r:Nat}(hr:fn.results=#[.tmp r])(t:Array Value)(w:Aa4):(results fn t).runT P w #[]=(.ok (t.getD r undef) w,#[]):=by
 have e:results fn t=Sem.pure (t.getD r undef):=by
  unfold results;rw[hr];simp only[Aak,List.mapM_cons,List.mapM_nil];rfl
 rw[e];rfl
theorem agQ(yj:Cq){f r:Nat}{fn:Func}{c:Code}(hf:Tryz.prog.funcs[f]?=some fn)(hb:fn.body=some c)(hc:cr Tryz.prog G0 c=true)(hr:fn.results=#[.tmp r])(hi:¬2=f)
 {ρ:Ren}{wl W:Aa4}{args tl:Array Value}(hl:∀T,c.wp lp (fun e bB _=>e=.ret/\bB.defers=[cQ]/\bB.tmps[r]?=some (.bool true)) ⟨tl,[cQ]⟩ (aZ wl T))
 (hW:bV C1 ρ wl W)(hg:ρ 0 0)(hn:bJ wl.heap)(ht:aP ρ tl (args++Aeo (fn.ntmps - args.size) undef))(lP:∀b,mZ ρ wl b)(hM:ri W):
 ∃N last o w' t',runNT Tryz.prog (N+1) (solo (G (Afh Tryz.prog f args .normal) []) W) #[]=(.ended o w',t')/\runN Tryz.prog N (solo (G (Afh Tryz.prog f args .normal) []) W)=.next last/\
  step Tryz.prog last=.ended o w'/\Conc.Good Tryz.prog (fun v w'=>v=.bool true/\Ahz W.heap.size W w') last o w' t':=by
 have hs:=agR (f:=f) (r:=r) hc hl hW hg hn ht;have hG:∀g,G0 g=true->ρ g g:=fun g oy=>by
  have:g=0:=by simpa [G0] using oy
  subst this;exact hg
 have b7:ea C1 Cr ρ true ⟨f,tl,[.code c,.code di],[cQ],.run,.normal,none⟩ ⟨f,args++Aeo (fn.ntmps - args.size) undef,[.code c],[],.run,.normal,none⟩:=
  .mk f ht (.cons (.code c hc) .stop) .stop .run .none ⟨fun h=>by simp at h,fun _=>rfl,fun h=>absurd rfl h,fun h=>by simp at h,rfl,fun _=>rfl⟩
 have hR:ni Cr (allM W) ρ (aO ⟨f,tl,[.code c,.code di],[cQ],.run,.normal,none⟩ []) wl (aO ⟨f,args++Aeo (fn.ntmps - args.size) undef,[.code c],[],.run,.normal,none⟩ []) W:=
  ⟨.inside b7 .base,hW,hG,zF hW,fun _ hb=>kA.1 hb⟩
 have he:=zQ hf hb args .normal;rw[he];have hF:Fr Tryz.prog #[aO ⟨f,args++Aeo (fn.ntmps - args.size) undef,[.code c],[],.run,.normal,none⟩ []] W #[] (fun _=>0) (aO ⟨f,args++Aeo (fn.ntmps - args.size) undef,[.code c],[],.run,.normal,none⟩ []):=
  ⟨rfl,fun i x h hx=>by
    have:i<1:=(Aaf.1 hx).1
    omega,ajC,fun op h=>absurd h (by simp),fun op h=>absurd h (by simp)⟩
 obtain⟨N1,iK,aA,nQ,nS,sc,en,aE,dG,aa,r1,tn,⟨t,todo,h0,rfl⟩,xB,hB,hk⟩:=
  amp yj (fun g w ⟨t,todo,_,e⟩=>by rw[e]) hs (n:=0) rfl hR hM (lP 0) none hF
 have qj:Ahz W.heap.size W aA:=⟨hB.os,hB.tape,hB.out,hB.size,fun b hb=>hk b hb (lP b)⟩
 have qk:∀aq,AtRel aA aq->AtEnd Tryz.prog Iz aA.heap.size (fun v w'=>v=.bool true/\Ahz W.heap.size W w') en aq:=by
  rintro aq ⟨d,rfl⟩;have gr:=xB.gr;generalize eg:aO ⟨f,t,todo,[cQ],.returning,.normal,none⟩ []=gg at gr;cases gr with
  | @inside b fr aV cs bh b7 hL=>
    have e1:=congrArg Goroutine.frame eg;have e2:=congrArg Goroutine.callers eg;simp only at e1 e2;subst e1 e2;obtain⟨rfl,rfl⟩:=Lu hL;cases b7 with
    | @mk _ t1 t2 ym k1 k2 dg d1 d2 jT m1 rM r1 r2 ye kd2 gM=>
      cases ye;have qt:=gM.Cv rfl;subst qt;have hD:=xf jT;subst hD;obtain⟨v',Ea,vD⟩:=IZ ym h0;cases vD;have vB:t2.getD r undef=.bool true:=cJ Ea;refine⟨rfl,.bool true,#[],?_,fun e he=>absurd he (by simp),rfl,qj.os,qj.tape,qj.output,qj.size,qj.block⟩
      have e:unwind Tryz.prog true ⟨f,t2,k2,[],.returning,.normal,none⟩ [] none (aA.at d)=.ended (.done (.bool true)) (aA.at d) #[]:=by
       unfold unwind;simp only[hf,results1 hr,vB,ud,GStep.after,doReturn];simp[hi]
      exact e
  |hole f hf hx h aw hL=>
   have e2:=congrArg Goroutine.callers eg;simp at e2
 obtain⟨N2,last,o,w',t',k1,k2,k3,k4⟩:=beside_ends (D:=fun _ _ _=>False) (fun _ _ _ h=>h.elim) (sl:=nQ) tn.zero tn.ag1 tn.gD (n:=0) qk
 refine⟨N1+N2,last,o,w',t',?_,?_,k3,k4⟩
 ·rw[Nat.add_assoc]
  exact uc _ _ _ r1 k1
 ·have:=congrArg Prod.fst (uc N1 (solo (G ⟨f,args++Aeo (fn.ntmps - args.size) undef,[.code c],[],.run,.normal,none⟩ []) W) #[] r1 rfl:_=runNT Tryz.prog N2 (crowd iK aA nQ) nS)
  rw[runNT_fst,runNT_fst] at this;rw[this];exact k2
end Go.Jn
