import Derived.Test.YtfifdjajcogccaaGreatDoorZ01
import Derived.Maps.AppendAt
import Derived.OwnWalk
import Derived.RangeFuncIn
import Derived.RangeFuncCalls
import Derived.LoopIn
import Derived.OwnWalkIn
import Derived.TacticsInMore
import Derived.Laws.EntriesVeiled
import Derived.DeepKeys5
import Derived.Maps.OwnSet
import Derived.Maps.OwnOps
import Derived.BigRegion
import Derived.ChangeAlike
import Derived.WalkMore
import Derived.Lib.SliceRun
import Derived.Carry
import Derived.Laws.CopyRow
import Derived.Laws.IdiomCopy
import Derived.Laws.CopyOwn
import Derived.Deep.RegionHeld3
import Derived.Maps.Views
set_option linter.all false
set_option maxHeartbeats 64000000
set_option maxRecDepth 100000
open And renaming intro -> Aee
open Array renaming getElem?_eq_some_iff -> Aaf, replicate_succ -> Agu, replicate_zero -> Agv, getElem?_toList -> Agw
open Bool renaming false_eq -> Agx
open Go renaming World -> Abc, TypeId -> Aa8, Calls -> Aet, info_parts -> Agy, maxLen -> Aes, wpList_append_own -> Agz, callsIn_of_wp -> Ag0, Program -> Abe, Operand -> Abm, Ending -> Ag1, grownBy_putObj' -> Ag2, run_takeDeferred -> Ag3, bodyPost_ret -> Ag4, wpList -> Ag5
open Go.Addr renaming add -> Ag6
open Go.Fence renaming wide -> Ag7
open Go.Instr renaming index -> Afk, lookup -> Ac3, mapUpdate -> Ac6
open Go.IntKind renaming i64 -> Adf
open Go.Lib renaming hid -> Afl
open Go.Obj renaming cells -> Afq
open Go.Oper renaming semAt_some -> Ag8
open Go.Program renaming fieldsOf -> Ag9
open Go.Result renaming andThen -> Aha
open Go.RowKit renaming intOf -> Ahb
open Go.RowKit.Below renaming refl -> Aft, heap_setCell -> Ahc, heap_alloc -> Ahd, grown -> Ahe, setCell -> Ahf, alloc -> Ahg
open Go.Value renaming int -> Afx
open Go.World renaming putObj_heap_same -> Ahh, putObj_heap_other -> Ahi, setCell -> Adx, size_alloc -> Ahj, cell?_alloc_lt -> Afy, grownBy_alloc -> Ahk
open Go.World.ownsRow renaming alloc -> Ahl
open List renaming map_append -> Ahm, take_of_length_le -> Agc, range -> Agj, size_toArray -> Ahn, length_cons -> Aho, length_nil -> Ahp, push_toArray -> Ahq, append_toArray -> Ahr, nil_append -> Ahs, cons_append -> Aht, getElem?_eq_some_iff -> Af7, take_append_drop -> Ahu, flatMap_append -> Ahv, flatMap_cons -> Ahw, length_append -> Ahx, getElem?_map -> Ahy, mem_of_getElem? -> Agd, flatMap_singleton -> Ahz, append_nil -> Ah0, getElem?_append_right -> Ah1, mem_map -> Ah2, mem_range -> Ah3, length_filter_le -> Aga, length_singleton -> Af4, getElem?_eq_getElem -> Af6, take_succ_cons -> Agf, take_zero -> Agg, drop_succ_cons -> Agh, drop_zero -> Agi, mem_append -> Af5, exists_of_findSome?_eq_some -> Ah4, range_succ -> Ah5, getElem?_eq_none -> Ah6, dropLast_concat_getLast -> Ah7, getLast?_eq_some_getLast -> Ah8, mem_of_getLast? -> Ah9, eq_nil_of_length_eq_zero -> Aia, length_map -> Aib
open Nat renaming zero_le -> Agl, le_of_eq -> Agn, le_refl -> Ad4, reduceAdd -> Aic, reduceSub -> Aid, add_mul -> Aie, mul_le_mul_right -> Aif, le_trans -> Ad5, pow_le_pow_right -> Aig, min_eq_left -> Aih, lt_succ_iff_lt_or_eq -> Agm
open Option.some renaming inj -> Aea
namespace Go.Tw
variable [Go.Tw.aR]
open Go Go.Proofs Go.RowKit
def jG(l:List Cut):List Int:=Lib.compact (ga (l.map (·.bp)))
def ei{w:Abc}{base:Nat}{e:Aa8}{sz n:Nat}{v:Value}{xs:List Value}(h:w.ownsRow base e sz v n xs)(k:Nat)(hk:v.ownBlock=some k):base<=k:=by
 rcases h.2 with⟨rfl,_⟩ | ⟨g,cap,cur,rfl,jU,_⟩
 ·simp[Value.ownBlock] at hk
 ·simp[Value.ownBlock] at hk;omega
def Oo:(prog.info? 3).map (λi=>(i.zero,i.size,i.bytes))=some (some (.int .i64 0),1,8):=by
 rw[pB];kernel_rfl
def taken{l:List Cut}{v:Value}{w:Abc}{B:Nat}(hv:Row w B 2 Cut.R v l)(hB:B<=w.heap.size)(xv:l.length<=1000):
 Aet prog 235 #[v] w λe w'=>∃u,e=.returned u/\w'.ownsRow w.heap.size 3 1 u (jG l).length ((jG l).map (Afx .i64))/\Below w.heap.size w w':=by
 obtain⟨i0,cR,cT,aN,ba⟩:=Agy Oo;obtain⟨A,n,c,rfl,hl,dX,cX,hr⟩:=hv.open_;have hn:n<=1000:=by omega
 unfold Aes at cX;have nh:=Afl hl;have H2:=Afl hr;have HI:=Afl (Aee cR (Aee cT (Aee aN ba)));clear hl hr hv xv cR cT aN ba;go_enter func235,Tryz.ntmps235;go_wp2;go_loopw [3,5,8] (λo u k wr=>∃i:Nat,i<=n/\k=.int .i64 i/\wr.ownsRow w.heap.size 3 1 o i ((l.take i).map λc=>.int .i64 c.bp)/\Below w.heap.size w wr) (λ_ _ k _=>n - (Ahb k).toNat)
 case atStart=>exact⟨0,Agl _,rfl,⟨by simp,.inl ⟨rfl,rfl⟩⟩,Aft _ _⟩
 case round=>
  obtain⟨i,hi,rfl,aG,hb⟩:=hrel;have HO:=Afl aG;have HB:=Afl hb;have aI:=hb.size;by_cases al:i<n
  ·obtain⟨ad,x,cs,rfl,aC,hx,rfl,-,au⟩:=H2.out i al
   have st:Still B w wr:=Still.aK hb hB;have h0:=cC au st aC rfl;have h1:=bK au st aC 0 rfl;have HX:=Afl hx;clear hb hx au st aG;go_wp2_with (first
    | (at_builtin
       refine Agz _ rfl (.tmp 12) (.tmp 15) 33 rfl w.heap.size 3 i0 (.int .i64 0) 1 8 (U Tryz.underlying33) HI.out.1 HI.out.2.1 HI.out.2.2.1 HI.out.2.2.2 rfl (by decide) _ i _ rfl ((HO.out.alloc _).alloc _) ⟨wr.heap.size+1,0,none⟩ 1 1 [.int .i64 x.bp] rfl rfl ?c1 ?c2 ?c3 ?c4 ?c5 ?_
       case c1=>(intro j u hu;match j,hu with|0,hu=>(simp at hu;subst hu;simp[go_sem,Ag6]))
       case c2=>simp[Value.oneCell']
       case c3=>(simp only[Aes];omega)
       case c4=>omega
       case c5=>(simp;omega)
       intro v' w1 cK dT _;have gW:=Afl cK;have gV:=Afl dT;clear cK dT))
   go_roundw;case rel=>exact⟨i+1,by omega,by go_num,by rw[oJ HX.out,Ahm];exact gW.out,
    ((HB.out.trans ((Aft _ _).alloc aI _)).trans ((Aft _ _).alloc (by simp;omega) _)).grown gV.out (by simp;omega) (λk hk=>ei HO.out k hk)⟩
   case measure=>simp[Ahb];omega
  ·obtain rfl:i=n:=by omega
   have vq:((l.take i).map λc=>Afx .i64 c.bp)=(l.map (·.bp)).map (Afx .i64):=by
    rw[Agc (Agn nh.out),List.map_map];rfl
   have rf:Hid (wr.ownsRow w.heap.size 3 1 u3 i ((l.map (·.bp)).map (Afx .i64))):=Afl (vq▸HO.out)
   clear hb aG vq HO;go_wp2_with (first
    | (go_at_call 101;refine(PW rf.out (by omega) aI).mono ?_;rintro e w1 ⟨rfl,cK,ae⟩;have uC:=Afl cK;have fw:=Afl ae;clear cK ae)
    | (go_at_call 102;refine(Sz uC.out (by omega)).mono ?_;rintro e w2 ⟨u,rfl,vX,ak⟩;have wQ:=Afl vX;have jK:=Afl ak;clear vX ak))
   go_ret;exact⟨_,rfl,wQ.out,HB.out.trans (fw.out.trans jK.out)⟩
def nothing{s:Int}{A1 A2 A3:Option Addr}{n1 c1 n2 c2 n3 c3:Nat}(w:Abc):
 Aet prog 107 #[.agg #[.int .i64 s,.slice A1 n1 c1,.slice A2 n2 c2,.slice A3 n3 c3]] w λe w'=>e=.returned (.int .i64 0)/\Below w.heap.size w w':=by
 go_enter func107,Tryz.ntmps107;go_wp2;go_ret;exact⟨aX rfl,(Aft _ _).alloc (Ad4 _) _⟩
end Go.Tw
namespace Go.Tw
variable [Go.Tw.aR]
open Go Go.Proofs Go.RowKit
def ze(f:FuncId):Ag7.fn f=True:=rfl
def K0:Ag7.depth=none:=rfl
attribute [local go_sem] ze K0 Ag8
def an.set(L:an)(i:Nat)(k:Int):an:=if i=0 then {L with a:=k} else if i=1 then {L with b:=k} else {L with c:=k}
def mR(x:Span):List Int:=(Agj (x.hi - x.lo+1).toNat).map λ(j:Nat)=>x.lo+j
def eu(b:ao):Nat->Nat->an->List an
 |0,_,n=>if Pw n b.aJ then [n] else []
 |f+1,i,n=>match b.pieces[i]? with
  |some p=>(mR p.len).flatMap λk=>eu b f (i+1) (n.set i k)
  |none=> []
def aD(b:ao):List an:=eu b b.pieces.length 0 ⟨0,0,0⟩
def an.vs(L:an):List Value:=[.int .i64 L.a,.int .i64 L.b,.int .i64 L.c]
structure AI(w:Abc)(b:ao)(pv bv tv:Value)(rec:Loop)(n:an)(out:List an)(W:Abc):Prop where
 p:Bk W (w.heap.size+4) 117 #[.int .i64 b.ag,pv,bv,tv]
 y:Bk W (w.heap.size+5) 182 #[.func (.yield (w.heap.size+3)) #[] #[]]
 n:Bk W (w.heap.size+6) 128 n.cs
 x:Bk W (w.heap.size+7) 158 #[.func (.func 188) #[] #[.pointer (some ⟨w.heap.size+4,0,none⟩),.pointer (some ⟨w.heap.size+6,0,none⟩),.pointer (some ⟨w.heap.size+5,0,none⟩),.pointer (some ⟨w.heap.size+7,0,none⟩)]]
 o:∃v,Bk W (w.heap.size+1) 115 #[v]/\W.ownsRow (w.heap.size+8) 128 3 v out.length (out.flatMap an.vs)
 d:W.heap[w.heap.size+2]?=some (.deferred (some []))
 l:W.heap[w.heap.size+3]?=some (.loop rec)
 below:Below w.heap.size w W
def qO{B:Nat}{w w':Abc}{base:Nat}{e:Aa8}{sz n:Nat}{v:Value}{xs:List Value}(h:w.ownsRow base e sz v n xs)(hb:Below B w w')(hB:w.heap.size<=B):w'.ownsRow base e sz v n xs:=by
 refine⟨h.1,?_⟩
 rcases h.2 with h0| ⟨g,cap,cur,h1,h2,h3,h4⟩
 ·exact .inl h0
 ·exact .inr ⟨g,cap,cur,h1,h2,(hb.block g (Nat.lt_of_lt_of_le (Aaf.1 h3).1 hB)).trans h3,h4⟩
def AI.later{w:Abc}{b:ao}{pv bv tv:Value}{rec:Loop}{n:an}{out:List an}{W W':Abc}(h:AI w b pv bv tv rec n out W)(hb:Below W.heap.size W W'):AI w b pv bv tv rec n out W':=by
 have h1:=h.x.lt;refine⟨h.p.below hb (by omega),h.y.below hb (by omega),h.n.below hb (by omega),h.x.below hb (by omega),?_,(hb.block _ (by omega)).trans h.d,(hb.block _ (by omega)).trans h.l,h.below.trans (hb.mono (by omega))⟩
 obtain⟨v,v1,v2⟩:=h.o;exact⟨v,v1.below hb (by omega),qO v2 hb (Ad4 _)⟩
def Lg(w:Abc)(b:ao)(pv bv tv:Value)(rec:Loop):Prop:=∀(m:Nat) (n:an) (out:List an) (W:Abc),out.length<1000->AI w b pv bv tv rec n out W->
 YieldAt Ag7 m prog (w.heap.size+3) #[.agg n.cs] W λe W'=>e=.returned (.bool true)/\AI w b pv bv tv rec n (out++ [n]) W'
def aiW{w:Abc}{b:ao}{pv bv tv:Value}{rec:Loop}{B:Nat}(hB:B<=w.heap.size)(ai:bg w B b pv bv tv)(dh:zz b)(hY:Lg w b pv bv tv rec){n:an}(hL:n.Ok){out:List an}{W:Abc}
 (h:AI w b pv bv tv rec n out W)(hK:out.length+(eu b 0 b.pieces.length n).length<=1000)(m:Nat):
 CallsIn Ag7 m prog 188 #[.int .i64 b.pieces.length,.pointer (some ⟨w.heap.size+4,0,none⟩),.pointer (some ⟨w.heap.size+6,0,none⟩),.pointer (some ⟨w.heap.size+5,0,none⟩),.pointer (some ⟨w.heap.size+7,0,none⟩)] W
  λe W'=>e=.returned (.bool true)/\AI w b pv bv tv rec n (out++eu b 0 b.pieces.length n) W':=by
 have HK:=Afl hK;clear hK;have HY:=Afl hY;have HI:=Afl h;have Yv:b.pieces.length<=9223372036854775807:=by
  obtain⟨A1,n1,c1,rfl,e1,h1,eA,-⟩:=ai.pieces.open_;unfold Aes at eA;omega
 obtain⟨A1,n1,c1,rfl,e1,h1,eA,-⟩:=ai.pieces.open_;have p0:=h.p.cell 0;have p1:=h.p.cell 1;have p2:=h.p.cell 2;have p3:=h.p.cell 3;have y0:=h.y.cell 0;have n0: W.cell? ⟨w.heap.size+6,0,none⟩=some (.int .i64 n.a):=h.n.cell 0;have n1': W.cell? ⟨w.heap.size+6,1,none⟩=some (.int .i64 n.b):=h.n.cell 1;have n2: W.cell? ⟨w.heap.size+6,2,none⟩=some (.int .i64 n.c):=h.n.cell 2;have call:=right (w:=W) (B:=B) (L:=n) (ai.still (Still.aK h.below hB)) (by have:=h.below.size;omega) dh hL
 have aB:=Afl call;clear hY h ai call;rw[e1] at Yv |-
 have E1:=Afl e1;clear e1;unfold Aes at eA;cases NZ:Pw n b.aJ with
 |false=>
  refine Ag0 func188 rfl trivial ?_
  simp only[Tryz.ntmps188,Ahn,Aho,Ahp,Aic,Aid,Agu,Agv,Ahq,Ahr,Ahs,Aht]
  gi_wp2_with (first
   | (gi_at_call 189;refine(callsIn_wide.2 aB.out).mono ?_;rintro e w1 ⟨rfl,ae⟩))
  go_ret;exact⟨b9 rfl,by simpa [eu,NZ] using HI.out.later (ae.mono (Ad4 _))⟩
 |true=>
  refine Ag0 func188 rfl trivial ?_
  simp only[Tryz.ntmps188,Ahn,Aho,Ahp,Aic,Aid,Agu,Agv,Ahq,Ahr,Ahs,Aht]
  gi_wp2_with (first
   | (gi_at_call 189;refine(callsIn_wide.2 aB.out).mono ?_;rintro e w1 ⟨rfl,ae⟩
      have MX:=Afl (HI.out.later ae);obtain⟨f1,t1,a1,b1,jA,oq⟩:=HY.out (m - 1) n out w1 (by have:=HK.out;simp[eu,NZ] at this;omega) MX.out
      have KX:=Afl oq;have n0: w1.cell? ⟨w.heap.size+6,0,none⟩=some (.int .i64 n.a):=MX.out.n.cell 0;have n1': w1.cell? ⟨w.heap.size+6,1,none⟩=some (.int .i64 n.b):=MX.out.n.cell 1;have n2: w1.cell? ⟨w.heap.size+6,2,none⟩=some (.int .i64 n.c):=MX.out.n.cell 2;have y0: w1.cell? ⟨w.heap.size+5,0,none⟩=some (.func (.yield (w.heap.size+3)) #[] #[]):=MX.out.y.cell 0;have hyy:Sem.run prog (Instr.yield (w.heap.size+3) #[.agg #[.int .i64 n.a,.int .i64 n.b,.int .i64 n.c]]) w1=.ok (.round (w.heap.size+3) f1 t1 a1 b1) w1:=jA;clear jA oq))
  refine KX.out.mono ?_
  rintro e W' ⟨rfl,h2⟩;have H2:=Afl h2;clear h2
  gi_wp2
  go_ret;exact⟨b9 rfl,by simpa [eu,NZ] using H2.out⟩
def R7{b:ao}{f i:Nat}{n:an}{p:Piece}(h:b.pieces[i]?=some p):eu b (f+1) i n=(mR p.len).flatMap λk=>eu b f (i+1) (n.set i k):=by
 conv=>lhs;unfold eu
 rw[h]
def acL{α β:Type}{f:α->List β}{l:List α}{j:Nat}{x:α}(h:l[j]?=some x):((l.take j).flatMap f).length+(f x).length<=(l.flatMap f).length:=by
 have e:l=l.take j++x::l.drop (j+1):=by
  obtain⟨hj,rfl⟩:=Af7.1 h
  rw[List.getElem_cons_drop,Ahu]
 conv=>rhs;rw[e]
 simp only[Ahv,Ahw,Ahx];omega
def xk(i f:Nat)(n m:an):Prop:=∀q,q<3->(q<i\/i+f<=q)->n.at q=m.at q
def an.acv{n m:an}(h:∀q,q<3->n.at q=m.at q):n=m:=by
 have h0:=h 0 (by omega)
 have h1:=h 1 (by omega)
 have h2:=h 2 (by omega)
 cases n;cases m
 simp[an.at] at h0 h1 h2;simp[h0,h1,h2]
def an.at_set{n:an}{i q:Nat}{k:Int}(hi:i<3)(hq:q<3):(n.set i k).at q=if q=i then k else n.at q:=by
 match i,hi,q,hq with
 |0,_,0,_=>simp[an.set,an.at]
 |0,_,1,_=>simp[an.set,an.at]
 |0,_,2,_=>simp[an.set,an.at]
 |1,_,0,_=>simp[an.set,an.at]
 |1,_,1,_=>simp[an.set,an.at]
 |1,_,2,_=>simp[an.set,an.at]
 |2,_,0,_=>simp[an.set,an.at]
 |2,_,1,_=>simp[an.set,an.at]
 |2,_,2,_=>simp[an.set,an.at]
def an.Zq{n:an}{q:Nat}(hq:2<=q):n.at q=n.c:=by unfold an.at;rw[if_neg (by omega),if_neg (by omega)]
def an.Ok.set{n:an}(h:n.Ok){i:Nat}{k:Int}(hi:i<3)(h0:0<=k)(h1:k<=1000):(n.set i k).Ok:=by
 intro q;by_cases hq:q<3
 ·rw[an.at_set hi hq];split
  ·exact⟨h0,h1⟩
  ·exact h q
 ·rw[an.Zq (by omega)]
  have:(n.set i k).c=(n.set i k).at 2:=rfl;rw[this,an.at_set hi (by omega)];split
  ·exact⟨h0,h1⟩
  ·exact h 2
def an.aa5{n:an}{i:Nat}{k:Int}(hi:i<3):n.cs.setIfInBounds i (.int .i64 k)=(n.set i k).cs:=by
 match i,hi with
 |0,_=>rfl
 |1,_=>rfl
 |2,_=>rfl
def an.uR{n:an}{i:Nat}(hi:i<3):n.cs[i]?=some (.int .i64 (n.at i)):=by
 match i,hi with
 |0,_=>rfl
 |1,_=>rfl
 |2,_=>rfl
def RV{b:ao}:∀(f i:Nat) (n m:an),i+f<=3->xk i f n m->eu b f i n=eu b f i m
 |0,i,n,m,hi,h=>by
  have:n=m:=an.acv λq hq=>h q hq (by omega)
  rw[this]
 |f+1,i,n,m,hi,h=>by
  unfold eu;cases b.pieces[i]? with
  |none=>rfl
  |some p=>
   simp only;congr 1;funext k;refine RV f (i+1) _ _ (by omega) λq hq pe=>?_
   rw[an.at_set (by omega) hq,an.at_set (by omega) hq]
   split
   ·rfl
   ·exact h q hq (by omega)
def AI.aln{w:Abc}{b:ao}{pv bv tv:Value}{rec:Loop}{n:an}{out:List an}{W:Abc}(h:AI w b pv bv tv rec n out W){i:Nat}(hi:i<3)(k:Int):AI w b pv bv tv rec (n.set i k) out (W.setCell ⟨w.heap.size+6,i,none⟩ (.int .i64 k)):=by
 have h1:=h.x.lt;refine⟨h.p.cu (by simp) _,h.y.cu (by simp) _,by rw[<-an.aa5 hi];exact h.n.set i _,h.x.cu (by simp) _,?_,(Ahc _ _ _ _ (by simp)).trans h.d,(Ahc _ _ _ _ (by simp)).trans h.l,h.below.setCell (by simp) _⟩
 obtain⟨v,v1,v2⟩:=h.o;refine⟨v,v1.cu (by simp) _,v2.1,?_⟩
 rcases v2.2 with h0| ⟨g,cap,cur,h1,h2,h3,h4⟩
 ·exact .inl h0
 ·exact .inr ⟨g,cap,cur,h1,h2,(Ahc _ _ _ _ (by simp;omega)).trans h3,h4⟩
def PZ(x:Span):(mR x).length=(x.hi - x.lo+1).toNat:=by simp[mR]
def Xq{x:Span}{j:Nat}(h:x.lo+j<=x.hi):(mR x)[j]?=some (x.lo+j):=by
 unfold mR;rw[Ahy,List.getElem?_range (by omega)]
 rfl
def aiX{w:Abc}{b:ao}{pv bv tv:Value}{rec:Loop}{B:Nat}(hB:B<=w.heap.size)(ai:bg w B b pv bv tv)(nI:∀p∈b.pieces,0<=p.len.lo/\p.len.hi<=1000){f i:Nat}(eK:i+(f+1)=b.pieces.length)(h3:b.pieces.length<=3)
 (ih:∀(n:an) (out:List an) (W:Abc) (m:Nat),n.Ok->out.length+(eu b f (i+1) n).length<=1000->AI w b pv bv tv rec n out W->
   CallsIn Ag7 m prog 188 #[.int .i64 (i+1:Int),.pointer (some ⟨w.heap.size+4,0,none⟩),.pointer (some ⟨w.heap.size+6,0,none⟩),.pointer (some ⟨w.heap.size+5,0,none⟩),.pointer (some ⟨w.heap.size+7,0,none⟩)] W
    λe W'=>e=.returned (.bool true)/\∃n',n'.Ok/\xk (i+1) f n' n/\AI w b pv bv tv rec n' (out++eu b f (i+1) n) W')
 {n:an}(hL:n.Ok){out:List an}(hK:out.length+(eu b (f+1) i n).length<=1000){W:Abc}(h:AI w b pv bv tv rec n out W)(m:Nat):
 CallsIn Ag7 m prog 188 #[.int .i64 i,.pointer (some ⟨w.heap.size+4,0,none⟩),.pointer (some ⟨w.heap.size+6,0,none⟩),.pointer (some ⟨w.heap.size+5,0,none⟩),.pointer (some ⟨w.heap.size+7,0,none⟩)] W
  λe W'=>e=.returned (.bool true)/\∃n',n'.Ok/\xk i (f+1) n' n/\AI w b pv bv tv rec n' (out++eu b (f+1) i n) W':=by
 have HI:=Afl h;have HK:=Afl hK;clear hK;obtain⟨A1,n1,c1,rfl,e1,hn,hc,hr⟩:=ai.pieces.open_;have fZ:i<3:=by omega
 have dL:i<n1:=by omega
 obtain⟨ad,p,cs,rfl,aC,hp,⟨rfl,dH⟩,-,au⟩:=hr i dL;have DW:=nI p (Agd hp);have aoH:0<=p.len.lo:=DW.1;have aoI:p.len.hi<=1000:=DW.2;have st:Still B w W:=Still.aK h.below hB;have q1: W.cell? ⟨(ad.add (i * 4)).block,(ad.add (i * 4)).off+1,none⟩=some (.int .i64 p.len.lo):=bK au st aC 0 rfl;have q2: W.cell? ⟨(ad.add (i * 4)).block,(ad.add (i * 4)).off+2,none⟩=some (.int .i64 p.len.hi):=bK au st aC 1 rfl;have HC:=Afl au;have HAD:(ad.add (i * 4)).block<w.heap.size:=by rw[cq];omega
 have p1: W.cell? ⟨w.heap.size+4,1,none⟩=some (.slice (some ad) n1 c1):=h.p.cell 1;have qy:((i:Int)==(n1:Int))=false:=by simp;omega
 have HE:=Afl e1;have HP:=Afl hp;have YE:=Afl eK;have YF:=Afl ih;unfold Aes at hc;clear ai h hr nI hp au st dH ih e1 eK DW;refine Ag0 func188 rfl trivial ?_
 simp only[Tryz.ntmps188,Ahn,Aho,Ahp,Aic,Aid,Agu,Agv,Ahq,Ahr,Ahs,Aht]
 gi_wp2
 gi_loopw [7] (λk wr=>∃(j:Nat) (n':an),j<=(mR p.len).length/\k=.int .i64 (p.len.lo+j)/\n'.Ok/\xk i (f+1) n' n/\Hid (AI w b (.slice (some ad) n1 c1) bv tv rec n' (out++((mR p.len).take j).flatMap λk=>eu b f (i+1) (n.set i k)) wr)) (λk _=>(p.len.hi+1 - Ahb k).toNat)
 case atStart=>exact⟨0,n,Agl _,by simp,hL,λ_ _ _=>rfl,by simpa using HI⟩
 case round=>
  obtain⟨j,n',hj,rfl,TP,Ad,hI⟩:=hrel;have st:Still B w wr:=Still.aK hI.out.below hB;have q1: wr.cell? ⟨(ad.add (i * 4)).block,(ad.add (i * 4)).off+1,none⟩=some (.int .i64 p.len.lo):=bK HC.out st aC 0 rfl;have q2: wr.cell? ⟨(ad.add (i * 4)).block,(ad.add (i * 4)).off+2,none⟩=some (.int .i64 p.len.hi):=bK HC.out st aC 1 rfl;have p1: wr.cell? ⟨w.heap.size+4,1,none⟩=some (.slice (some ad) n1 c1):=hI.out.p.cell 1;have Ks:=Afl Ad;have HJ:Hid (j<=(mR p.len).length):=Afl hj;clear st Ad hj;by_cases al:p.len.lo+j<=p.len.hi
  ·have g6: wr.cell? ⟨w.heap.size+6,i,none⟩=some (.int .i64 (n'.at i)):=(hI.out.n.cell i).trans (an.uR fZ)
   have z6: wr.frozen? ⟨w.heap.size+6,i,none⟩=false:=hI.out.n.frozen i;have x7: wr.cell? ⟨w.heap.size+7,0,none⟩=some (.func (.func 188) #[] #[.pointer (some ⟨w.heap.size+4,0,none⟩),.pointer (some ⟨w.heap.size+6,0,none⟩),.pointer (some ⟨w.heap.size+5,0,none⟩),.pointer (some ⟨w.heap.size+7,0,none⟩)]):=hI.out.x.cell 0;have HS:=Afl (hI.out.aln fZ (p.len.lo+j));have ik:eu b f (i+1) (n'.set i (p.len.lo+j))=eu b f (i+1) (n.set i (p.len.lo+j)):=by
    refine RV _ _ _ _ (by have:=YE.out;omega) λq hq pe=>?_
    rw[an.at_set fZ hq,an.at_set fZ hq];split
    ·rfl
    ·exact Ks.out q hq (by omega)
   have Rc:=Afl ik;clear ik;have Uc:(out++((mR p.len).take j).flatMap λk=>eu b f (i+1) (n.set i k)).length+(eu b f (i+1) (n'.set i (p.len.lo+j))).length<=1000:=by
    have h1:=HK.out;rw[R7 HP.out] at h1;have h2:=acL (f:=λk=>eu b f (i+1) (n.set i k)) (Xq al)
    rw[Rc.out,Ahx];omega
   have aB:=Afl (λm=>YF.out _ _ _ m (TP.set fZ (k:=p.len.lo+j) (by omega) (by omega)) Uc HS.out)
   clear Uc
   gi_wp2_with (first
    | (gi_at_call 188;refine(aB.out _).mono ?_;rintro e w1 ⟨rfl,n2,nB,G5,xz⟩;have KC:=Afl xz;have Yw:=Afl G5;clear xz G5))
   have hlen:j<(mR p.len).length:=by rw[PZ];omega
   have hj1:(mR p.len)[j]?=some (p.len.lo+j):=Xq al;refine⟨⟨j+1,n2,hlen,by go_num,nB,λq hq pe=>?_,?_⟩,by simp[Ahb];omega⟩
   ·rw[Yw.out q hq (by omega),an.at_set fZ hq]
    split
    ·omega
    ·exact Ks.out q hq (by omega)
   ·rw[oJ hj1,Ahv,Ahz,<-List.append_assoc]
    rw[<-Rc.out];exact KC
  ·gi_wp2
   go_ret;refine⟨b9 rfl,n',TP,Ks.out,?_⟩
   rw[R7 HP.out];have:=hI.out;rwa[Agc (by rw[PZ];omega)] at this
def Wg{w:Abc}{b:ao}{pv bv tv:Value}{rec:Loop}{B:Nat}(hB:B<=w.heap.size)(ai:bg w B b pv bv tv)(dh:zz b)(nI:∀p∈b.pieces,0<=p.len.lo/\p.len.hi<=1000)(h3:b.pieces.length<=3)(hY:Lg w b pv bv tv rec):
 ∀(f i:Nat) (n:an) (out:List an) (W:Abc) (m:Nat),i+f=b.pieces.length->n.Ok->out.length+(eu b f i n).length<=1000->AI w b pv bv tv rec n out W->
  CallsIn Ag7 m prog 188 #[.int .i64 i,.pointer (some ⟨w.heap.size+4,0,none⟩),.pointer (some ⟨w.heap.size+6,0,none⟩),.pointer (some ⟨w.heap.size+5,0,none⟩),.pointer (some ⟨w.heap.size+7,0,none⟩)] W
    λe W'=>e=.returned (.bool true)/\∃n',n'.Ok/\xk i f n' n/\AI w b pv bv tv rec n' (out++eu b f i n) W'
 |0,i,n,out,W,m,hi,hL,hK,h=>by
  obtain rfl:i=b.pieces.length:=by omega
  exact(aiW hB ai dh hY hL h hK m).mono λe W' ⟨h1,h2⟩=>⟨h1,n,hL,λ_ _ _=>rfl,h2⟩
 |f+1,i,n,out,W,m,hi,hL,hK,h=>
  aiX hB ai nI hi h3 (λn out W m hL hK h=>Wg hB ai dh nI h3 hY f (i+1) n out W m (by omega) hL hK h) hL hK h m
end Go.Tw
namespace Go.Tw
variable [Go.Tw.aR]
open Go Go.Proofs Go.RowKit
attribute [local go_sem] ze K0 Ag8
def uI{w:Abc}{o:Obj}{g:Nat}(h:g=w.heap.size):(w.alloc o).heap[g]?=some o:=by subst h;exact heap_alloc_new w _
def mm{w:Abc}{o o':Obj}{g:Nat}(h:w.heap[g]?=some o'):(w.alloc o).heap[g]?=some o':=(Ahd w o g (Aaf.1 h).1).trans h
def ZM{w:Abc}{b:ao}{pv bv tv:Value}{rec:Loop}{B:Nat}(hB:B<=w.heap.size)(ai:bg w B b pv bv tv)(dh:zz b)(nI:∀p∈b.pieces,0<=p.len.lo/\p.len.hi<=1000)(h3:b.pieces.length<=3)(hK:(aD b).length<=1000)(hY:Lg w b pv bv tv rec)
 {W:Abc}(hs:W.heap.size=w.heap.size+4)(hc:Bk W (w.heap.size+1) 115 #[.slice none 0 0])(hd:W.heap[w.heap.size+2]?=some (.deferred (some [])))(hl:W.heap[w.heap.size+3]?=some (.loop rec))(hb:Below w.heap.size w W)(m:Nat):
 CallsIn Ag7 m prog 162 #[.agg #[.int .i64 b.ag,pv,bv,tv],.func (.yield (w.heap.size+3)) #[] #[]] W
  λe W'=>(∃v,e=.returned v)/\∃n',AI w b pv bv tv rec n' (aD b) W':=by
 obtain⟨W2,jw⟩:∃W2,W2=((((W.alloc (.cells #[.int .i64 b.ag,pv,bv,tv] 117)).alloc (.cells #[.func (.yield (w.heap.size+3)) #[] #[]] 182)).alloc (.cells #[.int .i64 0,.int .i64 0,.int .i64 0] 128)).alloc (.cells #[.func (.func 188) #[] #[.pointer (some ⟨W.heap.size,0,none⟩),.pointer (some ⟨W.heap.size+1+1,0,none⟩),.pointer (some ⟨W.heap.size+1,0,none⟩),.pointer (some ⟨W.heap.size+1+1+1,0,none⟩)]] 158)):=⟨_,rfl⟩
 have e4:w.heap.size+4=W.heap.size:=by omega
 have e5:w.heap.size+5=W.heap.size+1:=by omega
 have e6:w.heap.size+6=W.heap.size+1+1:=by omega
 have e7:w.heap.size+7=W.heap.size+1+1+1:=by omega
 have G6:AI w b pv bv tv rec ⟨0,0,0⟩ [] W2:=by
  subst jw;refine⟨?_,?_,?_,?_,⟨.slice none 0 0,?_,by simp,.inl ⟨rfl,rfl⟩⟩,?_,?_,?_⟩
  ·rw[e4];exact(((Bk.cG rfl _ _).alloc _).alloc _).alloc _
  ·rw[e5];exact((Bk.cG (by simp) _ _).alloc _).alloc _
  ·rw[e6];exact(Bk.cG (by simp) _ _).alloc _
  ·rw[e4,e5,e6,e7];exact Bk.cG (by simp) _ _
  ·exact(((hc.alloc _).alloc _).alloc _).alloc _
  ·exact mm (mm (mm (mm hd)))
  ·exact mm (mm (mm (mm hl)))
  ·exact(((hb.alloc (by omega) _).alloc (by simp;omega) _).alloc (by simp;omega) _).alloc (by simp;omega) _
 have nO:=Wg hB ai dh nI h3 hY b.pieces.length 0 ⟨0,0,0⟩ [] W2 (m - 1) (by omega) (λq=>by unfold an.at;simp) (by simpa [aD] using hK) G6
 rw[e4,e5,e6,e7,show((0:Nat):Int)=0 from rfl,Ahs] at nO
 obtain⟨A1,n1,c1,rfl,-⟩:=ai.pieces.open_;obtain⟨A2,n2,c2,rfl,-⟩:=ai.aF.open_;obtain⟨A3,n3,c3,rfl,-⟩:=ai.aJ.open_;subst jw;have Yx:=Afl nO;clear nO ai hY hd hl hb hc hs G6 e4 e5 e6 e7;refine Ag0 func162 rfl trivial ?_
 simp only[Tryz.ntmps162,Ahn,Aho,Ahp,Aic,Aid,Agu,Agv,Ahq,Ahr,Ahs,Aht]
 gi_wp2_with (first
  | (gi_at_call 188;refine Yx.out.mono ?_;rintro e w1 ⟨rfl,n2,nB,G5,xz⟩;have KC:=Afl xz;clear xz G5))
 go_end0
 exact⟨⟨_,rfl⟩,n2,KC.out⟩
end Go.Tw
namespace Go.Tw
variable [Go.Tw.aR]
open Go Go.Proofs Go.RowKit
def yD(fn:FuncId)(tmps:Array Value)(ps:Array Tmp)(assign body:Code)(D:Nat):Loop:={state:=.ready,pending:=none,fn,tmps,params:=ps,assign,body,defers:=D}
def Pr{n:Nat}{P:Abe}{g:Abm}{ps:Array Tmp}{assign body:Code}{Q:Exit->Act->Abc->Prop}{a:Act}{w:Abc}{gf:Nat}{pre lb:Array Value}
 (hg:a.eval g=.func (.func gf) pre lb)(eg:∀args w,(callFunc gf args).run P w=.ok (.enter gf args) w)
 (h:∀fn rc,Hid (rc=yD fn a.tmps ps assign body w.heap.size)->CallsIn Ag7 (n - 1) P gf (pre++#[.func (.yield (w.heap.size+1)) #[] #[]]++lb) ((w.alloc (.deferred (some []))).alloc (.loop rc))
   (rangePost Ag7 n P (w.heap.size+1) Q {a with defers:={target:=.collected w.heap.size,args:=#[]}::a.defers})):
 (Code.rangeFunc g ps assign body).wpIn Ag7 n P Q a w:=by
 refine wpIn_rangeFunc λfn _=>?_
 obtain⟨W1,eJ⟩:∃W1,W1=(w.alloc (.deferred (some []))).alloc (.loop (yD fn a.tmps ps assign body w.heap.size)):=⟨_,rfl⟩
 have h1:=h fn _ (Afl rfl);rw[<-eJ] at h1;have r1:(Instr.enterLoop fn a.tmps ps assign body Ag7.round).run P w=.ok (w.heap.size+1,[{target:=.collected w.heap.size,args:=#[]}]) W1:=by
  rw[eJ];exact run_enterLoop_outer fn a.tmps ps assign body
 have r2:(resolve a.eval (rangeCall g (w.heap.size+1)) 0).run P W1=.ok {target:=.fn (.func gf) lb,args:=pre++#[.func (.yield (w.heap.size+1)) #[] #[]]} W1:=by
  simp only[resolve,hg];simp[go_sem]
 have r3:(invoke (.fn (.func gf) lb) (pre++#[.func (.yield (w.heap.size+1)) #[] #[]])).run P W1=.ok (.enter gf (pre++#[.func (.yield (w.heap.size+1)) #[] #[]]++lb)) W1:=by
  simp[invoke,go_sem,eg]
 refine⟨_,_,_,_,_,_,_,_,r1,r2,?_,r3,?_,?_⟩
 ·intro f' _;trivial
 ·intro h;cases h
 ·exact h1
def Qy{m n:Nat}{P:Abe}{rc:Loop}{fn:FuncId}{tmps:Array Value}{ps:Array Tmp}{assign body:Code}{D l:Nat}{W:Abc}{args:Array Value}{R:Ag1->Abc->Prop}
 (gP:Hid (rc=yD fn tmps ps assign body D))(hl:W.heap[l]?=some (.loop rc))(NU:args.size=ps.size)
 (h:assign.wpIn (Ag7.inRound l) n P (Exit.then (λbB aa=>∃aq,(Instr.beginRound l).run P aa=.ok () aq/\body.wpIn (Ag7.inRound l) n P (roundPost P l R) bB aq) (λ_ _ _=>False))
   {tmps:=(ps.zip args).foldl (λt (p,v)=>t.setIfInBounds p v) tmps,defers:=[]} W):YieldAt Ag7 m P l args W R:=by
 rw[gP.out] at hl;refine⟨fn,_,assign,body,run_yield hl NU,?_⟩
 have:=roundIn_of_wpIn (F:=Ag7) (l:=l) (f:=fn) (R:=R) trivial h;exact⟨trivial,λc cs _=>this.2 c cs (room_wide _)⟩
def abC{P:Abe}{rc:Loop}{fn:FuncId}{tmps:Array Value}{ps:Array Tmp}{assign body:Code}{D l:Nat}{W:Abc}(gP:Hid (rc=yD fn tmps ps assign body D))(hl:W.heap[l]?=some (.loop rc)):
 (Instr.beginRound l).run P W=.ok () (W.putObj l (.loop {rc with state:=.busy})):=run_beginRound hl (by rw[gP.out];rfl)
def ajP{P:Abe}{rc:Loop}{fn:FuncId}{tmps:Array Value}{ps:Array Tmp}{assign body:Code}{D l:Nat}{W:Abc}(gP:Hid (rc=yD fn tmps ps assign body D))(hl:W.heap[l]?=some (.loop {rc with state:=.busy})):
 (Instr.endRound l none).run P W=.ok (.bool true) (W.putObj l (.loop rc)):=by
 rw[run_endRound none hl,gP.out];rfl
def L7{P:Abe}{rc:Loop}{fn:FuncId}{tmps:Array Value}{ps:Array Tmp}{assign body:Code}{D l:Nat}{W:Abc}(gP:Hid (rc=yD fn tmps ps assign body D))(hl:W.heap[l]?=some (.loop rc)):
 (Instr.endLoop l).run P W=.ok none (W.putObj l (.loop {rc with state:=.exhausted})):=by
 rw[run_endLoop hl (by rw[gP.out];simp[yD]),gP.out];rfl
def SQ{P:Abe}{rc:Loop}{l:Nat}{W:Abc}(j:Code)(hl:W.heap[l]?=some (.loop {rc with state:=.busy})):
 (Instr.endRound l (some j)).run P W=.ok (.bool false) (W.putObj l (.loop {rc with state:=.done,pending:=some j})):=run_endRound (r:={rc with state:=.busy}) (some j) hl
def SW{P:Abe}{rc:Loop}{l:Nat}{W:Abc}{j:Code}(hl:W.heap[l]?=some (.loop {rc with state:=.done,pending:=some j})):
 (Instr.endLoop l).run P W=.ok (some j) (W.putObj l (.loop {rc with state:=.exhausted,pending:=some j})):=run_endLoop (r:={rc with state:=.done,pending:=some j}) hl (by simp)
end Go.Tw
namespace Go.Tw
variable [Go.Tw.aR]
open Go Go.Proofs Go.RowKit
attribute [local go_sem] ze K0 Ag8
def agc:(prog.info? 128).map (λi=>(i.zero,i.size,i.bytes))=some (some (.agg #[.int .i64 0,.int .i64 0,.int .i64 0]),3,24):=by
 rw[pB];kernel_rfl
structure RB(w W Wb:Abc)(rc:Loop)(v:Value)(n:an)(out:List an):Prop where
 size:Wb.heap.size=W.heap.size+1
 l:Wb.heap[w.heap.size+3]?=some (.loop {rc with state:=.busy})
 o:Bk Wb (w.heap.size+1) 115 #[v]
 own:Wb.ownsRow (w.heap.size+8) 128 3 v out.length (out.flatMap an.vs)
 nb:Bk Wb W.heap.size 128 n.cs
 old:∀g,g<W.heap.size->g≠w.heap.size+3->Wb.heap[g]?=W.heap[g]?
 below:Below w.heap.size w Wb
def RB.mk'{w:Abc}{b:ao}{pv bv tv:Value}{rc:Loop}{m n:an}{out:List an}{W:Abc}(h:AI w b pv bv tv rc m out W):
 ∃v,RB w W ((W.alloc (.cells n.cs 128)).putObj (w.heap.size+3) (.loop {rc with state:=.busy})) rc v n out:=by
 obtain⟨v,v1,v2⟩:=h.o;have hx:=h.x.lt;refine⟨v,⟨by simp,Ahh (by simp;omega),?_,?_,?_,λg hg aw=>?_,?_⟩⟩
 ·exact(Ahi (by omega)).trans (v1.alloc _)
 ·refine⟨v2.1,?_⟩
  rcases v2.2 with h0| ⟨g,cap,cur,h1,h2,h3,h4⟩
  ·exact .inl h0
  ·exact .inr ⟨g,cap,cur,h1,h2,(Ahi (by omega)).trans (mm h3),h4⟩
 ·exact(Ahi (by omega)).trans (Bk.new W _ _)
 ·exact(Ahi (by omega)).trans (Ahd _ _ _ hg)
 ·exact(h.below.alloc (by omega) _).grown (Ag2 _ _ _) (by simp;omega) (λk hk=>by cases hk;omega)
def j8{w:Abc}{base:Nat}{e:Aa8}{sz n:Nat}{v:Value}{xs:List Value}(h:w.ownsRow base e sz v n xs):∃A m c,v=.slice A m c:=by
 rcases h.2 with⟨rfl,_⟩ | ⟨g,cap,cur,rfl,_⟩
 ·exact⟨_,_,_,rfl⟩
 ·exact⟨_,_,_,rfl⟩
def RB.later{w W Wb W4:Abc}{rc:Loop}{v:Value}{n:an}{out:List an}{o:Obj}(r:RB w W Wb rc v n out)(hs:w.heap.size+8<=W.heap.size)(hg:(Wb.alloc o).grownBy W4 v.ownBlock):
 Bk W4 (w.heap.size+1) 115 #[v]/\W4.heap[w.heap.size+3]?=some (.loop {rc with state:=.busy}):=by
 have ob:∀k,v.ownBlock=some k->w.heap.size+8<=k:=ei r.own
 have e4:∀g,g<w.heap.size+8->W4.heap[g]?=Wb.heap[g]?:=λg oy=>(hg.block g (by simp[r.size];omega) (λe=>by have:=ob g e.symm;omega)).trans (Ahd _ _ _ (by rw[r.size];omega))
 exact⟨(e4 _ (by omega)).trans r.o,(e4 _ (by omega)).trans r.l⟩
def EK{w:Abc}{base:Nat}{e:Aa8}{sz n g':Nat}{v:Value}{xs:List Value}{o:Obj}(h:w.ownsRow base e sz v n xs)(hg:g'<base):(w.putObj g' o).ownsRow base e sz v n xs:=by
 refine⟨h.1,?_⟩
 rcases h.2 with h0| ⟨g,cap,cur,h1,h2,h3,h4⟩
 ·exact .inl h0
 ·exact .inr ⟨g,cap,cur,h1,h2,(Ahi (by omega)).trans h3,h4⟩
def _root_.Go.World.ownsRow.base{w:Abc}{base sV:Nat}{e:Aa8}{sz n:Nat}{v:Value}{xs:List Value}(h:w.ownsRow base e sz v n xs)(hb:sV<=base):w.ownsRow sV e sz v n xs:=by
 refine⟨h.1,?_⟩
 rcases h.2 with h0| ⟨g,cap,cur,h1,h2,h3,h4⟩
 ·exact .inl h0
 ·exact .inr ⟨g,cap,cur,h1,by omega,h3,h4⟩
def RB.done{w:Abc}{b:ao}{pv bv tv:Value}{rc:Loop}{n:an}{out:List an}{W Wb W4:Abc}{v v':Value}{o:Obj}(h:AI w b pv bv tv rc n out W)(r:RB w W Wb rc v n out)
 (aG:W4.ownsRow (w.heap.size+8) 128 3 v' (out.length+1) (out.flatMap an.vs++n.vs))(hg:(Wb.alloc o).grownBy W4 v.ownBlock):
 AI w b pv bv tv rc n (out++ [n]) ((W4.setCell ⟨w.heap.size+1,0,none⟩ v').putObj (w.heap.size+3) (.loop rc)):=by
 have hx:=h.x.lt;have ob:∀k,v.ownBlock=some k->w.heap.size+8<=k:=ei r.own
 have ob':∀k,v'.ownBlock=some k->w.heap.size+8<=k:=ei aG
 have e4:∀g,g<w.heap.size+8->W4.heap[g]?=Wb.heap[g]?:=λg oy=>(hg.block g (by simp[r.size];omega) (λe=>by have:=ob g e.symm;omega)).trans (Ahd _ _ _ (by rw[r.size];omega))
 have e6:∀g,g<w.heap.size+8->g≠w.heap.size+3->g≠w.heap.size+1->((W4.setCell ⟨w.heap.size+1,0,none⟩ v').putObj (w.heap.size+3) (.loop rc)).heap[g]?=W.heap[g]?:=λg oy h3 h1=>
  (Ahi h3).trans ((Ahc _ _ _ _ (by simpa using h1)).trans ((e4 g oy).trans (r.old g (by omega) h3)))
 have tK:w.heap.size+8<=W4.heap.size:=by have:=hg.size;simp[r.size] at this;omega
 refine⟨(e6 _ (by omega) (by omega) (by omega)).trans h.p,(e6 _ (by omega) (by omega) (by omega)).trans h.y,(e6 _ (by omega) (by omega) (by omega)).trans h.n,(e6 _ (by omega) (by omega) (by omega)).trans h.x,
  ⟨v',?_,?_⟩,(e6 _ (by omega) (by omega) (by omega)).trans h.d,Ahh (by simp[Adx];omega),?_⟩
 ·have h4:Bk W4 (w.heap.size+1) 115 #[v]:=(e4 _ (by omega)).trans r.o
  exact(Ahi (by omega)).trans (h4.set 0 v')
 ·have e:(out++ [n]).length=out.length+1:=by simp
  rw[e,Ahv,Ahz];refine⟨aG.1,?_⟩
  rcases aG.2 with h0| ⟨g,cap,cur,h1,h2,h3,h4⟩
  ·exact .inl h0
  ·exact .inr ⟨g,cap,cur,h1,h2,(Ahi (by omega)).trans ((Ahc _ _ _ _ (by simp;omega)).trans h3),h4⟩
 ·refine Ahe (w:=W4.setCell ⟨w.heap.size+1,0,none⟩ v') ?_ (Ag2 _ _ _) (by simp[Adx];omega) (λk hk=>by cases hk;omega)
  refine Ahf ?_ (by simp) _
  exact Ahe (r.below.alloc (by rw[r.size];omega) _) hg (by simp[r.size];omega) (λk hk=>by have:=ob k hk;omega)
def Zi{w:Abc}{b:ao}{pv bv tv:Value}{B:Nat}(hB:B<=w.heap.size)(ai:bg w B b pv bv tv)(dh:zz b)(nI:∀p∈b.pieces,0<=p.len.lo/\p.len.hi<=1000)(h3:b.pieces.length<=3)(hK:(aD b).length<=1000):
 Aet prog 96 #[.agg #[.int .i64 b.ag,pv,bv,tv]] w λe w'=>∃v,e=.returned v/\w'.ownsRow w.heap.size 128 3 v (aD b).length ((aD b).flatMap an.vs)/\Below w.heap.size w w':=by
 refine(callsIn_wide (n:=0)).1 ?_
 have bT:=Afl ai;obtain⟨A1,n1,c1,rfl,-⟩:=ai.pieces.open_;obtain⟨A2,n2,c2,rfl,-⟩:=ai.aF.open_;obtain⟨A3,n3,c3,rfl,-⟩:=ai.aJ.open_;clear ai;obtain⟨i0,cR,cT,aN,ba⟩:=Agy agc;have dv:=Afl (Aee cR (Aee cT (Aee aN ba)));clear cR cT aN ba;refine callsIn_of_wp_marks func96 rfl trivial ?_
 simp only[Tryz.ntmps96,Ahn,Aho,Ahp,Aic,Aid,Agu,Agv,Ahq,Ahr,Ahs,Aht]
 gi_wp2
 refine Pr (gf:=162) (pre:=#[.agg #[.int .i64 b.ag,.slice A1 n1 c1,.slice A2 n2 c2,.slice A3 n3 c3]]) (lb:=#[]) rfl call162 λfn rc gP=>?_
 simp only[Ahj,Nat.add_assoc,Aic,Ahr,Aht,Ahs,Ah0];refine(ZM (w:=w) hB bT.out dh nI h3 hK (rec:=rc) ?yround (by simp) (((Bk.cG (by simp) _ _).alloc _).alloc _) (mm (uI (by simp))) (uI (by simp)) (((((Aft _ _).alloc (Ad4 _) _).alloc (by simp) _).alloc (by simp;omega) _).alloc (by simp;omega) _) _).mono ?_
 case yround=>
  intro m n out W hlen hI;have HI:=Afl hI;refine Qy (n:=0) gP hI.l rfl ?_
  clear hI;simp only[List.zip_toArray,List.zip_cons_cons,List.zip_nil_right,List.foldl_toArray,List.foldl_cons,List.foldl_nil];obtain⟨na,nb,nc⟩:=n;simp only[an.cs]
  gi_wp2
  obtain⟨v,mF⟩:=RB.mk' (n:=⟨na,nb,nc⟩) HI.out;refine⟨_,abC gP (mm HI.out.l),?_⟩
  obtain⟨Wb,qe⟩:∃Wb,Wb=(W.alloc (Afq #[Afx Adf na,Afx Adf nb,Afx Adf nc] 128)).putObj (w.heap.size+3) (.loop {rc with state:=.busy}):=⟨_,rfl⟩
  replace mF:RB w W Wb rc v ⟨na,nb,nc⟩ out:=by rw[qe];exact mF
  rw[<-qe];clear qe;have HR:=Afl mF;have b0: Wb.cell? ⟨w.heap.size+1,0,none⟩=some v:=mF.o.cell 0;have z0:=mF.o.frozen 0;have c0: Wb.cell? ⟨W.heap.size,0,none⟩=some (.int .i64 na):=mF.nb.cell 0;have c1: Wb.cell? ⟨W.heap.size,1,none⟩=some (.int .i64 nb):=mF.nb.cell 1;have c2: Wb.cell? ⟨W.heap.size,2,none⟩=some (.int .i64 nc):=mF.nb.cell 2;clear mF
  gi_wp2_with (first
   | (gi_at_builtin
      refine wpListIn_append_own _ rfl (.tmp 8) (.tmp 10) 115 rfl (w.heap.size+8) 128 i0 (.agg #[.int .i64 0,.int .i64 0,.int .i64 0]) 3 24 (U Tryz.underlying115) dv.out.1 dv.out.2.1 dv.out.2.2.1 dv.out.2.2.2 rfl (by decide) _ out.length _ rfl (HR.out.own.alloc _) ⟨Wb.heap.size,0,none⟩ 1 1 [.int .i64 na,.int .i64 nb,.int .i64 nc] rfl rfl ?c1 ?c2 ?c3 ?c4 ?c5 ?_
      case c1=>(intro j u hu;match j,hu with|0,hu=>(simp at hu;subst hu;simp[go_sem,Ag6]) |1,hu=>(simp at hu;subst hu;simp[go_sem,Ag6]) |2,hu=>(simp at hu;subst hu;simp[go_sem,Ag6]))
      case c2=>simp[Value.oneCell']
      case c3=>(simp only[Aes];omega)
      case c4=>omega
      case c5=>(have:=HR.out.size;have:=HI.out.x.lt;simp;omega)
      intro v' w1 cK dT _;obtain⟨A9,m9,c9,rfl⟩:=j8 cK;have HL:=Afl (HR.out.later (by have:=HI.out.x.lt;omega) dT)
      have s0: w1.cell? ⟨w.heap.size+1,0,none⟩=some v:=HL.out.1.cell 0;have s1:=HL.out.1.frozen 0;have gW:=Afl cK;have gV:=Afl dT;clear cK dT))
  refine⟨_,_,ajP gP ((Ahc _ _ _ _ (by simp)).trans HL.out.2),rfl,?_⟩
  exact HR.out.done HI.out gW.out gV.out
 ·rintro e W2 ⟨⟨v,rfl⟩,n',hI⟩
  have HI:=Afl hI;refine⟨none,_,L7 gP hI.l,?_⟩
  clear hI;obtain⟨v2,vC,AK⟩:=HI.out.o;obtain⟨A9,m9,c9,rfl⟩:=j8 AK;have HV:=Afl AK;obtain⟨W3,iL⟩:∃W3,W3=W2.putObj (w.heap.size+3) (.loop {rc with state:=.exhausted}):=⟨_,rfl⟩
  have k1: W3.cell? ⟨w.heap.size+1,0,none⟩=some (.slice A9 m9 c9):=by rw[iL];exact Bk.cell (g:=w.heap.size+1) ((Ahi (by omega)).trans vC) 0
  have HD:Hid (W3.heap[w.heap.size+2]?=some (.deferred (some []))):=Afl (by rw[iL];exact(Ahi (by omega)).trans HI.out.d)
  have HB:Hid (Below w.heap.size w W3):=Afl (by rw[iL];exact HI.out.below.grown (Ag2 _ _ _) (by have:=HI.out.x.lt;omega) (λk hk=>by cases hk;omega))
  have HO:Hid (W3.ownsRow (w.heap.size+8) 128 3 (.slice A9 m9 c9) (aD b).length ((aD b).flatMap an.vs)):=Afl (by
   rw[iL];refine⟨HV.out.1,?_⟩
   rcases HV.out.2 with h0| ⟨g,cap,cur,h1,h2,h3,h4⟩
   ·exact .inl h0
   ·exact .inr ⟨g,cap,cur,h1,h2,(Ahi (by omega)).trans h3,h4⟩)
  rw[<-iL];clear iL vC AK
  gi_wp2
  refine⟨by simp,.inl ⟨_,_,rfl,Ag3 HD.out,?_⟩⟩
  refine⟨_,results_tmp rfl _ _ _,_,rfl,(EK HO.out (by omega)).base (by omega),HB.out.grown (Ag2 _ _ _) ?_ (λk hk=>by cases hk;omega)⟩
  have:=HB.out.size;omega
end Go.Tw
namespace Go.Tw
variable [Go.Tw.aR]
open Go Go.Proofs Go.RowKit
def GL{α:Type}{f:α->List Value}{sz:Nat}(hf:∀x,(f x).length=sz):∀(l:List α) (i:Nat) (x:α) (j:Nat) (u:Value),l[i]?=some x->(f x)[j]?=some u->(l.flatMap f)[i * sz+j]?=some u
 | [],i,x,j,u,hi,_=>by simp at hi
 |a::l,0,x,j,u,hi,hu=>by
  simp at hi;subst hi;rw[Ahw,Nat.zero_mul,Nat.zero_add,List.getElem?_append_left (Af7.1 hu).1]
  exact hu
 |a::l,i+1,x,j,u,hi,hu=>by
  rw[Ahw,Ah1 (by rw[hf,Aie];omega),hf]
  have e:(i+1) * sz+j - sz=i * sz+j:=by rw[Aie];omega
  rw[e];exact GL hf l i x j u (by simpa using hi) hu
def lu{α:Type}{w:Abc}{base:Nat}{e:Aa8}{sz:Nat}{v:Value}{R:α->List Value->Prop}{f:α->List Value}{l:List α}(h:w.ownsRow base e sz v l.length (l.flatMap f))(hf:∀x,(f x).length=sz)(hR:∀x∈l,R x (f x)):
 Row w w.heap.size sz R v l:=by
 rcases h.2 with⟨rfl,h0⟩ | ⟨g,cap,cur,rfl,h2,h3,h4,h5,h6,h7⟩
 ·have:l=[]:=List.length_eq_zero_iff.1 h0
  subst this;exact Row.nil
 ·refine⟨some ⟨g,0,none⟩,cap,rfl,h4,h5,λ_=>⟨⟨g,0,none⟩,rfl,(Aaf.1 h3).1,λi x hx=>⟨f x,hR x (Agd hx),hf x,λj u hu=>?_⟩⟩⟩
  have al:j<sz:=by have:=(Af7.1 hu).1;rw[hf] at this;exact this
  have h8:=GL hf l i x j u hx hu;rw[<-h7,List.getElem?_take] at h8
  have qp:i * sz+j<l.length * sz:=by
   have qp:=(Af7.1 hx).1
   calc i * sz+j<i * sz+sz:=by omega
    _=(i+1) * sz:=by rw[Aie];omega
    _<=l.length * sz:=Aif _ qp
  rw[if_pos qp] at h8;have e:(⟨g,0,none⟩:Addr).add (i * sz+j)=⟨g,i * sz+j,none⟩:=by
   unfold Ag6;split
   ·rename_i h;rw[h]
   ·simp
  rw[e];exact(cell_of_row w g (i * sz+j) cur _ (0,0) h3).trans (by rw[<-Agw];exact h8)
def ahb{w:Abc}{base:Nat}{v:Value}{l:List an}(h:w.ownsRow base 128 3 v l.length (l.flatMap an.vs)):Row w w.heap.size 3 an.R v l:=lu h (λ_=>rfl) λ_ _=>rfl
def aeg{b:ao}(hw:∀p∈b.pieces,p.len.hi - p.len.lo<3):∀(f i:Nat) (n:an),(eu b f i n).length<=3 ^ f
 |0,i,n=>by unfold eu;split<;>simp
 |f+1,i,n=>by
  unfold eu;cases h:b.pieces[i]? with
  |none=>simp
  |some p=>
   have h1:=hw p (Agd h);have h2:(mR p.len).length<=3:=by rw[PZ];omega
   simp only;have key:∀l:List Int,(l.flatMap λk=>eu b f (i+1) (n.set i k)).length<=l.length * 3 ^ f:=by
    intro l;induction l with
    |nil=>simp
    |cons a l ih=>
     rw[Ahw,Ahx,Aho,Aie,Nat.one_mul,Nat.add_comm];exact Nat.add_le_add ih (aeg hw f (i+1) _)
   refine Ad5 (key _) ?_
   rw[Nat.pow_succ,Nat.mul_comm (3 ^ f)];exact Aif _ h2
def Ct{b:ao}(hv:Valid b):(aD b).length<=27:=by
 refine Ad5 (aeg (λp hp=>(hv.piece p hp).wide) _ _ _) ?_
 exact Aig (n:=3) (by omega) hv.np.2
def eo{w:Abc}{base:Nat}{e:Aa8}{sz n:Nat}{v u:Value}{p:Addr}{xs:List Value}(h:w.ownsRow base e sz v n xs)(hg:p.block<base):(w.setCell p u).ownsRow base e sz v n xs:=by
 refine⟨h.1,?_⟩
 rcases h.2 with h0| ⟨g,cap,cur,h1,h2,h3,h4⟩
 ·exact .inl h0
 ·exact .inr ⟨g,cap,cur,h1,h2,(Ahc _ _ _ _ (by omega)).trans h3,h4⟩
def qQ(w:Abc)(base:Nat)(v:Value)(l:List an):Prop:=w.ownsRow base 128 3 v l.length (l.flatMap an.vs)
def qQ.row{w:Abc}{base:Nat}{v:Value}{l:List an}(h:qQ w base v l):Row w w.heap.size 3 an.R v l:=ahb h
def qQ.set{w:Abc}{base:Nat}{v u:Value}{p:Addr}{l:List an}(h:qQ w base v l)(hp:p.block<base):qQ (w.setCell p u) base v l:=eo h hp
def qQ.alloc{w:Abc}{base:Nat}{v:Value}{l:List an}(h:qQ w base v l)(o:Obj):qQ (w.alloc o) base v l:=Ahl h o
def qQ.base{w:Abc}{base sV:Nat}{v:Value}{l:List an}(h:qQ w base v l)(hb:sV<=base):qQ w sV v l:=World.ownsRow.base h hb
def all{w:Abc}{b:ao}{pv bv tv:Value}{B:Nat}(hB:B<=w.heap.size)(ai:bg w B b pv bv tv)(hv:Valid b):
 Aet prog 96 #[.agg #[.int .i64 b.ag,pv,bv,tv]] w λe w'=>∃v,e=.returned v/\qQ w' w.heap.size v (aD b)/\Below w.heap.size w w':=
 (Zi hB ai hv.amb (λp hp=>⟨by have:=(hv.piece p hp).lo;omega,by have:=(hv.piece p hp).hi;omega⟩) hv.np.2 (by have:=Ct hv;omega)).mono λ_ _ ⟨v,h1,h2,h3⟩=>⟨v,h1,h2,h3⟩
def cj(b:ao)(s:Int):Int:=if dF b≠0 then dF b else if s≠0 then s else if(aD b).length=0 then 9 else 0
def sK(b:ao)(pv bv tv:Value)(w:Abc)(K:Nat)(lb:Array Value)(s:Int):Prop:=
 (∀args w,(callFunc K args).run prog w=.ok (.enter K args) w)/\(dF b=0->∀W:Abc,Below w.heap.size w W->Aet prog K (#[.agg #[.int .i64 b.ag,pv,bv,tv]]++lb) W λe W'=>e=.returned (.int .i64 s)/\Below W.heap.size W W')
def ry{b:ao}{pv bv tv:Value}{w:Abc}{B:Nat}(hb:bg w B b pv bv tv)(hB:B<=w.heap.size)(h:dF b=0):
 Aet prog 68 #[.agg #[.int .i64 b.ag,pv,bv,tv]] w λe w'=>e=.returned (.int .i64 0)/\Below w.heap.size w w':=by
 have:=LS hb hB;rwa[h] at this
def ajk{w:Abc}{b:ao}{pv bv tv:Value}{B:Nat}{g:Value}(hB:B<=w.heap.size)(ai:bg w B b pv bv tv)(h0:dF b≠0):
 Aet prog 98 #[.agg #[.int .i64 b.ag,pv,bv,tv],g] w λe w'=>e=.returned (.tuple #[.agg #[.int .i64 0,.slice none 0 0,.slice none 0 0,.slice none 0 0,.slice none 0 0],.int .i64 (dF b)])/\Below w.heap.size w w':=by
 have bT:=Afl ai;obtain⟨A1,n1,c1,rfl,-⟩:=ai.pieces.open_;obtain⟨A2,n2,c2,rfl,-⟩:=ai.aF.open_;obtain⟨A3,n3,c3,rfl,-⟩:=ai.aJ.open_;clear ai;go_enter func98,Tryz.ntmps98;go_wp2_with (first
  | (go_at_call 68;refine(LS (bT.out.still ((((Still.refl w).alloc hB _).alloc (by simp;omega) _))) (by simp;omega)).mono ?_;rintro e w1 ⟨rfl,ae⟩;obtain⟨ff,gM⟩:=fy ae rfl;have aY:=Afl ae;clear ae))
 refine Ag4 (v:=.tuple #[.agg #[.int .i64 0,.slice none 0 0,.slice none 0 0,.slice none 0 0,.slice none 0 0],.int .i64 (dF b)]) (by simp[results,Tryz.results98,go_sem,ff,gM]) rfl ⟨rfl,?_⟩
 repeat refine Ahf ?_ (by simp) _
 exact(((Aft _ _).alloc (Ad4 _) _).alloc (by simp) _).trans (aY.out.mono (by simp;omega))
def ajl{w:Abc}{b:ao}{pv bv tv:Value}{B K:Nat}{lb:Array Value}{s:Int}(hB:B<=w.heap.size)(ai:bg w B b pv bv tv)(hK:sK b pv bv tv w K lb s)(h0:dF b=0)(hs:s≠0):
 Aet prog 98 #[.agg #[.int .i64 b.ag,pv,bv,tv],fv K lb] w λe w'=>e=.returned (.tuple #[.agg #[.int .i64 0,.slice none 0 0,.slice none 0 0,.slice none 0 0,.slice none 0 0],.int .i64 s])/\Below w.heap.size w w':=by
 obtain⟨eg,hK⟩:=hK;have HK:=Afl (hK h0);have bT:=Afl ai;have H0:=Afl h0;obtain⟨A1,n1,c1,rfl,-⟩:=ai.pieces.open_;obtain⟨A2,n2,c2,rfl,-⟩:=ai.aF.open_;obtain⟨A3,n3,c3,rfl,-⟩:=ai.aJ.open_;clear ai hK h0;go_enter func98,Tryz.ntmps98;go_wp2_with (first
  | (go_at_call 68;refine(ry (bT.out.still ((((Still.refl w).alloc hB _).alloc (by simp;omega) _))) (by simp;omega) H0.out).mono ?_;rintro e w1 ⟨rfl,ae⟩
     have aN:w.heap.size+2<=w1.heap.size:=by have:=ae.size;simpa using this
     have k1:Hid (Bk w1 (w.heap.size+1) 122 #[.int .i64 0,.slice none 0 0,.slice none 0 0,.slice none 0 0,.slice none 0 0]):=Afl ((Bk.cG (by simp) _ _).below ae (by simp))
     have kb:Bk w1 w.heap.size 26 #[.int .i64 b.ag,.slice A1 n1 c1,.slice A2 n2 c2,.slice A3 n3 c3]:=((Bk.new w _ _).alloc _).below ae (by simp;omega)
     have b0:=kb.cell 0;have b1:=kb.cell 1;have b2:=kb.cell 2;have b3:=kb.cell 3;clear kb;have aY:Hid (Below w.heap.size w w1):=Afl ((((Aft _ _).alloc (Ad4 _) _).alloc (by simp) _).trans (ae.mono (by simp;omega)));clear ae))
 refine(HK.out _ (aY.out.alloc (by omega) _)).mono ?_
 rintro e w2 ⟨rfl,ak⟩;have k2:Bk w2 (w.heap.size+1) 122 #[.int .i64 0,.slice none 0 0,.slice none 0 0,.slice none 0 0,.slice none 0 0]:=(k1.out.alloc _).below ak (by simp;omega)
 have dV:=Afl (cU aY.out ak (by omega))
 have r0:=k2.cell 0;have r1:=k2.cell 1;have r2:=k2.cell 2;have r3:=k2.cell 3;have r4:=k2.cell 4;have z0:=k2.frozen 0;have z1:=k2.frozen 1;have z2:=k2.frozen 2;have z3:=k2.frozen 3;have z4:=k2.frozen 4;clear ak k2;go_wp2;refine Ag4 (v:=.tuple #[.agg #[.int .i64 0,.slice none 0 0,.slice none 0 0,.slice none 0 0,.slice none 0 0],.int .i64 s]) (by simp[results,Tryz.results98,go_sem,r0,r1,r2,r3,r4]) rfl ⟨rfl,?_⟩
 repeat refine Ahf ?_ (by simp) _
 exact dV.out
def ajm{w:Abc}{b:ao}{pv bv tv:Value}{B K:Nat}{lb:Array Value}(hB:B<=w.heap.size)(ai:bg w B b pv bv tv)(hK:sK b pv bv tv w K lb 0)(h0:dF b=0)(ha:(aD b).length=0):
 Aet prog 98 #[.agg #[.int .i64 b.ag,pv,bv,tv],fv K lb] w λe w'=>e=.returned (.tuple #[.agg #[.int .i64 0,.slice none 0 0,.slice none 0 0,.slice none 0 0,.slice none 0 0],.int .i64 9])/\Below w.heap.size w w':=by
 obtain⟨eg,hK⟩:=hK;have HK:=Afl (hK h0);have bT:=Afl ai;have H0:=Afl h0;have HA:=Afl ha;obtain⟨A1,n1,c1,rfl,-⟩:=ai.pieces.open_;obtain⟨A2,n2,c2,rfl,-⟩:=ai.aF.open_;obtain⟨A3,n3,c3,rfl,-⟩:=ai.aJ.open_;clear ai hK h0 ha;go_enter func98,Tryz.ntmps98;go_wp2_with (first
  | (go_at_call 68;refine(ry (bT.out.still ((((Still.refl w).alloc hB _).alloc (by simp;omega) _))) (by simp;omega) H0.out).mono ?_;rintro e w1 ⟨rfl,ae⟩
     have aN:w.heap.size+2<=w1.heap.size:=by have:=ae.size;simpa using this
     have k1:Hid (Bk w1 (w.heap.size+1) 122 #[.int .i64 0,.slice none 0 0,.slice none 0 0,.slice none 0 0,.slice none 0 0]):=Afl ((Bk.cG (by simp) _ _).below ae (by simp))
     have kb:Bk w1 w.heap.size 26 #[.int .i64 b.ag,.slice A1 n1 c1,.slice A2 n2 c2,.slice A3 n3 c3]:=((Bk.new w _ _).alloc _).below ae (by simp;omega)
     have b0:=kb.cell 0;have b1:=kb.cell 1;have b2:=kb.cell 2;have b3:=kb.cell 3;clear kb;have aY:Hid (Below w.heap.size w w1):=Afl ((((Aft _ _).alloc (Ad4 _) _).alloc (by simp) _).trans (ae.mono (by simp;omega)));clear ae))
 refine(HK.out _ (aY.out.alloc (by omega) _)).mono ?_
 rintro e w2 ⟨rfl,ak⟩;have k2:Hid (Bk w2 (w.heap.size+1) 122 #[.int .i64 0,.slice none 0 0,.slice none 0 0,.slice none 0 0,.slice none 0 0]):=Afl ((k1.out.alloc _).below ak (by simp;omega))
 have l2:Hid (Bk w2 w1.heap.size 117 #[.int .i64 b.ag,.slice A1 n1 c1,.slice A2 n2 c2,.slice A3 n3 c3]):=Afl ((Bk.new w1 _ _).below ak (by simp))
 have ba:w1.heap.size+1<=w2.heap.size:=by have:=ak.size;simpa using this
 have dV:=Afl (cU aY.out ak (by omega))
 have q0:=l2.out.cell 0;have q1:=l2.out.cell 1;have q2:=l2.out.cell 2;have q3:=l2.out.cell 3;clear ak b0 b1 b2 b3;go_wp2_with (first
  | (go_at_call 96;refine(all (B:=B) (by omega) (bT.out.still (Still.aK dV.out hB)) (iy H0.out)).mono ?_;rintro e w3 ⟨v,rfl,eI,bD⟩
     have HR:=Afl eI;obtain⟨A9,n9,c9,rfl,cY,-⟩:=eI.row.open_;have h9:((n9:Int)==0)=true:=(by have:=HA.out;simp;omega)
     have k3:Bk w3 (w.heap.size+1) 122 #[.int .i64 0,.slice none 0 0,.slice none 0 0,.slice none 0 0,.slice none 0 0]:=k2.out.below bD (by omega)
     have l3:Bk w3 w1.heap.size 117 #[.int .i64 b.ag,.slice A1 n1 c1,.slice A2 n2 c2,.slice A3 n3 c3]:=l2.out.below bD (by omega)
     have fw:=Afl (chain dV.out bD (by omega))
     have q0:=l3.cell 0;have q1:=l3.cell 1;have q2:=l3.cell 2;have q3:=l3.cell 3;have r0:=k3.cell 0;have r1:=k3.cell 1;have r2:=k3.cell 2;have r3:=k3.cell 3;have r4:=k3.cell 4;have z0:=k3.frozen 0;have z1:=k3.frozen 1;have z2:=k3.frozen 2;have z3:=k3.frozen 3;have z4:=k3.frozen 4;have jB:Hid (w1.heap.size<=w3.heap.size):=Afl (by have:=bD.size;omega)
     clear bD k3 l3 eI cY))
 refine Ag4 (v:=.tuple #[.agg #[.int .i64 0,.slice none 0 0,.slice none 0 0,.slice none 0 0,.slice none 0 0],.int .i64 9]) (by simp[results,Tryz.results98,go_sem,r0,r1,r2,r3,r4]) rfl ⟨rfl,?_⟩
 repeat refine Ahf ?_ (by simp) _
 exact fw.out
def ajo{w:Abc}{b:ao}{pv bv tv:Value}{B K:Nat}{lb:Array Value}(hB:B<=w.heap.size)(ai:bg w B b pv bv tv)(hK:sK b pv bv tv w K lb 0)(h0:dF b=0)(ha:(aD b).length≠0):
 Aet prog 98 #[.agg #[.int .i64 b.ag,pv,bv,tv],fv K lb] w λe w'=>∃sv,e=.returned (.tuple #[.agg #[.int .i64 b.ag,pv,bv,tv,sv],.int .i64 0])/\qQ w' w.heap.size sv (aD b)/\Below w.heap.size w w':=by
 obtain⟨eg,hK⟩:=hK;have HK:=Afl (hK h0);have bT:=Afl ai;have H0:=Afl h0;have HA:=Afl ha;obtain⟨A1,n1,c1,rfl,-⟩:=ai.pieces.open_;obtain⟨A2,n2,c2,rfl,-⟩:=ai.aF.open_;obtain⟨A3,n3,c3,rfl,-⟩:=ai.aJ.open_;clear ai hK h0 ha;go_enter func98,Tryz.ntmps98;go_wp2_with (first
  | (go_at_call 68;refine(ry (bT.out.still ((((Still.refl w).alloc hB _).alloc (by simp;omega) _))) (by simp;omega) H0.out).mono ?_;rintro e w1 ⟨rfl,ae⟩
     have aN:w.heap.size+2<=w1.heap.size:=by have:=ae.size;simpa using this
     have k1:Hid (Bk w1 (w.heap.size+1) 122 #[.int .i64 0,.slice none 0 0,.slice none 0 0,.slice none 0 0,.slice none 0 0]):=Afl ((Bk.cG (by simp) _ _).below ae (by simp))
     have kb:Bk w1 w.heap.size 26 #[.int .i64 b.ag,.slice A1 n1 c1,.slice A2 n2 c2,.slice A3 n3 c3]:=((Bk.new w _ _).alloc _).below ae (by simp;omega)
     have b0:=kb.cell 0;have b1:=kb.cell 1;have b2:=kb.cell 2;have b3:=kb.cell 3;clear kb;have aY:Hid (Below w.heap.size w w1):=Afl ((((Aft _ _).alloc (Ad4 _) _).alloc (by simp) _).trans (ae.mono (by simp;omega)));clear ae))
 refine(HK.out _ (aY.out.alloc (by omega) _)).mono ?_
 rintro e w2 ⟨rfl,ak⟩;have k2:Hid (Bk w2 (w.heap.size+1) 122 #[.int .i64 0,.slice none 0 0,.slice none 0 0,.slice none 0 0,.slice none 0 0]):=Afl ((k1.out.alloc _).below ak (by simp;omega))
 have l2:Hid (Bk w2 w1.heap.size 117 #[.int .i64 b.ag,.slice A1 n1 c1,.slice A2 n2 c2,.slice A3 n3 c3]):=Afl ((Bk.new w1 _ _).below ak (by simp))
 have ba:w1.heap.size+1<=w2.heap.size:=by have:=ak.size;simpa using this
 have dV:=Afl (cU aY.out ak (by omega))
 have q0:=l2.out.cell 0;have q1:=l2.out.cell 1;have q2:=l2.out.cell 2;have q3:=l2.out.cell 3;clear ak b0 b1 b2 b3;go_wp2_with (first
  | (go_at_call 96;refine(all (B:=B) (by omega) (bT.out.still (Still.aK dV.out hB)) (iy H0.out)).mono ?_;rintro e w3 ⟨v,rfl,eI,bD⟩
     have HR:=Afl eI;obtain⟨A9,n9,c9,rfl,cY,-⟩:=eI.row.open_;have h9:((n9:Int)==0)=false:=(by have:=HA.out;simp;omega)
     have k3:Bk w3 (w.heap.size+1) 122 #[.int .i64 0,.slice none 0 0,.slice none 0 0,.slice none 0 0,.slice none 0 0]:=k2.out.below bD (by omega)
     have l3:Bk w3 w1.heap.size 117 #[.int .i64 b.ag,.slice A1 n1 c1,.slice A2 n2 c2,.slice A3 n3 c3]:=l2.out.below bD (by omega)
     have fw:=Afl (chain dV.out bD (by omega))
     have q0:=l3.cell 0;have q1:=l3.cell 1;have q2:=l3.cell 2;have q3:=l3.cell 3;have r0:=k3.cell 0;have r1:=k3.cell 1;have r2:=k3.cell 2;have r3:=k3.cell 3;have r4:=k3.cell 4;have z0:=k3.frozen 0;have z1:=k3.frozen 1;have z2:=k3.frozen 2;have z3:=k3.frozen 3;have z4:=k3.frozen 4;have jB:Hid (w1.heap.size<=w3.heap.size):=Afl (by have:=bD.size;omega)
     clear bD k3 l3 eI cY))
 refine Ag4 (v:=.tuple #[.agg #[.int .i64 b.ag,.slice A1 n1 c1,.slice A2 n2 c2,.slice A3 n3 c3,.slice A9 n9 c9],.int .i64 0]) (by simp[results,Tryz.results98,go_sem,r0,r1,r2,r3,r4]) rfl ⟨_,rfl,?_,?_⟩
 ·refine qQ.base (base:=w2.heap.size) ?_ (by omega)
  repeat refine qQ.set ?_ (by simp;omega)
  exact HR.out
 ·repeat refine Ahf ?_ (by simp) _
  exact fw.out
def pq{b:ao}{s:Int}(h:cj b s=0):dF b=0/\s=0/\(aD b).length≠0:=by
 unfold cj at h;split at h
 ·contradiction
 ·rename_i h1
  split at h
  ·contradiction
  ·rename_i h2
   split at h
   ·omega
   ·rename_i h3;exact⟨by simpa using h1,by simpa using h2,h3⟩
def ajn{w:Abc}{b:ao}{pv bv tv:Value}{B K:Nat}{lb:Array Value}{s:Int}(hB:B<=w.heap.size)(ai:bg w B b pv bv tv)(hK:sK b pv bv tv w K lb s)(h:cj b s≠0):
 Aet prog 98 #[.agg #[.int .i64 b.ag,pv,bv,tv],fv K lb] w λe w'=>e=.returned (.tuple #[.agg #[.int .i64 0,.slice none 0 0,.slice none 0 0,.slice none 0 0,.slice none 0 0],.int .i64 (cj b s)])/\Below w.heap.size w w':=by
 by_cases h1:dF b=0
 ·by_cases h2:s=0
  ·subst h2
   have h3:(aD b).length=0:=by
    apply Classical.byContradiction;intro h3
    exact h (by unfold cj;rw[if_neg (by simpa using h1),if_neg (by simp),if_neg h3])
   have e:cj b 0=9:=by unfold cj;rw[if_neg (by simpa using h1),if_neg (by simp),if_pos h3]
   rw[e];exact ajm hB ai hK h1 h3
  ·have e:cj b s=s:=by unfold cj;rw[if_neg (by simpa using h1),if_pos h2]
   rw[e];exact ajl hB ai hK h1 h2
 ·have e:cj b s=dF b:=by unfold cj;rw[if_pos h1]
  rw[e];exact ajk hB ai h1
def yL{w:Abc}{b:ao}{pv bv tv:Value}{B K:Nat}{lb:Array Value}{s:Int}(hB:B<=w.heap.size)(ai:bg w B b pv bv tv)(hK:sK b pv bv tv w K lb s)(h:cj b s=0):
 Aet prog 98 #[.agg #[.int .i64 b.ag,pv,bv,tv],fv K lb] w λe w'=>∃sv,e=.returned (.tuple #[.agg #[.int .i64 b.ag,pv,bv,tv,sv],.int .i64 0])/\qQ w' w.heap.size sv (aD b)/\Below w.heap.size w w':=by
 obtain⟨h1,rfl,h3⟩:=pq h;exact ajo hB ai hK h1 h3
def I0{a b c d:Int}(h:a=c)(k:b=d):Ending.returned (.tuple #[.int .i64 a,.int .i64 b])=.returned (.tuple #[.int .i64 c,.int .i64 d]):=by rw[h,k]
def Gt(b:ao):Int:=if dF b≠0 then 0 else(aD b).length
def ZL{w:Abc}{b:ao}{pv bv tv:Value}{B:Nat}(hB:B<=w.heap.size)(ai:bg w B b pv bv tv):
 Aet prog 22 #[.agg #[.int .i64 b.ag,pv,bv,tv]] w λe w'=>e=.returned (.tuple #[.int .i64 (Gt b),.int .i64 (dF b)])/\Below w.heap.size w w':=by
 have bT:=Afl ai;obtain⟨A1,n1,c1,rfl,-⟩:=ai.pieces.open_;obtain⟨A2,n2,c2,rfl,-⟩:=ai.aF.open_;obtain⟨A3,n3,c3,rfl,-⟩:=ai.aJ.open_;clear ai;by_cases h0:dF b=0
 ·have H0:=Afl h0
  clear h0;go_enter func22,Tryz.ntmps22;go_wp2_with (first
   | (go_at_call 68;refine(ry (bT.out.still ((Still.refl w).alloc hB _)) (by simp;omega) H0.out).mono ?_;rintro e w1 ⟨rfl,ae⟩
      have kb:Bk w1 w.heap.size 26 #[.int .i64 b.ag,.slice A1 n1 c1,.slice A2 n2 c2,.slice A3 n3 c3]:=(Bk.new w _ _).below ae (by simp)
      have b0:=kb.cell 0;have b1:=kb.cell 1;have b2:=kb.cell 2;have b3:=kb.cell 3;have aY:=Afl (cU (Aft _ _) ae (Ad4 _));clear kb ae)
   | (go_at_call 96;refine(all (B:=B) (by have:=aY.out.size;omega) (bT.out.still (Still.aK aY.out hB)) (iy H0.out)).mono ?_;rintro e w2 ⟨v,rfl,eI,ak⟩
      obtain⟨A9,n9,c9,rfl,cY,-⟩:=eI.row.open_;have HL:=Afl cY;have dV:=Afl (chain aY.out ak aY.out.size);clear ak eI cY))
  go_ret2
  exact⟨I0 (by unfold Gt;rw[if_neg (by simpa using H0.out),HL.out]) (by rw[H0.out]),dV.out⟩
 ·go_enter func22,Tryz.ntmps22
  go_wp2_with (first
   | (go_at_call 68;refine(LS (bT.out.still ((Still.refl w).alloc hB _)) (by simp;omega)).mono ?_;rintro e w1 ⟨rfl,ae⟩;have aY:=Afl (cU (Aft _ _) ae (Ad4 _));clear ae))
  go_ret2
  exact⟨I0 (by unfold Gt;rw[if_pos h0]) rfl,aY.out⟩
def lg(n lo hi:Int)(w:Abc):Aet prog 62 #[.int .i64 n,.int .i64 lo,.int .i64 hi] w λe w'=>e=.returned (.bool (bX n lo hi))/\w=w':=by
 go_enter func62,Tryz.ntmps62;go_wp2;all_goals go_ret
 all_goals (refine⟨b9 ?_,rfl⟩;unfold bX;first| (simp;done) | (simp;omega))
def mV(a b lo hi:Int):Bool:=decide (lo<=a) && (decide (a<=b) && decide (b<=hi))
def within{a b lo hi:Int}(w:Abc):Aet prog 49 #[.agg #[.int .i64 a,.int .i64 b],.int .i64 lo,.int .i64 hi] w λe w'=>e=.returned (.bool (mV a b lo hi))/\Below w.heap.size w w':=by
 go_enter func49,Tryz.ntmps49;go_wp2;all_goals go_ret
 all_goals (refine⟨b9 ?_,(Aft _ _).alloc (Ad4 _) _⟩;unfold mV;first| (simp;done) | (simp;omega) | (simp[*];done) | (simp[*];omega))
def Bz(b:Bool)(s:Int)(w:Abc):Aet prog 104 #[.bool b,.int .i64 s] w λe w'=>e=.returned (.int .i64 (if b then 0 else s))/\w=w':=by
 cases b;all_goals
  go_enter func104,Tryz.ntmps104;go_wp2;go_ret;exact⟨aX rfl,rfl⟩
end Go.Tw
namespace Go.Tw
variable [Go.Tw.aR]
open Go Go.Proofs Go.RowKit
end Go.Tw
namespace Go.Tw
variable [Go.Tw.aR]
open Go Go.Proofs Go.RowKit
section
variable (w:Abc)(s:Int)(p q r:Value)(k f:Int)(nm:ByteArray)(aH:Int)(kv:Value)
end
end Go.Tw
namespace Go.Tw
variable [Go.Tw.aR]
open Go Go.Proofs Go.RowKit
end Go.Tw
namespace Go.Tw
variable [Go.Tw.aR]
open Go Go.Proofs Go.RowKit
end Go.Tw
namespace Go.Tw
variable [Go.Tw.aR]
open Go Go.Proofs Go.RowKit
def za(n m:Int):Int:=if n=0 then 2 else if n=m then 1 else 0
def Xa{α:Type}{f:α->Int}:∀(l dw:List α),scan (λ_ x=>f x) dw l=0->∀x∈l,f x=0
 | [],_,_,x,h=>by cases h
 |a::l,dw,h,x,hx=>by
  unfold scan at h;by_cases h0:f a≠0
  ·rw[if_pos h0] at h;exact absurd h h0
  ·rw[if_neg h0] at h
   rcases List.mem_cons.1 hx with rfl|hx
   ·simpa using h0
   ·exact Xa l _ h x hx
def abc{b:ao}{l:List Cut}(h:ez b l=0):l.length=b.pieces.length:=by
 unfold ez at h;split at h
 ·contradiction
 ·rename_i h1;simpa using h1
def GI{b:ao}(hv:Valid b){l:List Cut}(h:ez b l=0):Km b l:=by
 have hlen:=abc h;refine⟨hlen,hv.np.2,λi c hc=>?_,⟨hv.ag.1,by have:=hv.ag.2;omega⟩⟩
 unfold ez at h;rw[if_neg (by simpa using hlen)] at h
 have h1:=Xa (f:=fO b.aF.length) l [] h c (Agd hc);unfold fO at h1;split at h1
 ·rename_i h2
  split at h1
  ·rename_i h3
   have a:=nJ h2;have d:=nJ h3;refine⟨⟨c.bp.toNat,by omega,by omega⟩,d⟩
  ·contradiction
 ·contradiction
def R6{b:ao}(hv:Valid b):∀(f i:Nat) (n:an),i+f=b.pieces.length->n.Ok->∀L∈eu b f i n,L.Ok
 |0,i,n,hi,hn,L,hL=>by
  unfold eu at hL;split at hL
  ·simp at hL;subst hL;exact hn
  ·simp at hL
 |f+1,i,n,hi,hn,L,hL=>by
  unfold eu at hL;cases h:b.pieces[i]? with
  |none=>rw[h] at hL;simp at hL
  |some p=>
   rw[h] at hL;simp only[List.mem_flatMap] at hL;obtain⟨k,hk,hL⟩:=hL;have hp:=hv.piece p (Agd h);have:=hv.np.2;simp only[mR,Ah2,Ah3] at hk;obtain⟨j,hj,rfl⟩:=hk;have:=hp.lo;have:=hp.hi;have:=hp.le
   exact R6 hv f (i+1) _ (by omega) (hn.set (by omega) (by omega) (by omega)) L hL
def uG{b:ao}(hv:Valid b):∀L∈aD b,L.Ok:=R6 hv _ _ _ (by omega) (λq=>by unfold an.at;simp)
def Zo{b:ao}{l:List Cut}{pv bv tv lv:Value}{w:Abc}{B g:Nat}(hB:B<=w.heap.size)(ai:bg w B b pv bv tv)(hl:Row w B 2 Cut.R lv l)(hg:Bk w g 27 #[lv]):sK b pv bv tv w 108 #[.pointer (some ⟨g,0,none⟩)] (ez b l):=by
 refine⟨call108,λ_ W hW=>?_⟩
 have k7:=hg.lt;have st:Still B w (W.alloc (.cells #[.int .i64 b.ag,pv,bv,tv] 117)):=(Still.aK hW hB).alloc (by have:=hW.size;omega) _
 have g0: W.cell? ⟨g,0,none⟩=some lv:=(hg.below hW k7).cell 0;have aB:=Afl (LX (ai.still st) (hl.still st λ_ _ h=>h) (by have:=hW.size;simp;omega))
 have hz:g<W.heap.size:=by have:=hW.size;omega
 have Vs:g<=W.heap.size:=by omega
 obtain⟨A1,n1,c1,rfl,-⟩:=ai.pieces.open_;obtain⟨A2,n2,c2,rfl,-⟩:=ai.aF.open_;obtain⟨A3,n3,c3,rfl,-⟩:=ai.aJ.open_;obtain⟨A,n,c,rfl,-⟩:=hl.open_;clear ai hl hW hg st;refine app1 ?_
 go_enter func108,Tryz.ntmps108;go_wp2_with (first
  | (go_at_call 109;refine aB.out.mono ?_;rintro e w1 ⟨rfl,ae⟩))
 go_ret;exact⟨aX rfl,cU (Aft _ _) ae (Ad4 _)⟩
def iI(p:an->Bool)(l:List an):Int:=(l.filter p).length
def aa3(p:an->Bool)(l:List an):0<=iI p l/\iI p l<=l.length:=by
 unfold iI;exact⟨by omega,by have:=Aga p l;omega⟩
def Zy(p:an->Bool)(l:List an)(x:an):iI p (l++ [x])=iI p l+if p x then 1 else 0:=by
 unfold iI;rw[List.filter_append];cases h:p x<;>simp[List.filter_cons,h]
def zP(b:ao)(l:List Cut):Int:=if cj b (ez b l)≠0 then 0 else za (iI (λL=>fp b L l) (aD b)) (aD b).length
def agC{w:Abc}{b:ao}{l:List Cut}{pv bv tv lv:Value}{B:Nat}(hB:B<=w.heap.size)(ai:bg w B b pv bv tv)(hl:Row w B 2 Cut.R lv l)(h:cj b (ez b l)≠0):
 Aet prog 28 #[.agg #[.int .i64 b.ag,pv,bv,tv],lv] w λe w'=>e=.returned (.tuple #[.int .i64 0,.int .i64 (cj b (ez b l))])/\Below w.heap.size w w':=by
 have st:Still B w ((w.alloc (.cells #[.int .i64 b.ag,pv,bv,tv] 26)).alloc (.cells #[lv] 27)):=((Still.refl w).alloc hB _).alloc (by simp;omega) _
 have aB:=Afl (ajn (w:=((w.alloc (.cells #[.int .i64 b.ag,pv,bv,tv] 26)).alloc (.cells #[lv] 27))) (B:=B) (by simp;omega) (ai.still st) (Zo (by simp;omega) (ai.still st) (hl.still st λ_ _ h=>h) (Bk.cG (g:=w.heap.size+1) (by simp) _ _)) h)
 obtain⟨s,hs⟩:∃s,s=cj b (ez b l):=⟨_,rfl⟩
 rw[<-hs] at aB h |-
 obtain⟨A1,n1,c1,rfl,-⟩:=ai.pieces.open_;obtain⟨A2,n2,c2,rfl,-⟩:=ai.aF.open_;obtain⟨A3,n3,c3,rfl,-⟩:=ai.aJ.open_;obtain⟨A,n,c,rfl,-⟩:=hl.open_;clear ai hl st hs;go_enter func28,Tryz.ntmps28;go_wp2_with (first
  | (go_at_call 98;refine aB.out.mono ?_;rintro e w1 ⟨rfl,ae⟩
     have aY:Hid (Below w.heap.size w w1):=Afl ((((Aft _ _).alloc (Ad4 _) _).alloc (by simp) _).trans (ae.mono (by simp;omega)));clear ae))
 go_ret2
 exact⟨I0 rfl rfl,aY.out.alloc aY.out.size _⟩
def L4{w:Abc}{b:ao}{l:List Cut}{pv bv tv lv:Value}{B:Nat}(hB:B<=w.heap.size)(ai:bg w B b pv bv tv)(hl:Row w B 2 Cut.R lv l)(h:cj b (ez b l)=0):
 Aet prog 28 #[.agg #[.int .i64 b.ag,pv,bv,tv],lv] w λe w'=>e=.returned (.tuple #[.int .i64 (za (iI (λL=>fp b L l) (aD b)) (aD b).length),.int .i64 0])/\Below w.heap.size w w':=by
 have st:Still B w ((w.alloc (.cells #[.int .i64 b.ag,pv,bv,tv] 26)).alloc (.cells #[lv] 27)):=((Still.refl w).alloc hB _).alloc (by simp;omega) _
 have aB:=Afl (yL (w:=((w.alloc (.cells #[.int .i64 b.ag,pv,bv,tv] 26)).alloc (.cells #[lv] 27))) (B:=B) (by simp;omega) (ai.still st) (Zo (by simp;omega) (ai.still st) (hl.still st λ_ _ h=>h) (Bk.cG (g:=w.heap.size+1) (by simp) _ _)) h)
 have hz:=pq h;have hv:=iy hz.1;have OK:=Afl (Aee (GI hv hz.2.1) (uG hv));have bT:=Afl ai;have uB:=Afl hl;have HV:=Afl hv;obtain⟨A1,n1,c1,rfl,-⟩:=ai.pieces.open_;obtain⟨A2,n2,c2,rfl,-⟩:=ai.aF.open_;obtain⟨A3,n3,c3,rfl,-⟩:=ai.aJ.open_;obtain⟨A,n,c,rfl,-⟩:=hl.open_;clear ai hl st hz hv h;go_enter func28,Tryz.ntmps28;go_wp2_with (first
  | (go_at_call 98;refine aB.out.mono ?_;rintro e w1 ⟨sv,rfl,aG,ae⟩
     obtain⟨A9,n9,c9,rfl,cY,nG,py,iN⟩:=aG.row.open_;have lF:=Afl iN;have pO:=Afl cY;have HO:=Afl aG;have kb:Hid (Bk w1 w.heap.size 26 #[.int .i64 b.ag,.slice A1 n1 c1,.slice A2 n2 c2,.slice A3 n3 c3]):=Afl (((Bk.new w _ _).alloc _).below ae (by simp;omega))
     have kl:Hid (Bk w1 (w.heap.size+1) 27 #[.slice A n c]):=Afl ((Bk.cG (by simp) _ _).below ae (by simp))
     have aN:w.heap.size+2<=w1.heap.size:=by have:=ae.size;simpa using this
     have aY:Hid (Below w.heap.size w w1):=Afl ((((Aft _ _).alloc (Ad4 _) _).alloc (by simp) _).trans (ae.mono (by simp;omega)));clear ae aG cY iN))
 unfold Aes at py;go_loopw [8,23] (λm k wr=>∃i:Nat,i<=n9/\k=.int .i64 i/\m=.int .i64 (iI (λL=>fp b L l) ((aD b).take i))/\Hid (Below (w1.heap.size+1) (w1.alloc (.cells #[.int .i64 b.ag,.slice A1 n1 c1,.slice A2 n2 c2,.slice A3 n3 c3,.slice A9 n9 c9] 122)) wr)) (λ_ k _=>n9 - (Ahb k).toNat)
 case atStart=>exact⟨0,Agl _,rfl,by simp[iI],Afl (Aft _ _)⟩
 case round=>
  obtain⟨i,hi,rfl,rfl,hb⟩:=hrel;have rV:w1.heap.size+1<=wr.heap.size:=by have:=hb.out.size;simpa using this
  have ux:Hid (Below w.heap.size w wr):=Afl (aY.out.trans (((Aft _ _).alloc (by omega) _).trans (hb.out.mono (by omega))))
  have nV:Hid (Below w1.heap.size w1 wr):=Afl (((Aft _ _).alloc (by omega) _).trans (hb.out.mono (by omega)))
  have kf:Bk wr w1.heap.size 122 #[.int .i64 b.ag,.slice A1 n1 c1,.slice A2 n2 c2,.slice A3 n3 c3,.slice A9 n9 c9]:=(Bk.new w1 _ _).below hb.out (by omega)
  have Ii:Bk wr (w.heap.size+1) 27 #[.slice A n c]:=kl.out.below nV.out (by omega)
  have f0:=kf.cell 0;have f1:=kf.cell 1;have f2:=kf.cell 2;have f3:=kf.cell 3;have f4:=kf.cell 4;have l0:=Ii.cell 0;have KH:=pO.out;have de:=aa3 (λL=>fp b L l) ((aD b).take i)
  have fY:((aD b).take i).length<=i:=List.length_take_le _ _;have aec:0<=iI (λL=>fp b L l) ((aD b).take i):=de.1
  have aed:iI (λL=>fp b L l) ((aD b).take i)<=i:=by have:=de.2;omega
  clear kf Ii KH de fY;by_cases al:i<n9
  ·obtain⟨ad,x,cs,kX,aC,hx,rfl,-,au⟩:=lF.out i al
   subst kX;have st:Still w1.heap.size w1 wr:=Still.aK nV.out (Ad4 _);have g0:=cC au st aC rfl;have g1:=bK au st aC 0 rfl;have g2:=bK au st aC 1 rfl;have xD:(ad.add (i * 3)).block<wr.heap.size:=by rw[cq];omega
   have HX:=Afl hx;have uf:Still B w (wr.alloc (.cells #[.int .i64 x.a,.int .i64 x.b,.int .i64 x.c] 128)):=(Still.aK ux.out hB).alloc (by omega) _
   have uv:=Afl (L3 (w:=wr.alloc (.cells #[.int .i64 x.a,.int .i64 x.b,.int .i64 x.c] 128)) (B:=B) (L:=x) (bT.out.still uf) (uB.out.still uf λ_ _ h=>h) (by simp;omega) OK.out.1.len OK.out.1.three OK.out.1.kD (OK.out.2 x (Agd hx)) OK.out.1.ag)
   have a1:w.heap.size+1<wr.heap.size:=by omega
   have a2:w.heap.size+1<=wr.heap.size:=by omega
   have a3:w1.heap.size<wr.heap.size:=by omega
   have a4:w1.heap.size<=wr.heap.size:=by omega
   clear hx au st uf;cases hd:fp b x l with
   |false=>
    have NX:Hid (iI (λL=>fp b L l) ((aD b).take i)=iI (λL=>fp b L l) ((aD b).take (i+1))):=Afl (by rw[oJ HX.out,Zy,hd];simp)
    go_wp2_with (first
     | (go_at_call 110;refine uv.out.mono ?_;rintro e w2 ⟨rfl,ak⟩;have dV:=Afl (cU hb.out ak (by omega));clear ak))
    go_roundw;case rel=>exact⟨i+1,by omega,by go_num,by rw[NX.out],dV⟩
    case measure=>simp[Ahb];omega
   |true=>
    have NX:Hid (iI (λL=>fp b L l) ((aD b).take i)+1=iI (λL=>fp b L l) ((aD b).take (i+1))):=Afl (by rw[oJ HX.out,Zy,hd];simp)
    go_wp2_with (first
     | (go_at_call 110;refine uv.out.mono ?_;rintro e w2 ⟨rfl,ak⟩;have dV:=Afl (cU hb.out ak (by omega));clear ak))
    go_roundw;case rel=>exact⟨i+1,by omega,by go_num,by rw[<-NX.out],dV⟩
    case measure=>simp[Ahb];omega
  ·obtain rfl:i=n9:=by omega
   obtain⟨q,hq⟩:∃q,q=iI (λL=>fp b L l) ((aD b).take i):=⟨_,rfl⟩
   have HQ:Hid (q=iI (λL=>fp b L l) (aD b)):=Afl (by rw[hq,Agc (Agn pO.out)])
   rw[<-hq] at aec aed |-
   clear hq;go_wp2;all_goals go_ret2
   all_goals (refine⟨I0 ?_ rfl,ux.out⟩;simp only[beq_iff_eq,beq_eq_false_iff_ne,ne_eq] at *;rw[<-HQ.out,pO.out];unfold za;first| (rw[if_pos (by omega)];done) | (rw[if_neg (by omega),if_pos (by omega)];done) | (rw[if_neg (by omega),if_neg (by omega)];done))
def Bh(b:ao)(k:Int):Int:=if bX k 0 (b.pieces.length - 1) then 0 else 6
def Zp{b:ao}{k:Int}{pv bv tv:Value}{w:Abc}{B g:Nat}(hB:B<=w.heap.size)(ai:bg w B b pv bv tv)(hg:Bk w g 3 #[.int .i64 k]):sK b pv bv tv w 99 #[.pointer (some ⟨g,0,none⟩)] (Bh b k):=by
 refine⟨call99,λ_ W hW=>?_⟩
 have k7:=hg.lt;have g0: W.cell? ⟨g,0,none⟩=some (.int .i64 k):=(hg.below hW k7).cell 0;have hz:g<W.heap.size:=by have:=hW.size;omega
 have Vs:g<=W.heap.size:=by omega
 obtain⟨A1,n1,c1,rfl,e1,h1,eA,-⟩:=ai.pieces.open_;obtain⟨A2,n2,c2,rfl,-⟩:=ai.aF.open_;obtain⟨A3,n3,c3,rfl,-⟩:=ai.aJ.open_;unfold Aes at eA;have call:∀w:Abc,Aet prog 100 #[.int .i64 k,.int .i64 n1] w λe w'=>e=.returned (.int .i64 (Bh b k))/\w=w':=λw=>by
  have:=there k n1 (by omega) w (by omega)
  unfold Bh;rw[e1];exact this
 have aB:=Afl call;clear ai hW hg e1 call;refine app1 ?_
 go_enter func99,Tryz.ntmps99;go_wp2_with (first
  | (go_at_call 100;refine(aB.out _).mono ?_;rintro e w1 ⟨rfl,rfl⟩))
 go_ret;exact⟨aX rfl,(Aft _ _).alloc (Ad4 _) _⟩
def Gp{b:ao}{pv bv tv:Value}{w:Abc}{B:Nat}(ai:bg w B b pv bv tv):sK b pv bv tv w 107 #[] 0:=by
 refine⟨call107,λ_ W hW=>?_⟩
 obtain⟨A1,n1,c1,rfl,e1,h1,eA,-⟩:=ai.pieces.open_;obtain⟨A2,n2,c2,rfl,-⟩:=ai.aF.open_;obtain⟨A3,n3,c3,rfl,-⟩:=ai.aJ.open_;exact nothing W
def Il(b:ao)(k:Nat):List Int:=Lib.compact (ga ((aD b).map (·.at k)))
def aki{v:Value}{a c:Int}(h:a=c):Ending.returned (.tuple #[v,.int .i64 a])=.returned (.tuple #[v,.int .i64 c]):=by rw[h]
def aoe{w:Abc}{b:ao}{k:Int}{pv bv tv:Value}{B:Nat}(hB:B<=w.heap.size)(ai:bg w B b pv bv tv)(h:cj b (Bh b k)≠0):
 Aet prog 24 #[.agg #[.int .i64 b.ag,pv,bv,tv],.int .i64 k] w λe w'=>e=.returned (.tuple #[.slice none 0 0,.int .i64 (cj b (Bh b k))])/\Below w.heap.size w w':=by
 have st:Still B w ((w.alloc (.cells #[.int .i64 b.ag,pv,bv,tv] 26)).alloc (.cells #[.int .i64 k] 3)):=((Still.refl w).alloc hB _).alloc (by simp;omega) _
 have aB:=Afl (ajn (w:=((w.alloc (.cells #[.int .i64 b.ag,pv,bv,tv] 26)).alloc (.cells #[.int .i64 k] 3))) (B:=B) (by simp;omega) (ai.still st) (Zp (by simp;omega) (ai.still st) (Bk.cG (g:=w.heap.size+1) (by simp) _ _)) h)
 obtain⟨s,hs⟩:∃s,s=cj b (Bh b k):=⟨_,rfl⟩
 rw[<-hs] at aB h |-
 obtain⟨A1,n1,c1,rfl,-⟩:=ai.pieces.open_;obtain⟨A2,n2,c2,rfl,-⟩:=ai.aF.open_;obtain⟨A3,n3,c3,rfl,-⟩:=ai.aJ.open_;clear ai st hs;go_enter func24,Tryz.ntmps24;go_wp2_with (first
  | (go_at_call 98;refine aB.out.mono ?_;rintro e w1 ⟨rfl,ae⟩
     have aY:Hid (Below w.heap.size w w1):=Afl ((((Aft _ _).alloc (Ad4 _) _).alloc (by simp) _).trans (ae.mono (by simp;omega)));clear ae))
 go_ret2
 exact⟨aki rfl,aY.out.alloc aY.out.size _⟩
def ag8{w:Abc}{b:ao}{k:Nat}{pv bv tv:Value}{B:Nat}(hB:B<=w.heap.size)(ai:bg w B b pv bv tv)(h:cj b (Bh b k)=0):
 Aet prog 24 #[.agg #[.int .i64 b.ag,pv,bv,tv],.int .i64 k] w λe w'=>∃v,e=.returned (.tuple #[v,.int .i64 0])/\w'.ownsRow w.heap.size 3 1 v (Il b k).length ((Il b k).map (Afx .i64))/\Below w.heap.size w w':=by
 have st:Still B w ((w.alloc (.cells #[.int .i64 b.ag,pv,bv,tv] 26)).alloc (.cells #[.int .i64 k] 3)):=((Still.refl w).alloc hB _).alloc (by simp;omega) _
 have aB:=Afl (yL (w:=((w.alloc (.cells #[.int .i64 b.ag,pv,bv,tv] 26)).alloc (.cells #[.int .i64 k] 3))) (B:=B) (by simp;omega) (ai.still st) (Zp (by simp;omega) (ai.still st) (Bk.cG (g:=w.heap.size+1) (by simp) _ _)) h)
 have hz:=pq h;have hv:=iy hz.1;have fh:k<3:=by
  have h1:=hz.2.1;unfold Bh at h1;split at h1
  ·rename_i h2;have:=nJ h2;have:=hv.np;omega
  ·contradiction
 have aeZ:=Ct hv;obtain⟨i0,cR,cT,aN,ba⟩:=Agy Oo;have dv:=Afl (Aee cR (Aee cT (Aee aN ba)));obtain⟨A1,n1,c1,rfl,-⟩:=ai.pieces.open_;obtain⟨A2,n2,c2,rfl,-⟩:=ai.aF.open_;obtain⟨A3,n3,c3,rfl,-⟩:=ai.aJ.open_;clear ai st hz hv h cR cT aN ba;go_enter func24,Tryz.ntmps24;go_wp2_with (first
  | (go_at_call 98;refine aB.out.mono ?_;rintro e w1 ⟨sv,rfl,aG,ae⟩
     obtain⟨A9,n9,c9,rfl,cY,nG,py,iN⟩:=aG.row.open_;have lF:=Afl iN;have pO:=Afl cY;have kk:Hid (Bk w1 (w.heap.size+1) 3 #[.int .i64 k]):=Afl ((Bk.cG (by simp) _ _).below ae (by simp))
     have aN:w.heap.size+2<=w1.heap.size:=by have:=ae.size;simpa using this
     have afb:n9<=27:=by omega
     have aY:Hid (Below w.heap.size w w1):=Afl ((((Aft _ _).alloc (Ad4 _) _).alloc (by simp) _).trans (ae.mono (by simp;omega)));clear ae aG cY iN))
 unfold Aes at py;go_loopw [8,23] (λo u wr=>∃i:Nat,i<=n9/\u=.int .i64 i/\Hid (wr.ownsRow (w1.heap.size+1) 3 1 o i (((aD b).take i).map λL=>.int .i64 (L.at k)))/\Hid (Below (w1.heap.size+1) (w1.alloc (.cells #[.int .i64 b.ag,.slice A1 n1 c1,.slice A2 n2 c2,.slice A3 n3 c3,.slice A9 n9 c9] 122)) wr)) (λ_ u _=>n9 - (Ahb u).toNat)
 case atStart=>exact⟨0,Agl _,rfl,Afl ⟨by simp,.inl ⟨rfl,rfl⟩⟩,Afl (Aft _ _)⟩
 case round=>
  obtain⟨i,hi,rfl,HO,hb⟩:=hrel;have rV:w1.heap.size+1<=wr.heap.size:=by have:=hb.out.size;simpa using this
  have nV:Hid (Below w1.heap.size w1 wr):=Afl (((Aft _ _).alloc (by omega) _).trans (hb.out.mono (by omega)))
  have VO:Bk wr (w.heap.size+1) 3 #[.int .i64 k]:=kk.out.below nV.out (by omega)
  have k0:=VO.cell 0;clear VO;by_cases al:i<n9
  ·obtain⟨ad,x,cs,kX,aC,hx,rfl,-,au⟩:=lF.out i al
   subst kX;have st:Still w1.heap.size w1 wr:=Still.aK nV.out (Ad4 _);have g0:=cC au st aC rfl;have g1:=bK au st aC 0 rfl;have g2:=bK au st aC 1 rfl;have xD:(ad.add (i * 3)).block<wr.heap.size:=by rw[cq];omega
   have HX:=Afl hx;have a1:w.heap.size+1<wr.heap.size:=by omega
   have a2:w.heap.size+1<=wr.heap.size:=by omega
   have aeJ:(k:Int)<3:=by omega
   have gk:(wr.alloc (.cells #[.int .i64 x.a,.int .i64 x.b,.int .i64 x.c] 128)).cell? ⟨wr.heap.size,k,none⟩=some (.int .i64 (x.at k)):=(Bk.new wr _ _).cell k|>.trans (an.uR (n:=x) fh)
   clear hx au st;go_wp2_with (first
    | (at_builtin
       refine Agz _ rfl (.tmp 27) (.tmp 31) 33 rfl (w1.heap.size+1) 3 i0 (.int .i64 0) 1 8 (U Tryz.underlying33) dv.out.1 dv.out.2.1 dv.out.2.2.1 dv.out.2.2.2 rfl (by decide) _ i _ rfl ((HO.out.alloc _).alloc _) ⟨wr.heap.size+1,0,none⟩ 1 1 [.int .i64 (x.at k)] rfl rfl ?c1 ?c2 ?c3 ?c4 ?c5 ?_
       case c1=>(intro j u hu;match j,hu with|0,hu=>(simp at hu;subst hu;simp[go_sem,Ag6]))
       case c2=>simp[Value.oneCell']
       case c3=>(simp only[Aes];omega)
       case c4=>omega
       case c5=>(simp;omega)
       intro v' w2 cK dT _;have gW:=Afl cK;have gV:=Afl dT;clear cK dT))
   go_roundw;case rel=>exact⟨i+1,by omega,by go_num,Afl (by rw[oJ HX.out,Ahm];exact gW.out),
    Afl ((hb.out.trans (((Aft _ _).alloc rV _).alloc (by simp;omega) _)).grown gV.out (by simp;omega) (λk hk=>ei HO.out k hk))⟩
   case measure=>simp[Ahb];omega
  ·obtain rfl:i=n9:=by omega
   have vq:(((aD b).take i).map λL=>Afx .i64 (L.at k))=((aD b).map (·.at k)).map (Afx .i64):=by
    rw[Agc (Agn pO.out),List.map_map];rfl
   have rf:Hid (wr.ownsRow (w1.heap.size+1) 3 1 u8 i (((aD b).map (·.at k)).map (Afx .i64))):=Afl (vq▸HO.out)
   have ux:Hid (Below w.heap.size w wr):=Afl (aY.out.trans (nV.out.mono (by omega)))
   clear vq HO;go_wp2_with (first
    | (go_at_call 101;refine(PW rf.out (by omega) rV).mono ?_;rintro e w2 ⟨rfl,cK,ak⟩;have uC:=Afl cK;have fw:=Afl ak;clear cK ak)
    | (go_at_call 102;refine(Sz uC.out (by omega)).mono ?_;rintro e w3 ⟨u,rfl,vX,bD⟩;have wQ:=Afl vX;have jK:=Afl bD;clear vX bD))
   go_ret2
   exact⟨_,aki rfl,wQ.out.base (by omega),ux.out.trans ((fw.out.trans jK.out).mono (by omega))⟩
def an.sum(L:an):Int:=L.a+L.b+L.c
def BE(s:Span)(L:an):Span:=⟨min s.lo L.sum,max s.hi L.sum⟩
def oK:List an->Span
 | []=>⟨0,0⟩
 |x::l=>l.foldl BE ⟨x.sum,x.sum⟩
def aml{l:List an}(h:l≠ [])(x:an):oK (l++ [x])=BE (oK l) x:=by
 cases l with
 |nil=>exact absurd rfl h
 |cons a l=>simp[oK]
def amk(x:an):oK [x]=BE ⟨x.sum,x.sum⟩ x:=by simp[oK,BE]
def amm{w:Abc}{b:ao}{pv bv tv:Value}{B:Nat}(hB:B<=w.heap.size)(ai:bg w B b pv bv tv)(h:cj b 0=0):
 Aet prog 26 #[.agg #[.int .i64 b.ag,pv,bv,tv]] w λe w'=>e=.returned (.tuple #[.agg #[.int .i64 (oK (aD b)).lo,.int .i64 (oK (aD b)).hi],.int .i64 0])/\Below w.heap.size w w':=by
 have st:Still B w ((w.alloc (.cells #[.int .i64 b.ag,pv,bv,tv] 26)).alloc (.cells #[.int .i64 0,.int .i64 0] 37)):=((Still.refl w).alloc hB _).alloc (by simp;omega) _
 have aB:=Afl (yL (w:=((w.alloc (.cells #[.int .i64 b.ag,pv,bv,tv] 26)).alloc (.cells #[.int .i64 0,.int .i64 0] 37))) (B:=B) (by simp;omega) (ai.still st) (Gp (ai.still st)) h)
 have hz:=pq h;have hv:=iy hz.1;have OK:=Afl (uG hv);have HNE:=Afl hz.2.2;obtain⟨A1,n1,c1,rfl,-⟩:=ai.pieces.open_;obtain⟨A2,n2,c2,rfl,-⟩:=ai.aF.open_;obtain⟨A3,n3,c3,rfl,-⟩:=ai.aJ.open_;clear ai st hz hv h;go_enter func26,Tryz.ntmps26;go_wp2_with (first
  | (go_at_call 98;refine aB.out.mono ?_;rintro e w1 ⟨sv,rfl,aG,ae⟩
     obtain⟨A9,n9,c9,rfl,cY,nG,py,iN⟩:=aG.row.open_;have lF:=Afl iN;have pO:=Afl cY;have k2:Hid (Bk w1 (w.heap.size+1) 37 #[.int .i64 0,.int .i64 0]):=Afl ((Bk.cG (by simp) _ _).below ae (by simp))
     have aN:w.heap.size+2<=w1.heap.size:=by have:=ae.size;simpa using this
     have aY:Hid (Below w.heap.size w w1):=Afl ((((Aft _ _).alloc (Ad4 _) _).alloc (by simp) _).trans (ae.mono (by simp;omega)));clear ae aG cY iN))
 unfold Aes at py;go_loopw [24] (λu wr=>∃i:Nat,i<=n9/\u=.int .i64 i/\Hid (Bk wr (w1.heap.size+1) 37 #[.int .i64 (oK ((aD b).take i)).lo,.int .i64 (oK ((aD b).take i)).hi])/\Hid (Below w1.heap.size w1 wr)) (λu _=>n9 - (Ahb u).toNat)
 case atStart=>exact⟨0,Agl _,rfl,Afl (by simpa [oK] using Bk.cG (by simp) _ _),Afl (((Aft _ _).alloc (Ad4 _) _).alloc (by simp) _)⟩
 case round=>
  obtain⟨i,hi,rfl,hk,hb⟩:=hrel;have rV:w1.heap.size+1<wr.heap.size:=hk.out.lt;have ux:Hid (Below w.heap.size w wr):=Afl (aY.out.trans (hb.out.mono (by omega)))
  obtain⟨T,hT⟩:∃T,T=oK ((aD b).take i):=⟨_,rfl⟩
  rw[<-hT] at hk;have HT:=Afl hT;clear hT;have t0: wr.cell? ⟨w1.heap.size+1,0,none⟩=some (.int .i64 T.lo):=hk.out.cell 0;have t1: wr.cell? ⟨w1.heap.size+1,1,none⟩=some (.int .i64 T.hi):=hk.out.cell 1;have z0:=hk.out.frozen 0;have z1:=hk.out.frozen 1;by_cases al:i<n9
  ·obtain⟨ad,x,cs,kX,aC,hx,rfl,-,au⟩:=lF.out i al
   subst kX;have st:Still w1.heap.size w1 wr:=Still.aK hb.out (Ad4 _);have g0:=cC au st aC rfl;have g1:=bK au st aC 0 rfl;have g2:=bK au st aC 1 rfl;have xD:(ad.add (i * 3)).block<wr.heap.size:=by rw[cq];omega
   have HX:=Afl hx;have IE:=OK.out x (Agd hx);have oka:0<=x.a/\x.a<=1000:=IE 0;have okb:0<=x.b/\x.b<=1000:=IE 1;have ID:0<=x.c/\x.c<=1000:=IE 2;have i0:∀w:Abc,(Afk 128 (.agg #[.int .i64 x.a,.int .i64 x.b,.int .i64 x.c]) (.int .i64 0)).run prog w=.ok (.int .i64 x.a) w:=λw=>by simp[Afk,go_sem]
   have i1:∀w:Abc,(Afk 128 (.agg #[.int .i64 x.a,.int .i64 x.b,.int .i64 x.c]) (.int .i64 1)).run prog w=.ok (.int .i64 x.b) w:=λw=>by simp[Afk,go_sem]
   have i2:∀w:Abc,(Afk 128 (.agg #[.int .i64 x.a,.int .i64 x.b,.int .i64 x.c]) (.int .i64 2)).run prog w=.ok (.int .i64 x.c) w:=λw=>by simp[Afk,go_sem]
   clear hx au st IE;go_wp2;go_loopw [9,30] (λs z W=>∃j:Nat,j<=3/\z=.int .i64 j/\s=.int .i64 (if j=0 then 0 else if j=1 then x.a else if j=2 then x.a+x.b else x.a+x.b+x.c)/\W=wr.alloc (.cells #[.int .i64 x.a,.int .i64 x.b,.int .i64 x.c] 128)) (λ_ z _=>3 - (Ahb z).toNat)
   case atStart=>exact⟨0,by omega,rfl,rfl,rfl⟩
   case round=>
    obtain⟨j,hj,rfl,rfl,rfl⟩:=hrel;match j,hj with
    |0,_=>
     go_wp2;go_roundw;case rel=>exact⟨1,by omega,rfl,by simp,trivial⟩
     case measure=>simp[Ahb]
    |1,_=>
     go_wp2;go_roundw;case rel=>exact⟨2,by omega,rfl,by simp,trivial⟩
     case measure=>simp[Ahb]
    |2,_=>
     go_wp2;go_roundw;case rel=>exact⟨3,by omega,rfl,by simp,trivial⟩
     case measure=>simp[Ahb]
    |3,_=>
     obtain⟨S,hS⟩:∃S,S=x.a+x.b+x.c:=⟨_,rfl⟩
     have HS:Hid (S=x.sum):=Afl hS;have e3:(if 3=0 then 0 else if 3=1 then x.a else if 3=2 then x.a+x.b else x.a+x.b+x.c)=S:=by simp[hS]
     rw[e3];clear hS e3;have q1:w1.heap.size+1<wr.heap.size+1:=by omega
     have cP:=hk.out.alloc (.cells #[.int .i64 x.a,.int .i64 x.b,.int .i64 x.c] 128);by_cases h0:i=0
     ·subst h0
      go_wp2;go_roundw;case rel=>exact⟨1,by omega,by simp,Afl (by
           have e:(aD b).take 1=[x]:=by have:=oJ HX.out;simpa using this
           rw[e,amk];have:=(((hk.out.set 0 (.int .i64 S)).set 1 (.int .i64 S)).set 0 (.int .i64 S)).set 1 (.int .i64 S);simpa [BE,HS.out] using this.alloc (.cells #[.int .i64 x.a,.int .i64 x.b,.int .i64 x.c] 128)),
          Afl (Ahg (by(repeat refine Ahf ?_ (by simp) _);exact hb.out) (by simp[Adx];omega) _)⟩
      case measure=>simp[Ahb];omega
     ·have aw:((i:Int)==0)=false:=by simp;omega
      go_wp2;go_roundw;case rel=>exact⟨i+1,by omega,by go_num,Afl (by
           have hn:(aD b).take i≠ []:=by
            intro e;have h1:((aD b).take i).length=i:=by rw[List.length_take,pO.out];omega
            rw[e] at h1;simp at h1;omega
           rw[oJ HX.out,aml hn,<-HT.out];have:=(hk.out.set 0 (.int .i64 (min T.lo S))).set 1 (.int .i64 (max T.hi S));simpa [BE,HS.out] using this.alloc (.cells #[.int .i64 x.a,.int .i64 x.b,.int .i64 x.c] 128)),
          Afl (Ahg (by(repeat refine Ahf ?_ (by simp) _);exact hb.out) (by simp[Adx];omega) _)⟩
      case measure=>simp[Ahb];omega
  ·obtain rfl:i=n9:=by omega
   have YY:Hid (T=oK (aD b)):=Afl (by rw[HT.out,Agc (Agn pO.out)])
   have kr:=k2.out.below hb.out (by omega)
   have r0: wr.cell? ⟨w.heap.size+1,0,none⟩=some (.int .i64 0):=kr.cell 0;have r1: wr.cell? ⟨w.heap.size+1,1,none⟩=some (.int .i64 0):=kr.cell 1;have y0:=kr.frozen 0;have y1:=kr.frozen 1;have e1:w.heap.size+1<w1.heap.size+1:=by omega
   clear kr;go_wp2;refine Ag4 (v:=.tuple #[.agg #[.int .i64 T.lo,.int .i64 T.hi],.int .i64 0]) (by simp[results,Tryz.results26,go_sem,r0,r1]) rfl ⟨by rw[YY.out],?_⟩
   repeat refine Ahf ?_ (by simp) _
   exact ux.out
def agA:prog.keyTypeAt 10 225=true:=by kernel_rfl
def amg:prog.tiled 10 225=true:=by kernel_rfl
def small:10+1<=10000:=by omega
def Eu:Maps.Keyed prog 225:=Maps.Keyed.of_law (deep_law small agA amg (by kernel_rfl))
def kt:prog.keyType 225=true:=by kernel_rfl
def sz:prog.types.size=260:=by kernel_rfl
def Sf:prog.cellsOf 225=4:=by kernel_rfl
def c3:prog.cellsOf 3=1:=by kernel_rfl
def fm(a b c d:Int):(Value.agg #[.int .i64 a,.int .i64 b,.int .i64 c,.int .i64 d]).formed prog 225=true:=by
 have u:=U Tryz.underlying225;simp only[Value.formed,u,Sf];rfl
def agy(n:Nat)(a b c d:Int)(ha:(Lit.int .i64 a).wf=true)(hb:(Lit.int .i64 b).wf=true)(hc:(Lit.int .i64 c).wf=true)(hd:(Lit.int .i64 d).wf=true):
 prog.keyLits (n+1+1) 225 [.int .i64 a,.int .i64 b,.int .i64 c,.int .i64 d]=some [.int .i64 a,.int .i64 b,.int .i64 c,.int .i64 d]:=by
 have u:=U Tryz.underlying225;have u3:=U Tryz.underlying3;simp[Program.keyLits,u,u3,Sf,c3,ha,hb,hc,hd]
def agv(a b c d:Int)(ha:(Lit.int .i64 a).wf=true)(hb:(Lit.int .i64 b).wf=true)(hc:(Lit.int .i64 c).wf=true)(hd:(Lit.int .i64 d).wf=true):∃l,keyOf prog 225 (.agg #[.int .i64 a,.int .i64 b,.int .i64 c,.int .i64 d])=some l:=by
 have u:=U Tryz.underlying225;refine⟨.string (keyBytes [.int .i64 a,.int .i64 b,.int .i64 c,.int .i64 d]),?_⟩
 unfold keyOf;simp only[u,kt,fm,Bool.and_self,if_true];rw[sz];have:=agy 259 a b c d ha hb hc hd;simp only[Value.cells,Array.toList] at this |-
 rw[this];rfl
def kv(bd fr ln be:Int):Value:=.agg #[.int .i64 bd,.int .i64 fr,.int .i64 ln,.int .i64 be]
def lI(a:Int):Prop:= -9223372036854775808<=a/\a<=9223372036854775807
def BJ{a:Int}(h:lI a):(Lit.int .i64 a).wf=true:=WalkArith.wf_i64 h
def pn(b:ao)(bd fr ln be:Int):Bool:=match b.aF[bd.toNat]? with
 |some x=>tR x be ln ⟨bd,fr⟩
 |none=>false
structure zt(bd fr ln be:Int):Prop where
 a:lI bd
 b:lI fr
 c:lI ln
 d:lI be
def zt.key{bd fr ln be:Int}(h:zt bd fr ln be):∃l,keyOf prog 225 (kv bd fr ln be)=some l:=agv bd fr ln be (BJ h.a) (BJ h.b) (BJ h.c) (BJ h.d)
def Ko(b:ao)(e:MapEntry):Prop:=∃bd fr ln be,zt bd fr ln be/\e.key=kv bd fr ln be/\e.val=.bool (pn b bd fr ln be)
def dK(W:Abc)(g:Nat)(b:ao):Prop:=∃es clock,W.heap[g]?=some (.map es clock)/\∀e∈es.toList,Ko b e
def dK.lt{W:Abc}{g:Nat}{b:ao}(h:dK W g b):g<W.heap.size:=by
 obtain⟨es,clock,h,_⟩:=h;exact(Aaf.1 h).1
def agB{a b c d a' b' c' d':Int}(h:kv a b c d=kv a' b' c' d'):a=a'/\b=b'/\c=c'/\d=d':=by
 simp[kv] at h;exact h
def Ko.key{b:ao}{e:MapEntry}(h:Ko b e):∃l,keyOf prog 225 e.key=some l:=by
 obtain⟨bd,fr,ln,be,h1,h2,_⟩:=h;obtain⟨l,hl⟩:=h1.key;exact⟨l,by rw[h2];exact hl⟩
def ahm{W:Abc}{g:Nat}{b:ao}(h:dK W g b){bd fr ln be:Int}(hk:zt bd fr ln be):
 ∃v ok,(Ac3 149 (.map (some g)) (kv bd fr ln be) true).run prog W=.ok (.tuple #[.bool v,.bool ok]) W/\(ok=true->v=pn b bd fr ln be):=by
 obtain⟨es,clock,hg,rF⟩:=h;obtain⟨l,hl⟩:=hk.key;have hc:=Eu.check W es.isEmpty hl;have hz:(zeroValue 4).run prog W=.ok (.bool false) W:=by rw[Qb];kernel_rfl
 have hgo:(getObj g).run prog W=.ok (.map es clock) W:=by simp[getObj,Sem.run,hg]
 rcases Eu.find W hl es.toList (λe he=>(rF e he).key) with⟨hf,_⟩ | ⟨j,e,hf,hj,Ns⟩
 ·refine⟨false,false,?_,by simp⟩
  unfold Ac3;simp[Sem.run_bind,hgo,Aha,hc,hf,hz,go_sem]
 ·obtain⟨bd',aV,ln',be',_,h2,h3⟩:=rF e (Agd hj)
  rw[Ns] at h2;obtain⟨rfl,rfl,rfl,rfl⟩:=agB h2;refine⟨_,true,?_,λ_=>rfl⟩
  unfold Ac3;simp[Sem.run_bind,hgo,Aha,hc,hf,h3,go_sem]
def amD{W:Abc}{g:Nat}{b:ao}(h:dK W g b){bd fr ln be:Int}(hk:zt bd fr ln be):
 ∃W',(Ac6 149 (.map (some g)) (kv bd fr ln be) (.bool (pn b bd fr ln be))).run prog W=.ok () W'/\dK W' g b/\W.grownBy W' (some g):=by
 obtain⟨es,clock,hg,rF⟩:=h;have al:=(Aaf.1 hg).1
 obtain⟨l,hl⟩:=hk.key;have hc:=Eu.check W false hl;have hgo:(getObj g).run prog W=.ok (.map es clock) W:=by simp[getObj,Sem.run,hg]
 have jy:∀es' CM,(setObj g (.map es' CM)).run prog W=.ok () (W.putObj g (.map es' CM)):=λes' CM=>by
  have e:W.heap[g]=.map es clock:=(Aaf.1 hg).2
  simp[setObj,Sem.run,World.putObj,al,e]
 have gr:∀es' CM,W.grownBy (W.putObj g (.map es' CM)) (some g):=λ_ _=>Ag2 _ _ _
 rcases Eu.find W hl es.toList (λe he=>(rF e he).key) with⟨hf,_⟩ | ⟨j,e,hf,hj,Ns⟩
 ·refine⟨W.putObj g (.map (es.push {key:=kv bd fr ln be,val:=.bool (pn b bd fr ln be),born:=clock}) (clock+1)),?_,?_,gr _ _⟩
  ·unfold Ac6
   simp[Sem.run_bind,hgo,Aha,hc,hf,go_sem,jy]
  ·refine⟨_,_,Ahh al,λe he=>?_⟩
   simp at he;rcases he with he|rfl
   ·exact rF e (by simpa using he)
   ·exact⟨bd,fr,ln,be,hk,rfl,rfl⟩
 ·have aQ:=Eu.stays W hl
  refine⟨W.putObj g (.map (es.modify j λe=> {e with key:=kv bd fr ln be,val:=.bool (pn b bd fr ln be)}) clock),?_,?_,gr _ _⟩
  ·unfold Ac6
   have qq:es[j]?=some e:=by simpa using hj
   simp[Sem.run_bind,hgo,Aha,hc,hf,go_sem,qq,Ns,aQ,jy]
  ·refine⟨_,_,Ahh al,λe' he'=>?_⟩
   obtain⟨i,hi⟩:=List.getElem?_of_mem he'
   rw[Agw,Array.getElem?_modify] at hi
   split at hi
   ·cases h:es[i]? with
    |none=>rw[h] at hi;cases hi
    |some e0=>
     rw[h] at hi;cases hi;exact⟨bd,fr,ln,be,hk,rfl,rfl⟩
   ·exact rF e' (by rw[<-Agw] at hi;exact Agd hi)
def Ye{P:Abe}{ops:Array Oper}{rest:List Oper}{o:Oper}{a:Act}{w:Abc}{Q:Exit->Act->Abc->Prop}(hg:o.guard=none)(m x:Abm)(t:Aa8)(ab:o.op=Op.lookup t m x true)(r:Value)
 (bz:(Ac3 t (a.eval m) (a.eval x) true).run P w=.ok r w)(hK:Ag5 P ops Q rest (a.put o.dst r) w):Ag5 P ops Q (o::rest) a w:=by
 refine wpList_plain hg λK' Db=>?_
 unfold Oper.wp;simp[execOp,ab,bz,Aha];exact Db _ _ hK
def anf{P:Abe}{ops:Array Oper}{rest:List Oper}{o:Oper}{a:Act}{w w':Abc}{Q:Exit->Act->Abc->Prop}(hg:o.guard=none)(m x v:Abm)(t:Aa8)(ab:o.op=Op.mapUpdate t m x v)
 (bz:(Ac6 t (a.eval m) (a.eval x) (a.eval v)).run P w=.ok () w')(hK:Ag5 P ops Q rest (a.put o.dst undef) w'):Ag5 P ops Q (o::rest) a w:=by
 refine wpList_plain hg λK' Db=>?_
 unfold Oper.wp;simp[execOp,ab,bz,Aha];exact Db _ _ hK
def dK.grown{W W':Abc}{g:Nat}{b:ao}{row:Option Nat}(h:dK W g b)(hg:W.grownBy W' row)(hr:row≠some g):dK W' g b:=by
 have hl:=h.lt;obtain⟨es,clock,h1,h2⟩:=h;exact⟨es,clock,(hg.block g hl (λe=>hr e.symm)).trans h1,h2⟩
def dK.below{W W':Abc}{g B:Nat}{b:ao}(h:dK W g b)(hb:Below B W W')(hg:g<B):dK W' g b:=by
 obtain⟨es,clock,h1,h2⟩:=h;exact⟨es,clock,(hb.block g hg).trans h1,h2⟩
def je{w w':Abc}{B:Nat}(h:Below B w w')(hB:w.heap.size<=B)(row:Option Nat):w.grownBy w' row:=⟨h.os,h.tape,h.output,h.size,λk hk _=>h.block k (by omega)⟩
def XW{w w':Abc}{row:Option Nat}(h:w.drew.grownBy w' row):w.grownBy w' row:=⟨h.os,h.tape,h.output,h.size,h.block⟩
def can{b:ao}{i k g:Nat}{p:Piece}{x:bR}{from_ length:Int}{pv bv tv sv:Value}{w:Abc}{B:Nat}(ai:bg w B b pv bv tv)(hB:B<=w.heap.size)(oD:∃A n c,sv=.slice A n c)(hm:dK w g b)(hgB:B<=g)
 (hp:b.pieces[i]?=some p)(hx:b.aF[k]?=some x)(hf:0<=from_/\from_<=1000)(hl:0<=length/\length<=1000)(MQ:0<=p.bears/\p.bears<=2)(fh:k<=3):
 Aet prog 176 #[.agg #[.int .i64 b.ag,pv,bv,tv,sv,.map (some g)],.int .i64 i,.int .i64 length,.agg #[.int .i64 k,.int .i64 from_]] w λe w'=>e=.returned (.bool (pn b k from_ length p.bears))/\w.grownBy w' (some g)/\dK w' g b:=by
 obtain⟨A4,n4,c4,rfl⟩:=oD;have bT:=Afl ai;have Ux:zt k from_ length p.bears:=⟨by unfold lI;omega,by unfold lI;omega,by unfold lI;omega,by unfold lI;omega⟩
 have Q1:=Afl Ux;have HM:=Afl hm;obtain⟨A1,n1,c1,rfl,e1,h1,eA,r1⟩:=ai.pieces.open_;obtain⟨A2,n2,c2,rfl,e2,h2,dW,r2⟩:=ai.aF.open_;obtain⟨A3,n3,c3,rfl,-⟩:=ai.aJ.open_;unfold Aes at eA dW;have hi:i<n1:=by have:=(Af7.1 hp).1;omega
 obtain⟨ee,p',uQ,rfl,Ac,DV,⟨rfl,UX⟩,-,ff⟩:=r1 i hi;obtain rfl:p'=p:=by rw[DV] at hp;exact Aea hp
 have st:=Still.refl (B:=B) w;have g3: w.cell? ⟨(ee.add (i * 4)).block,(ee.add (i * 4)).off+3,none⟩=some (.int .i64 p'.bears):=bK ff st Ac 2 rfl;have s0:(ee.add (i * 4)).block<w.heap.size:=by rw[cq];omega
 have s1:(ee.add (i * 4)).block<=w.heap.size:=by omega
 have s2:(ee.add (i * 4)).block<=w.heap.size+1:=by omega
 have k7:=hm.lt;have aB:=λ(W:Abc) (aQ:Still B w W) (hs:B<=W.heap.size)=>VW (w:=W) (bT.out.still aQ) hs hp hx hf hl
 have ig:pn b k from_ length p'.bears=tR x p'.bears length ⟨k,from_⟩:=by unfold pn;simp[hx]
 have HC:=Afl aB;have sR:=Afl ig;clear ai e1 e2 r1 r2 hp hx DV ff st Ux hm aB ig UX;have gB:((w.alloc (Afq #[.int .i64 b.ag,.slice (some ee) n1 c1,.slice A2 n2 c2,.slice A3 n3 c3,.slice A4 n4 c4,.map (some g)] 151)).alloc (Afq #[.int .i64 k,.int .i64 from_] 56)).cell? ⟨(ee.add (i * 4)).block,(ee.add (i * 4)).off+3,none⟩=some (.int .i64 p'.bears):=
  (Afy _ _ _ (by simp;omega)).trans ((Afy _ _ _ (by simp;omega)).trans g3)
 have gA:(((w.alloc (Afq #[.int .i64 b.ag,.slice (some ee) n1 c1,.slice A2 n2 c2,.slice A3 n3 c3,.slice A4 n4 c4,.map (some g)] 151)).alloc (Afq #[.int .i64 k,.int .i64 from_] 56)).alloc (Afq #[.int .i64 0,.int .i64 0,.int .i64 0,.int .i64 0] 225)).cell? ⟨(ee.add (i * 4)).block,(ee.add (i * 4)).off+3,none⟩=some (.int .i64 p'.bears):=
  (Afy _ _ _ (by simp;omega)).trans gB
 go_enter func176,Tryz.ntmps176;go_wp2;go_region
 clear gA gB;obtain⟨W4,Aa⟩:∃W4,W4=(((w.alloc (Afq #[.int .i64 b.ag,.slice (some ee) n1 c1,.slice A2 n2 c2,.slice A3 n3 c3,.slice A4 n4 c4,.map (some g)] 151)).alloc (Afq #[.int .i64 k,.int .i64 from_] 56)).alloc (Afq #[.int .i64 k,.int .i64 from_,.int .i64 length,.int .i64 p'.bears] 225)).drew:=⟨_,rfl⟩
 rw[<-Aa];have b4:Bk W4 w.heap.size 151 #[.int .i64 b.ag,.slice (some ee) n1 c1,.slice A2 n2 c2,.slice A3 n3 c3,.slice A4 n4 c4,.map (some g)]:=by rw[Aa];exact((Bk.new w _ _).alloc _).alloc _
 have Gw:Bk W4 (w.heap.size+1) 56 #[.int .i64 k,.int .i64 from_]:=by rw[Aa];exact(Bk.cG (by simp) _ _).alloc _
 have k4:Bk W4 (w.heap.size+1+1) 225 #[.int .i64 k,.int .i64 from_,.int .i64 length,.int .i64 p'.bears]:=by rw[Aa];exact Bk.cG (by simp) _ _
 have B4:Below w.heap.size w W4:=by rw[Aa];exact iY ((((Aft _ _).alloc (Ad4 _) _).alloc (by simp) _).alloc (by simp;omega) _)
 have jK:=Afl (Aee b4 (Aee Gw (Aee k4 B4)));have Xb:=Afl (HM.out.below B4 k7);have vG:w.heap.size+1+1<W4.heap.size:=k4.lt;have m0:=b4.cell 0;have m1:=b4.cell 1;have m2:=b4.cell 2;have m3:=b4.cell 3;have m5: W4.cell? ⟨w.heap.size,5,none⟩=some (.map (some g)):=b4.cell 5;have LK:=Gw.cell 0;have LM:=Gw.cell 1;have q0: W4.cell? ⟨w.heap.size+1+1,0,none⟩=some (.int .i64 k):=k4.cell 0;have q1: W4.cell? ⟨w.heap.size+1+1,1,none⟩=some (.int .i64 from_):=k4.cell 1;have q2: W4.cell? ⟨w.heap.size+1+1,2,none⟩=some (.int .i64 length):=k4.cell 2;have q3: W4.cell? ⟨w.heap.size+1+1,3,none⟩=some (.int .i64 p'.bears):=k4.cell 3;obtain⟨v,ok,UL,dh⟩:=ahm Xb.out Q1.out;have Q5:=Afl UL;have aB:=Afl (HC.out W4 (Still.aK B4 hB) (by have:=B4.size;omega))
 clear Aa b4 Gw k4 B4 UL;cases ok with
 |true=>
  obtain rfl:=dh rfl;clear dh;go_wp2_with (first
   | (at_lookup;refine Ye rfl (.tmp 29) (.tmp 30) 149 rfl _ Q5.out ?_))
  go_ret;exact⟨b9 rfl,je jK.out.2.2.2 (Ad4 _) _,Xb.out⟩
 |false=>
  clear dh;go_wp2_with (first
   | (at_lookup;refine Ye rfl (.tmp 29) (.tmp 30) 149 rfl _ Q5.out ?_)
   | (go_at_call 165;refine aB.out.mono ?_;rintro e w1 ⟨rfl,ae⟩
      have m5: w1.cell? ⟨w.heap.size,5,none⟩=some (.map (some g)):=(jK.out.1.below ae (by omega)).cell 5
      have q0: w1.cell? ⟨w.heap.size+1+1,0,none⟩=some (.int .i64 k):=(jK.out.2.2.1.below ae (by omega)).cell 0
      have q1: w1.cell? ⟨w.heap.size+1+1,1,none⟩=some (.int .i64 from_):=(jK.out.2.2.1.below ae (by omega)).cell 1
      have q2: w1.cell? ⟨w.heap.size+1+1,2,none⟩=some (.int .i64 length):=(jK.out.2.2.1.below ae (by omega)).cell 2
      have q3: w1.cell? ⟨w.heap.size+1+1,3,none⟩=some (.int .i64 p'.bears):=(jK.out.2.2.1.below ae (by omega)).cell 3
      obtain⟨w2,Of,cP,kG⟩:=amD (Xb.out.below ae (by omega)) Q1.out
      rw[sR.out] at Of;have Y0:=Afl Of;have HE:=Afl (Aee cP kG);have mi:=Afl (chain jK.out.2.2.2 ae (by omega))
      clear ae Of cP kG)
   | (at_mapUpdate;refine anf rfl (.tmp 44) (.tmp 45) (.tmp 46) 149 rfl Y0.out ?_))
  go_ret;exact⟨b9 (by rw[sR.out]),(je mi.out (Ad4 _) _).trans HE.out.2,HE.out.1⟩
def mJ(b:ao)(k:Nat):Nat:=match b.aF[k]? with
 |some x=>x.aH.toNat
 |none=>0
def tT(b:ao)(n:an)(cs:List Cut)(c:Cut):Bool:=AW b cs.length (n.at cs.length) c && (Agj cs.length).all (rm b n cs cs.length c)
def kj(b:ao)(n:an)(S:List Cut->Option (List Cut))(cs:List Cut)(k fr:Nat):Option (List Cut):=if tT b n cs ⟨k,fr⟩ then S (cs++ [⟨k,fr⟩]) else none
def pC(b:ao)(n:an)(out:Nat->Bool)(S:List Cut->Option (List Cut))(cs:List Cut)(k:Nat):Option (List Cut):=
 if out k then none else(Agj (mJ b k)).findSome? (kj b n S cs k)
def search(b:ao)(n:an)(out:Nat->Bool):Nat->List Cut->Option (List Cut)
 |0,cs=>some cs
 |f+1,cs=>(Agj b.aF.length).findSome? (pC b n out (search b n out f) cs)
def C6{α:Type}{F:Nat->Option α}{n:Nat}:(Agj n).findSome? F=none↔∀i,i<n->F i=none:=by simp
def Ts{α:Type}{F:Nat->Option α}{n k:Nat}{x:α}(hk:k<n)(h0:∀i,i<k->F i=none)(h:F k=some x):(Agj n).findSome? F=some x:=by
 have e:Agj n=Agj k++k::(Agj n).drop (k+1):=by
  have h1:(Agj n).take k=Agj k:=by rw[List.take_range,Aih (by omega)]
  have h2:=Ahu k (Agj n);rw[h1,List.drop_eq_getElem_cons (by simpa using hk)] at h2
  rw[List.getElem_range] at h2;exact h2.symm
 rw[e,List.findSome?_append,C6.2 h0,List.findSome?_cons,h]
 rfl
def Cut.vs(c:Cut):List Value:=[.int .i64 c.bp,.int .i64 c.from_]
structure ep where
 w:Abc
 b:ao
 pv:Value
 bv:Value
 tv:Value
 sv:Value
 n:an
 gs:Nat
 go:Nat
 gn:Nat
 gm:Nat
 KO:Nat
 jD:Array Value
 out:Nat->Bool
 l:Nat
def ep.s(X:ep):Nat:=X.w.heap.size
def ep.np(X:ep):Nat:=X.b.pieces.length
def ep.args(X:ep):Array Value:=#[.pointer (some ⟨X.s+2,0,none⟩),.pointer (some ⟨X.gs,0,none⟩),.pointer (some ⟨X.s,0,none⟩),.pointer (some ⟨X.go,0,none⟩),.pointer (some ⟨X.gn,0,none⟩),.pointer (some ⟨X.s+3,0,none⟩)]
structure ep.Ok(X:ep)(B:Nat):Prop where
 book:bg X.w B X.b X.pv X.bv X.tv
 valid:Valid X.b
 lens:X.n.Ok
 sv:∃A n c,X.sv=.slice A n c
 B:B<=X.gm
 s:X.gs<X.s
 o:X.go<X.s
 gn:X.gn<X.s
 gm:X.gm<X.s
 ns:X.gs≠X.gm
 no:X.go≠X.gm
 nn:X.gn≠X.gm
 cs:Bk X.w X.gs 151 #[.int .i64 X.b.ag,X.pv,X.bv,X.tv,X.sv,.map (some X.gm)]
 co:Bk X.w X.go 158 #[fv X.KO X.jD]
 cn:Bk X.w X.gn 128 X.n.cs
 eg:∀args w,(callFunc X.KO args).run prog w=.ok (.enter X.KO args) w
 out:∀(k:Nat) (W:Abc),k<X.b.aF.length->X.w.grownBy W (some X.gm)->Aet prog X.KO (#[.int .i64 k]++X.jD) W λe W'=>e=.returned (.bool (X.out k))/\Below W.heap.size W W'
structure DI(X:ep)(cs:List Cut)(W:Abc):Prop where
 y:Bk W X.s 139 #[.func (.yield X.l) #[] #[]]
 arr:W.ownsRow (X.s+1) 56 2 (.slice (some ⟨X.s+1,0,none⟩) cs.length X.np) cs.length (cs.flatMap Cut.vs)
 lv:Bk W (X.s+2) 27 #[.slice (some ⟨X.s+1,0,none⟩) cs.length X.np]
 nx:Bk W (X.s+3) 29 #[.func (.func 175) #[] X.args]
 gr:X.w.grownBy W (some X.gm)
 known:dK W X.gm X.b
def Bk.grown{W W':Abc}{g:Nat}{t:Aa8}{cs:Array Value}{row:Option Nat}(h:Bk W g t cs)(hg:W.grownBy W' row)(hr:some g≠row):Bk W' g t cs:=(hg.block g h.lt hr).trans h
def ajv{w w':Abc}{base:Nat}{e:Aa8}{sz n:Nat}{v:Value}{xs:List Value}{row:Option Nat}(h:w.ownsRow base e sz v n xs)(hg:w.grownBy w' row)(hr:∀k,row=some k->k<base):w'.ownsRow base e sz v n xs:=by
 refine⟨h.1,?_⟩
 rcases h.2 with h0| ⟨g,cap,cur,h1,h2,h3,h4⟩
 ·exact .inl h0
 ·exact .inr ⟨g,cap,cur,h1,h2,(hg.block g (Aaf.1 h3).1 (λe=>by have:=hr g e.symm;omega)).trans h3,h4⟩
def DI.grown{X:ep}{B:Nat}{cs:List Cut}{W W':Abc}(ok:X.Ok B)(h:DI X cs W)(hg:W.grownBy W' (some X.gm))(hk:dK W' X.gm X.b):DI X cs W':=by
 have:=ok.gm;exact⟨h.y.grown hg (by simp;omega),ajv h.arr hg (λk e=>by cases e;omega),h.lv.grown hg (by simp;omega),h.nx.grown hg (by simp;omega),h.gr.trans hg,hk⟩
def DI.below{X:ep}{B:Nat}{cs:List Cut}{W W':Abc}(ok:X.Ok B)(h:DI X cs W)(hb:Below W.heap.size W W'):DI X cs W':=
 h.grown ok (je hb (Ad4 _) _) (h.known.below hb h.known.lt)
def FH{B g:Nat}{w W:Abc}(h:w.grownBy W (some g))(hg:B<=g)(hB:B<=w.heap.size):Still B w W:=λp hp=>World.cell?_of_block (h.block p.block (by omega) (by simp;omega))
def ajw{w:Abc}{base:Nat}{e:Aa8}{sz n g cap:Nat}{xs:List Value}(h:w.ownsRow base e sz (.slice (some ⟨g,0,none⟩) n cap) n xs){m:Nat}(hm:m<=n):w.ownsRow base e sz (.slice (some ⟨g,0,none⟩) m cap) m (xs.take (m * sz)):=by
 have RM:m * sz<=n * sz:=Aif _ hm;refine⟨by rw[List.length_take,h.1];omega,?_⟩
 rcases h.2 with⟨h0,_⟩ | ⟨g',zd,cur,h1,h2,h3,h4,h5,h6,h7⟩
 ·cases h0
 ·cases h1
  exact .inr ⟨g,cap,cur,rfl,h2,h3,by omega,h5,h6,by rw[<-h7,List.take_take,Aih RM]⟩
def acN(l:List Cut)(c:Cut):((l++ [c]).flatMap Cut.vs).take (l.length * 2)=l.flatMap Cut.vs:=by
 have hl:∀l:List Cut,(l.flatMap Cut.vs).length=l.length * 2:=by
  intro l;induction l with
  |nil=>rfl
  |cons a l ih=>rw[Ahw,Ahx,ih];simp[Cut.vs];omega
 rw[Ahv,<-hl l,List.take_left]
def xr{w W:Abc}{row:Option Nat}{p:Addr}{u:Value}(h:w.grownBy W row)(hp:w.heap.size<=p.block):w.grownBy (W.setCell p u) row:=
 ⟨h.os,h.tape,h.output,by simp[Adx];exact h.size,λk hk aw=>(Ahc _ _ _ _ (by omega)).trans (h.block k hk aw)⟩
def xq{w W W':Abc}{row WI:Option Nat}(h:w.grownBy W row)(k:W.grownBy W' WI)(hr:∀g,WI=some g->w.heap.size<=g):w.grownBy W' row:=
 ⟨k.os.trans h.os,k.tape.trans h.tape,k.output.trans h.output,Ad5 h.size k.size,λi hi aw=>(k.block i (Nat.lt_of_lt_of_le hi h.size) (λe=>by have:=hr i e.symm;omega)).trans (h.block i hi aw)⟩
def DI.back{X:ep}{B:Nat}{cs:List Cut}{c:Cut}{W:Abc}(ok:X.Ok B)(h:DI X (cs++ [c]) W):DI X cs (W.setCell ⟨X.s+2,0,none⟩ (.slice (some ⟨X.s+1,0,none⟩) cs.length X.np)):=by
 have Ar:=ok.gm;have hx:=h.nx.lt;have hs:X.w.heap.size=X.s:=rfl;have ha:W.ownsRow (X.s+1) 56 2 (.slice (some ⟨X.s+1,0,none⟩) cs.length X.np) cs.length (cs.flatMap Cut.vs):=by
  have:=ajw (m:=cs.length) (by have:=h.arr;rwa[Ahx,Af4] at this) (by omega)
  rwa[acN] at this
 refine⟨h.y.cu (by simp) _,?_,h.lv.set 0 _,h.nx.cu (by simp) _,xr h.gr (by simp[ep.s]),?_⟩
 ·refine⟨ha.1,?_⟩
  rcases ha.2 with⟨h0,_⟩ | ⟨g,cap,cur,h1,h2,h3,h4⟩
  ·cases h0
  ·cases h1
   exact .inr ⟨_,_,cur,rfl,h2,(Ahc _ _ _ _ (by simp)).trans h3,h4⟩
 ·obtain⟨es,clock,h1,h2⟩:=h.known
  exact⟨es,clock,(Ahc _ _ _ _ (by simp;omega)).trans h1,h2⟩
def DI.push{X:ep}{B:Nat}{cs:List Cut}{c:Cut}{W W1:Abc}{o:Obj}(ok:X.Ok B)(h:DI X cs W)
 (aG:W1.ownsRow (X.s+1) 56 2 (.slice (some ⟨X.s+1,0,none⟩) (cs.length+1) X.np) (cs.length+1) (cs.flatMap Cut.vs++c.vs))(hg:(W.alloc o).grownBy W1 (some (X.s+1))):
 DI X (cs++ [c]) (W1.setCell ⟨X.s+2,0,none⟩ (.slice (some ⟨X.s+1,0,none⟩) (cs.length+1) X.np)):=by
 have Ar:=ok.gm;have hx:=h.nx.lt;have hl:(cs++ [c]).length=cs.length+1:=by simp
 have dB:W.grownBy W1 (some (X.s+1)):=(Ahk W o _).trans hg;have hz:=dB.size;refine⟨(h.y.grown dB (by simp)).cu (by simp) _,?_,?_,(h.nx.grown dB (by simp)).cu (by simp) _,xr (xq h.gr dB (λg e=>by cases e;simp[ep.s])) (by simp[ep.s]),?_⟩
 ·rw[hl,Ahv,Ahz]
  refine⟨aG.1,?_⟩
  rcases aG.2 with⟨h0,_⟩ | ⟨g,cap,cur,h1,h2,h3,h4⟩
  ·cases h0
  ·cases h1
   exact .inr ⟨_,_,cur,rfl,h2,(Ahc _ _ _ _ (by simp)).trans h3,h4⟩
 ·rw[hl];exact(h.lv.grown dB (by simp)).set 0 _
 ·obtain⟨es,clock,h1,h2⟩:=h.known.grown dB (by simp;omega)
  exact⟨es,clock,(Ahc _ _ _ _ (by simp;omega)).trans h1,h2⟩
end Go.Tw
namespace Go.Tw
variable [Go.Tw.aR]
open Go Go.Proofs Go.RowKit
attribute [local go_sem] ze K0 Ag8
structure zx(X:ep)(Z:List Cut->Abc->Prop):Prop where
 lv:∀full W,Z full W->∃i,Bk W (X.s+2) 27 #[.slice (some ⟨X.s+1,0,none⟩) i X.np]
 set:∀full W i,Z full W->Z full (W.setCell ⟨X.s+2,0,none⟩ (.slice (some ⟨X.s+1,0,none⟩) i X.np))
 yield:∀(m:Nat) (full:List Cut) (W:Abc),full.length=X.np->DI X full W->YieldAt Ag7 m prog X.l #[.slice (some ⟨X.s+1,0,none⟩) X.np X.np] W λe W'=>e=.returned (.bool false)/\Z full W'
def Gg(X:ep)(Z:List Cut->Abc->Prop)(cs:List Cut)(r:Option (List Cut))(e:Ag1)(W':Abc):Prop:=
 (∃full,r=some full/\e=.returned (.bool false)/\Z full W')\/(r=none/\e=.returned (.bool true)/\DI X cs W')
def ala{X:ep}{B:Nat}(ok:X.Ok B){Z:List Cut->Abc->Prop}(hZ:zx X Z){cs:List Cut}(hc:cs.length=X.np){W:Abc}(h:DI X cs W):
 Aet prog 175 X.args W (Gg X Z cs (some cs)):=by
 refine(callsIn_wide (n:=0)).1 ?_
 have HZ:=Afl hZ;have HI:=Afl h;have HC:=Afl hc;obtain⟨n,hn⟩:∃n,n=X.np:=⟨_,rfl⟩
 have aoy:n<=9223372036854775807:=by have:=ok.valid.np.2;rw[hn];unfold ep.np;omega
 obtain⟨A1,n1,c1,pd,e1,h1,eA,-⟩:=ok.book.pieces.open_;have ks:Bk W X.gs 151 #[.int .i64 X.b.ag,.slice A1 n1 c1,X.bv,X.tv,X.sv,.map (some X.gm)]:=by
  have:=ok.cs.grown h.gr (by simpa using ok.ns);rwa[pd] at this
 have PE:n1=n:=by rw[hn];unfold ep.np;omega
 have s1: W.cell? ⟨X.gs,1,none⟩=some (.slice A1 n1 c1):=ks.cell 1;have v0: W.cell? ⟨X.s+2,0,none⟩=some (.slice (some ⟨X.s+1,0,none⟩) n n):=by rw[hn];have:=h.lv.cell 0;rw[hc] at this;exact this
 have y0: W.cell? ⟨X.s,0,none⟩=some (.func (.yield X.l) #[] #[]):=h.y.cell 0;obtain⟨f1,t1,a1,b1,jA,oq⟩:=hZ.yield (0 - 1) cs W hc h;rw[<-hn] at jA;have KX:=Afl oq;subst PE;clear hZ h hc hn ks pd e1 oq;unfold ep.args;refine Ag0 func175 rfl trivial ?_
 simp only[Tryz.ntmps175,Ahn,Aho,Ahp,Aic,Aid,Agu,Agv,Ahq,Ahr,Ahs,Aht]
 gi_wp2
 refine KX.out.mono ?_
 rintro e W' ⟨rfl,hz⟩
 gi_wp2
 go_ret;exact .inl ⟨cs,rfl,b9 rfl,hz⟩
end Go.Tw
namespace Go.Tw
variable [Go.Tw.aR]
open Go Go.Proofs Go.RowKit
def nu(g n:Nat):(⟨g,0,none⟩:Addr).add n=⟨g,n,none⟩:=by
 unfold Ag6;split
 ·rename_i h;rw[h]
 ·simp
def qd(w:Abc)(o:Obj)(row:Option Nat):w.grownBy (w.alloc o).drew row:=let h:=Ahk w o row;⟨h.os,h.tape,h.output,h.size,h.block⟩
def agd:∃i0,prog.info? 56=some i0/\i0.size=2:=by
 have h:(prog.info? 56).map (λi=>i.size)=some 2:=by rw[pB];kernel_rfl
 cases e: prog.info? 56 with
 |none=>rw[e] at h;cases h
 |some i=>rw[e] at h;exact⟨i,rfl,by simpa using h⟩
def acP{X:ep}{f:Nat}{cs:List Cut}{k fr:Nat}{full:List Cut}(hk:k<X.b.aF.length)(h0:∀j,j<k->pC X.b X.n X.out (search X.b X.n X.out f) cs j=none)(ho:X.out k=false)
 (hf:fr<mJ X.b k)(h1:∀j,j<fr->kj X.b X.n (search X.b X.n X.out f) cs k j=none)(h2:kj X.b X.n (search X.b X.n X.out f) cs k fr=some full):search X.b X.n X.out (f+1) cs=some full:=by
 unfold search;refine Ts hk h0 ?_
 unfold pC;rw[ho];exact Ts hf h1 h2
def alb{X:ep}{B:Nat}(ok:X.Ok B)(hB:B<=X.s){Z:List Cut->Abc->Prop}(hZ:zx X Z){f:Nat}
 (ih:∀(cs:List Cut) (W:Abc),cs.length+f=X.np->(∀c∈cs,oO X.b c)->DI X cs W->Aet prog 175 X.args W (Gg X Z cs (search X.b X.n X.out f cs)))
 {cs:List Cut}(hc:cs.length+(f+1)=X.np)(fg:∀c∈cs,oO X.b c){W:Abc}(h:DI X cs W):
 Aet prog 175 X.args W (Gg X Z cs (search X.b X.n X.out (f+1) cs)):=by
 obtain⟨i,hi⟩:∃i,i=cs.length:=⟨_,rfl⟩
 obtain⟨i56,Up,Uq⟩:=agd;have F6:=Afl (Aee Up Uq);clear Up Uq;obtain⟨A1,n1,c1,pd,e1,h1,eA,-⟩:=ok.book.pieces.open_;obtain⟨A2,nb,c2,Dr,e2,h2,dW,jZ⟩:=ok.book.aF.open_;obtain⟨A3,n3,c3,Oc,-⟩:=ok.book.aJ.open_;obtain⟨A4,n4,c4,oD⟩:=ok.sv;have dL:i<n1:=by unfold ep.np at hc;omega
 have lQ:n1<=3:=by have:=ok.valid.np.2;omega
 have UT:nb<=3:=by have:=ok.valid.nb;omega
 have qy:((i:Int)==(n1:Int))=false:=by simp;omega
 unfold Aes at eA dW;have mL:X.np=n1:=by unfold ep.np;exact e1
 have ks:Bk W X.gs 151 #[.int .i64 X.b.ag,.slice A1 n1 c1,.slice A2 nb c2,.slice A3 n3 c3,.slice A4 n4 c4,.map (some X.gm)]:=by
  have:=ok.cs.grown h.gr (by simpa using ok.ns);rwa[pd,Dr,Oc,oD] at this
 have s1: W.cell? ⟨X.gs,1,none⟩=some (.slice A1 n1 c1):=ks.cell 1;have s2: W.cell? ⟨X.gs,2,none⟩=some (.slice A2 nb c2):=ks.cell 2;have v0: W.cell? ⟨X.s+2,0,none⟩=some (.slice (some ⟨X.s+1,0,none⟩) i n1):=by rw[hi,<-mL];exact h.lv.cell 0
 have HI:=Afl h;have OK:=Afl ok;have jL:=Afl (Aee hi (Aee hc fg));have lD:=Afl (Aee pd (Aee Dr (Aee Oc (Aee oD (Aee e1 e2)))));have YS:=Afl jZ;have IH:=Afl ih;have HZ:=Afl hZ;have NP:=Afl mL;clear ks h ok hi hc fg pd Dr Oc oD e1 e2 jZ ih hZ mL;have Af:X.args=#[.pointer (some ⟨X.s+2,0,none⟩),.pointer (some ⟨X.gs,0,none⟩),.pointer (some ⟨X.s,0,none⟩),.pointer (some ⟨X.go,0,none⟩),.pointer (some ⟨X.gn,0,none⟩),.pointer (some ⟨X.s+3,0,none⟩)]:=rfl;rw[Af];have R0:=Afl Af;clear Af;go_enter func175,Tryz.ntmps175;go_wp2;go_loopw [34] (λu wr=>∃k:Nat,k<=nb/\u=.int .i64 k/\(Hid (∀j,j<k->pC X.b X.n X.out (search X.b X.n X.out f) cs j=none))/\Hid (DI X cs wr)) (λu _=>nb - (Ahb u).toNat)
 case atStart=>exact⟨0,Agl _,rfl,Afl (λj hj=>by omega),HI⟩
 case round=>
  obtain⟨wo,rfl⟩:∃wo:Abc,wo=wr:=⟨_,rfl⟩
  obtain⟨k,hk,rfl,bj,hD⟩:=hrel;by_cases al:k<nb
  ·obtain⟨ad,x,jQ,kX,aC,hx,⟨Bi,rfl,dH,da⟩,-,au⟩:=YS.out k al
   subst kX;obtain⟨A5,n5,c5,rfl,-⟩:=da.open_;have st:Still B X.w wo:=FH hD.out.gr OK.out.B hB;have g0:=cC au st aC rfl;have g1:=bK au st aC 0 rfl;have g2:=bK au st aC 1 rfl;have hzw:X.s+3<wo.heap.size:=hD.out.nx.lt;have xD:(ad.add (k * 3)).block<wo.heap.size:=by rw[cq];omega
   have HX:=Afl hx;have ko:Bk wo X.go 158 #[fv X.KO X.jD]:=OK.out.co.grown hD.out.gr (by simpa using OK.out.no)
   have hgo:=OK.out.o;have o0:(wo.alloc (.cells #[.string x.name,.int .i64 x.aH,.slice A5 n5 c5] 59)).cell? ⟨X.go,0,none⟩=some (.func (.func X.KO) #[] X.jD):=(ko.alloc _).cell 0;have a1:X.go<wo.heap.size:=by omega
   have a2:X.go<=wo.heap.size:=by omega
   have eg:=OK.out.eg;have QQ:=Afl (OK.out.out k (wo.alloc (.cells #[.string x.name,.int .i64 x.aH,.slice A5 n5 c5] 59)) (by have:=lD.out.2.2.2.2.2;omega) (hD.out.gr.trans (Ahk _ _ _)))
   have Eg:1<=x.aH/\x.aH<=40:=(OK.out.valid.bp x (Agd hx)).aH;clear hx au st ko dH da;go_wp2
   go_step3
   go_wp2;refine QQ.out.mono ?_
   rintro e w1 ⟨rfl,ae⟩;have TM:=Afl (hD.out.grown OK.out (Ahk wo (.cells #[.string x.name,.int .i64 x.aH,.slice A5 n5 c5] 59) _) (hD.out.known.grown (Ahk wo (.cells #[.string x.name,.int .i64 x.aH,.slice A5 n5 c5] 59) none) (by simp)))
   have TN:=Afl (TM.out.below OK.out ae);have kx:Hid (Bk w1 wo.heap.size 59 #[.string x.name,.int .i64 x.aH,.slice A5 n5 c5]):=Afl ((Bk.new wo _ _).below ae (by simp))
   have x1: w1.cell? ⟨wo.heap.size,1,none⟩=some (.int .i64 x.aH):=kx.out.cell 1;clear ae;cases ho:X.out k with
   |true=>
    go_wp2;rw[Exit.noGoto_exit];go_wp2;go_roundw;case rel=>exact⟨k+1,by omega,by go_num,Afl (λj hj=>by
     rcases Agm.1 hj with h|rfl
     ·exact bj.out j h
     ·unfold pC;rw[ho];rfl),TN⟩
    case measure=>simp[Ahb];omega
   |false=>
    go_wp2
    go_step3
    go_wp2;have rL:mJ X.b k=x.aH.toNat:=by unfold mJ;rw[HX.out]
    have Q4:=Afl rL;have hp:∃p,X.b.pieces[i]?=some p:=⟨_,Af6 (by have:=lD.out.2.2.2.2.1;omega)⟩
    obtain⟨p,hp⟩:=hp;have nI:=OK.out.valid.piece p (Agd hp);have HP:=Afl (Aee hp nI.bears);obtain⟨ln,rJ⟩:∃ln,ln=X.n.at i:=⟨_,rfl⟩
    have UK:0<=ln/\ln<=1000:=by rw[rJ];exact OK.out.lens i
    have nh:=Afl rJ;have fZ:i<3:=by omega
    have Uo:(i:Int)<3:=by omega
    have Uh:=OK.out.s;have qm:=OK.out.gn;clear rL hp nI rJ hD TM QQ o0 x1 g0 g1 g2 s1 s2 v0;go_loopw [44] (λu W2=>∃fr:Nat,(fr:Int)<=x.aH/\u=.int .i64 fr/\(Hid (∀j,j<fr->kj X.b X.n (search X.b X.n X.out f) cs k j=none))/\Hid (DI X cs W2)) (λu _=>(x.aH - Ahb u).toNat)
    case atStart=>exact⟨0,by omega,rfl,Afl (λj hj=>by omega),TN⟩
    case round=>
     obtain⟨fr,b7,rfl,DO,hE⟩:=hrel;obtain⟨wp,rfl⟩:∃wp:Abc,wp=wr:=⟨_,rfl⟩
     by_cases hf:(fr:Int)<x.aH
     ·have Vw:X.s+3<wp.heap.size:=hE.out.nx.lt
      have ks:Bk wp X.gs 151 #[.int .i64 X.b.ag,.slice A1 n1 c1,.slice (some ad) nb c2,.slice A3 n3 c3,.slice A4 n4 c4,.map (some X.gm)]:=by
          have:=OK.out.cs.grown hE.out.gr (by simpa using OK.out.ns);rwa[lD.out.1,lD.out.2.1,lD.out.2.2.1,lD.out.2.2.2.1] at this
      have k0:=ks.cell 0;have k1:=ks.cell 1;have k2:=ks.cell 2;have k3:=ks.cell 3;have k4:=ks.cell 4;have k5:=ks.cell 5;have gi: wp.cell? ⟨X.gn,i,none⟩=some (.int .i64 ln):=by
          have:=(OK.out.cn.grown hE.out.gr (by simpa using OK.out.nn)).cell i
          rw[an.uR fZ,<-nh.out] at this;exact this
      have b1:X.gs<wp.heap.size:=by omega
      have b2:X.gs<=wp.heap.size:=by omega
      have b3:X.gn<wp.heap.size:=by omega
      have b4:X.gn<=wp.heap.size:=by omega
      have vg:(fr:Int)<=1000:=by omega
      have gw:0<=(fr:Int):=by omega
      clear ks;go_wp2;refine ua 6 (by kernel_rfl) (by kernel_rfl) ?_
      simp only[Agf,Agg,Agh,Agi];repeat still_step
      refine wpStill_nil ?_
      have bt:X.w.grownBy (wp.alloc (Afq #[Afx Adf ↑k,Afx Adf ↑fr] 56)).drew (some X.gm):=hE.out.gr.trans (qd wp _ _);have vp:dK (wp.alloc (Afq #[Afx Adf ↑k,Afx Adf ↑fr] 56)).drew X.gm X.b:=hE.out.known.grown (qd wp (Afq #[Afx Adf ↑k,Afx Adf ↑fr] 56) none) (by simp)
      have call:Aet prog 176 #[.agg #[.int .i64 X.b.ag,.slice A1 n1 c1,.slice (some ad) nb c2,.slice A3 n3 c3,.slice A4 n4 c4,.map (some X.gm)],.int .i64 i,.int .i64 ln,.agg #[.int .i64 k,.int .i64 fr]] (wp.alloc (Afq #[Afx Adf ↑k,Afx Adf ↑fr] 56)).drew
           λe w'=>e=.returned (.bool (pn X.b k fr ln p.bears))/\(wp.alloc (Afq #[Afx Adf ↑k,Afx Adf ↑fr] 56)).drew.grownBy w' (some X.gm)/\dK w' X.gm X.b:=by
          have ai:=OK.out.book.still (FH bt OK.out.B hB);rw[lD.out.1,lD.out.2.1,lD.out.2.2.1] at ai;exact can (B:=B) ai (by have:=bt.size;have:X.w.heap.size=X.s:=rfl;omega) ⟨_,_,_,rfl⟩ vp OK.out.B HP.out.1 HX.out ⟨gw,vg⟩ UK HP.out.2 (by omega)
      have aB:=Afl call;have UH:AW X.b i (X.n.at i) ⟨k,fr⟩=pn X.b k fr ln p.bears:=by unfold AW pn;rw[<-nh.out];simp[HP.out.1,HX.out]
      have Q3:=Afl UH;have aN:Hid (wp.heap.size<(wp.alloc (Afq #[Afx Adf ↑k,Afx Adf ↑fr] 56)).drew.heap.size):=Afl (by simp)
      have Ku:Hid (Bk (wp.alloc (Afq #[Afx Adf ↑k,Afx Adf ↑fr] 56)).drew wp.heap.size 56 #[.int .i64 k,.int .i64 fr]):=Afl (Bk.new wp _ _);clear call UH bt vp;cases Aw:pn X.b k fr ln p.bears with
      |false=>
       have NX:Hid (kj X.b X.n (search X.b X.n X.out f) cs k fr=none):=Afl (by unfold kj tT;rw[<-jL.out.1,Q3.out,Aw];rfl)
       go_wp2_with (first
           | (go_at_call 176;refine aB.out.mono ?_;rintro e w1 ⟨rfl,dB,dg⟩
              have F5:=Afl (hE.out.grown OK.out ((Ahk wp _ _).trans (XW dB)) dg);clear dB dg))
       go_roundw;case rel=>exact⟨fr+1,by omega,by go_num,Afl (λj hj=>by
           rcases Agm.1 hj with h|rfl
           ·exact DO.out j h
           ·exact NX.out),F5⟩
       case measure=>simp[Ahb];omega
      |true=>
       go_wp2_with (first
           | (go_at_call 176;refine aB.out.mono ?_;rintro e w3 ⟨rfl,dB,dg⟩
              have F5:=Afl (hE.out.grown OK.out ((Ahk wp _ _).trans (XW dB)) dg);have zk:=Afl (Ku.out.grown dB (by have:=hE.out.known.lt;simp;omega))
              have v0: w3.cell? ⟨X.s+2,0,none⟩=some (.slice (some ⟨X.s+1,0,none⟩) i n1):=by rw[jL.out.1,<-NP.out];exact F5.out.lv.cell 0
              clear dB dg))
       have jB:wp.heap.size<w3.heap.size:=zk.out.lt;clear k0 k1 k2 k3 k4 k5 gi;go_loopw [60] (λu wr=>∃j:Nat,j<=i/\u=.int .i64 j/\(Hid (∀q,q<j->rm X.b X.n cs i ⟨k,fr⟩ q=true))/\Hid (DI X cs wr)/\Hid (Bk wr wp.heap.size 56 #[.int .i64 k,.int .i64 fr])) (λu _=>i - (Ahb u).toNat)
       case atStart=>exact⟨0,Agl _,rfl,Afl (λj hj=>by omega),F5,zk⟩
       case round=>
           obtain⟨j,hj,rfl,Ae,hF,cX⟩:=hrel;have rV:X.s+3<wr.heap.size:=hF.out.nx.lt;have hzc:wp.heap.size<wr.heap.size:=cX.out.lt;have aoW:wp.heap.size<=wr.heap.size:=by omega
           have b1:X.gs<wr.heap.size:=by omega
           have b2:X.gs<=wr.heap.size:=by omega
           have b3:X.gn<wr.heap.size:=by omega
           have b4:X.gn<=wr.heap.size:=by omega
           have LK: wr.cell? ⟨wp.heap.size,0,none⟩=some (.int .i64 k):=cX.out.cell 0;have LM: wr.cell? ⟨wp.heap.size,1,none⟩=some (.int .i64 fr):=cX.out.cell 1;by_cases pa:j<i
           ·have ks:Bk wr X.gs 151 #[.int .i64 X.b.ag,.slice A1 n1 c1,.slice (some ad) nb c2,.slice A3 n3 c3,.slice A4 n4 c4,.map (some X.gm)]:=by
             have:=OK.out.cs.grown hF.out.gr (by simpa using OK.out.ns);rwa[lD.out.1,lD.out.2.1,lD.out.2.2.1,lD.out.2.2.2.1] at this
            have k0:=ks.cell 0;have k1:=ks.cell 1;have k2:=ks.cell 2;have k3:=ks.cell 3;have DE:j<3:=by omega
            have Us:(j:Int)<3:=by omega
            have kn:=OK.out.cn.grown hF.out.gr (by simpa using OK.out.nn)
            have gi: wr.cell? ⟨X.gn,i,none⟩=some (.int .i64 ln):=by
             have:=kn.cell i;rw[an.uR fZ,<-nh.out] at this;exact this
            have gj: wr.cell? ⟨X.gn,j,none⟩=some (.int .i64 (X.n.at j)):=by
             have:=kn.cell j;rw[an.uR DE] at this;exact this
            have eI:=lu (R:=Cut.R) hF.out.arr (λ_=>rfl) (λ_ _=>rfl)
            obtain⟨A8,n8,c8,e8,hl8,-,-,yh⟩:=eI.open_;cases e8;obtain⟨ad8,d,cs8,abE,an2,hd,rfl,-,abm⟩:=yh j (by rw[<-jL.out.1];exact pa)
            cases abE;obtain⟨mn,iJ⟩:=d;have Wo:=jL.out.2.2 _ (Agd hd);have h0: wr.cell? ⟨X.s+1,j * 2,none⟩=some (.int .i64 mn):=by have:=abm 0 _ rfl;rwa[nu] at this
            have h1: wr.cell? ⟨X.s+1,j * 2+1,none⟩=some (.int .i64 iJ):=by have:=abm 1 _ rfl;rwa[nu] at this
            have my:0<=iJ/\iJ<=40:=Wo.from_;have HD:=Afl hd;clear ks kn eI hl8 yh hd abm Wo;have e1:X.s+1<wr.heap.size:=by omega
            go_wp2;refine ua 11 (by kernel_rfl) (by kernel_rfl) ?_
            simp only[Agf,Agg,Agh,Agi];repeat still_step
            refine wpStill_nil ?_
            have TV:rm X.b X.n cs i ⟨k,fr⟩ j=nv X.b.ag ⟨k,fr⟩ ⟨mn,iJ⟩ ln (X.n.at j):=by unfold rm;rw[HD.out,nh.out]
            have B3:=Afl TV;have call:∀W:Abc,Aet prog 166 #[.agg #[.int .i64 X.b.ag,.slice A1 n1 c1,.slice (some ad) nb c2,.slice A3 n3 c3],.agg #[.int .i64 k,.int .i64 fr],.agg #[.int .i64 mn,.int .i64 iJ],.int .i64 ln,.int .i64 (X.n.at j)] W
             λe w'=>e=.returned (.bool (nv X.b.ag ⟨k,fr⟩ ⟨mn,iJ⟩ ln (X.n.at j)))/\Below W.heap.size W w':=λW=>
             apart (c:=⟨k,fr⟩) (d:=⟨mn,iJ⟩) ⟨OK.out.valid.ag.1,by have:=OK.out.valid.ag.2;omega⟩ UK (OK.out.lens j) ⟨gw,vg⟩ ⟨my.1,by have:=my.2;show iJ<=1000;omega⟩ ⟨_,_,_,rfl⟩ ⟨_,_,_,rfl⟩ ⟨_,_,_,rfl⟩
            have uv:=Afl call;clear TV call;cases DK:nv X.b.ag ⟨k,fr⟩ ⟨mn,iJ⟩ ln (X.n.at j) with
            |false=>
             have NX:Hid (kj X.b X.n (search X.b X.n X.out f) cs k fr=none):=Afl (by
              unfold kj;rw[if_neg];unfold tT;rw[<-jL.out.1,Gn pa (by rw[B3.out,DK])]
              simp)
             go_wp2_with (first
              | (go_at_call 166;refine(uv.out _).mono ?_;rintro e w4 ⟨rfl,cO⟩
                 have Kz:=Afl ((hF.out.grown OK.out (qd wr _ _) (hF.out.known.grown (qd wr (.cells #[.int .i64 mn,.int .i64 iJ] 56) none) (by simp))).below OK.out cO);clear cO))
             go_roundw;case rel=>exact⟨fr+1,by omega,by go_num,Afl (λj hj=>by
              rcases Agm.1 hj with h|rfl
              ·exact DO.out j h
              ·exact NX.out),Kz⟩
             case measure=>simp[Ahb];omega
            |true=>
             go_wp2_with (first
              | (go_at_call 166;refine(uv.out _).mono ?_;rintro e w4 ⟨rfl,cO⟩
                 have Kz:=Afl ((hF.out.grown OK.out (qd wr _ _) (hF.out.known.grown (qd wr (.cells #[.int .i64 mn,.int .i64 iJ] 56) none) (by simp))).below OK.out cO)
                 have HC4:=Afl ((cX.out.grown (qd wr (.cells #[.int .i64 mn,.int .i64 iJ] 56) none) (by simp)).below cO (by simp;omega));clear cO))
             go_roundw;case rel=>exact⟨j+1,by omega,by go_num,Afl (λq hq=>by
              rcases Agm.1 hq with h|rfl
              ·exact Ae.out q h
              ·rw[B3.out,DK]),Kz,HC4⟩
             case measure=>simp[Ahb];omega
           ·obtain rfl:j=i:=by omega
            have Ra:Hid (tT X.b X.n cs ⟨k,fr⟩=true):=Afl (by
             unfold tT;rw[<-jL.out.1,Q3.out,Aw,oi.2 Ae.out];rfl)
            have v0: wr.cell? ⟨X.s+2,0,none⟩=some (.slice (some ⟨X.s+1,0,none⟩) j n1):=by rw[jL.out.1,<-NP.out];exact hF.out.lv.cell 0
            have e2:X.s+2<wr.heap.size:=by omega
            have SS:X.s+2<=wr.heap.size:=by omega
            have Rb:Hid (wr.ownsRow (X.s+1) 56 2 (.slice (some ⟨X.s+1,0,none⟩) j n1) j (cs.flatMap Cut.vs)):=Afl (by rw[jL.out.1,<-NP.out];exact hF.out.arr)
            have QZ:Hid (∀c∈cs++ [(⟨k,fr⟩:Cut)],oO X.b c):=Afl (λc hc=>by
             rcases Af5.1 hc with hc|hc
             ·exact jL.out.2.2 c hc
             ·simp at hc;subst hc;exact⟨⟨k,rfl,by have:=lD.out.2.2.2.2.2;omega⟩,by show 0<=(fr:Int)/\(fr:Int)<=40;omega⟩)
            clear Ae;cases hs:search X.b X.n X.out f (cs++ [⟨k,fr⟩]) with
            |none=>
             have NX:Hid (kj X.b X.n (search X.b X.n X.out f) cs k fr=none):=Afl (by unfold kj;rw[Ra.out,if_pos rfl,hs])
             go_wp2_with (first
              | (at_builtin
                 refine wpList_append_fits _ rfl (.tmp 79) (.tmp 81) 27 rfl (X.s+1) 56 i56 2 (U Tryz.underlying27) F6.out.1 F6.out.2 (X.s+1) j n1 _ rfl (Rb.out.alloc _) ⟨wr.heap.size,0,none⟩ 1 1 [.int .i64 k,.int .i64 fr] rfl rfl ?c1 ?c2 ?c3 ?_
                 case c1=>(intro q u hu;match q,hu with|0,hu=>(simp at hu;subst hu;simp[go_sem,Ag6]) |1,hu=>(simp at hu;subst hu;simp[go_sem,Ag6]))
                 case c2=>simp[Value.oneCell']
                 case c3=>omega
                 intro W1 cK dB;have KW:Hid (DI X (cs++ [⟨k,fr⟩]) (W1.setCell ⟨X.s+2,0,none⟩ (.slice (some ⟨X.s+1,0,none⟩) (j+1) n1))):=Afl (by
                  have:=DI.push (c:=⟨k,fr⟩) OK.out hF.out (by rw[<-jL.out.1,NP.out];exact cK) dB
                  rwa[<-jL.out.1,NP.out] at this)
                 have vh:=(Ahk wr (.cells #[.int .i64 k,.int .i64 fr] 56) (some (X.s+1))).trans dB;have oA:=hF.out.lv.grown vh (by simp)
                 have DS:=hF.out.nx.grown vh (by simp)
                 have v0: W1.cell? ⟨X.s+2,0,none⟩=some (.slice (some ⟨X.s+1,0,none⟩) j n1):=by rw[jL.out.1,<-NP.out];exact oA.cell 0
                 have v1:=oA.frozen 0;have x0: W1.cell? ⟨X.s+3,0,none⟩=some (.func (.func 175) #[] #[.pointer (some ⟨X.s+2,0,none⟩),.pointer (some ⟨X.gs,0,none⟩),.pointer (some ⟨X.s,0,none⟩),.pointer (some ⟨X.go,0,none⟩),.pointer (some ⟨X.gn,0,none⟩),.pointer (some ⟨X.s+3,0,none⟩)]):=by rw[<-R0.out];exact DS.cell 0
                 have L1:=Afl (IH.out (cs++ [⟨k,fr⟩]) _ (by have:=jL.out.2.1;simp;omega) QZ.out KW.out)
                 rw[R0.out,hs] at L1;clear cK dB vh oA DS)
              | (go_at_call 175;refine L1.out.mono ?_;rintro e w6 (⟨full,hr,-,-⟩ | ⟨-,rfl,hd⟩)
                 ·cases hr
                 have v0: w6.cell? ⟨X.s+2,0,none⟩=some (.slice (some ⟨X.s+1,0,none⟩) (j+1) n1):=by have:=hd.lv.cell 0;rw[Ahx,Af4,<-jL.out.1,NP.out] at this;exact this
                 have v1:=hd.lv.frozen 0;have gU:=Afl (hd.back OK.out);rw[<-jL.out.1,NP.out] at gU;clear hd))
             go_roundw;case rel=>exact⟨fr+1,by omega,by go_num,Afl (λq hq=>by
              rcases Agm.1 hq with h|rfl
              ·exact DO.out q h
              ·exact NX.out),gU⟩
             case measure=>simp[Ahb];omega
            |some full=>
             have Yr:Hid (search X.b X.n X.out (f+1) cs=some full):=Afl (acP (k:=k) (fr:=fr) (by have:=lD.out.2.2.2.2.2;omega) bj.out ho (by rw[Q4.out];omega) DO.out (by unfold kj;rw[Ra.out,if_pos rfl,hs]))
             go_wp2_with (first
              | (at_builtin
                 refine wpList_append_fits _ rfl (.tmp 79) (.tmp 81) 27 rfl (X.s+1) 56 i56 2 (U Tryz.underlying27) F6.out.1 F6.out.2 (X.s+1) j n1 _ rfl (Rb.out.alloc _) ⟨wr.heap.size,0,none⟩ 1 1 [.int .i64 k,.int .i64 fr] rfl rfl ?c1 ?c2 ?c3 ?_
                 case c1=>(intro q u hu;match q,hu with|0,hu=>(simp at hu;subst hu;simp[go_sem,Ag6]) |1,hu=>(simp at hu;subst hu;simp[go_sem,Ag6]))
                 case c2=>simp[Value.oneCell']
                 case c3=>omega
                 intro W1 cK dB;have KW:Hid (DI X (cs++ [⟨k,fr⟩]) (W1.setCell ⟨X.s+2,0,none⟩ (.slice (some ⟨X.s+1,0,none⟩) (j+1) n1))):=Afl (by
                  have:=DI.push (c:=⟨k,fr⟩) OK.out hF.out (by rw[<-jL.out.1,NP.out];exact cK) dB
                  rwa[<-jL.out.1,NP.out] at this)
                 have vh:=(Ahk wr (.cells #[.int .i64 k,.int .i64 fr] 56) (some (X.s+1))).trans dB;have oA:=hF.out.lv.grown vh (by simp)
                 have DS:=hF.out.nx.grown vh (by simp)
                 have v0: W1.cell? ⟨X.s+2,0,none⟩=some (.slice (some ⟨X.s+1,0,none⟩) j n1):=by rw[jL.out.1,<-NP.out];exact oA.cell 0
                 have v1:=oA.frozen 0;have x0: W1.cell? ⟨X.s+3,0,none⟩=some (.func (.func 175) #[] #[.pointer (some ⟨X.s+2,0,none⟩),.pointer (some ⟨X.gs,0,none⟩),.pointer (some ⟨X.s,0,none⟩),.pointer (some ⟨X.go,0,none⟩),.pointer (some ⟨X.gn,0,none⟩),.pointer (some ⟨X.s+3,0,none⟩)]):=by rw[<-R0.out];exact DS.cell 0
                 have L1:=Afl (IH.out (cs++ [⟨k,fr⟩]) _ (by have:=jL.out.2.1;simp;omega) QZ.out KW.out)
                 rw[R0.out,hs] at L1;clear cK dB vh oA DS)
              | (go_at_call 175;refine L1.out.mono ?_;rintro e w6 (⟨ac8,hr,rfl,hz⟩ | ⟨hr,-,-⟩)
                 rotate_left
                 ·cases hr
                 cases hr;obtain⟨i6,NC⟩:=HZ.out.lv _ _ hz;have v0: w6.cell? ⟨X.s+2,0,none⟩=some (.slice (some ⟨X.s+1,0,none⟩) i6 n1):=by have:=NC.cell 0;rw[NP.out] at this;exact this
                 have v1:=NC.frozen 0;have Rg:=Afl (HZ.out.set full w6 j hz);rw[NP.out] at Rg;clear hz NC))
             rw[Exit.noGoto_ret];go_ret;exact .inl ⟨full,Yr.out,b9 rfl,Rg.out⟩
     ·have ql:(fr:Int)=x.aH:=by omega
      have NX:Hid (pC X.b X.n X.out (search X.b X.n X.out f) cs k=none):=Afl (by
          unfold pC;rw[ho,if_neg (by simp)]
          exact C6.2 (λj hj=>DO.out j (by rw[Q4.out] at hj;omega)))
      clear ql;go_wp2;go_roundw;case rel=>exact⟨k+1,by omega,by go_num,Afl (λq hq=>by
          rcases Agm.1 hq with h|rfl
          ·exact bj.out q h
          ·exact NX.out),hE⟩
      case measure=>simp[Ahb];omega
  ·obtain rfl:k=nb:=by omega
   go_wp2;go_ret;exact .inr ⟨by unfold search;rw[lD.out.2.2.2.2.2];exact C6.2 bj.out,b9 rfl,hD.out⟩
def Xd{X:ep}{B:Nat}(ok:X.Ok B)(hB:B<=X.s){Z:List Cut->Abc->Prop}(hZ:zx X Z):∀(f:Nat) (cs:List Cut) (W:Abc),cs.length+f=X.np->(∀c∈cs,oO X.b c)->DI X cs W->Aet prog 175 X.args W (Gg X Z cs (search X.b X.n X.out f cs))
 |0,cs,W,hc,_,h=>ala ok hZ (by omega) h
 |f+1,cs,W,hc,fg,h=>alb ok hB hZ (Xd ok hB hZ f) hc fg h
def age:(prog.info? 56).map (λi=>(i.zero,i.size,i.bytes))=some (some (.agg #[.int .i64 0,.int .i64 0]),2,16):=by
 rw[pB];kernel_rfl
def SJ{X:ep}{B:Nat}(ok:X.Ok B)(hB:B<=X.s){Z:List Cut->Abc->Prop}(hZ:zx X Z)(hk:dK X.w X.gm X.b):
 Aet prog 174 #[.func (.yield X.l) #[] #[],.pointer (some ⟨X.gs,0,none⟩),.pointer (some ⟨X.go,0,none⟩),.pointer (some ⟨X.gn,0,none⟩)] X.w λe W'=>
  (∃v,e=.returned v)/\((∃full,search X.b X.n X.out X.np []=some full/\Z full W')\/(search X.b X.n X.out X.np []=none/\DI X [] W')):=by
 obtain⟨A1,n1,c1,pd,e1,h1,eA,-⟩:=ok.book.pieces.open_;have hn:=ok.valid.np;have ks:=ok.cs;rw[pd] at ks;have s1: X.w.cell? ⟨X.gs,1,none⟩=some (.slice A1 n1 c1):=ks.cell 1;have Uh:=ok.s;have Ar:=ok.gm;have hs:X.w.heap.size=X.s:=rfl;have b1:X.gs<X.w.heap.size:=by omega
 have b2:X.gs<=X.w.heap.size:=by omega
 obtain⟨i0,cR,cT,aN,ba⟩:=Agy age;have aow:1<=n1/\n1<=3:=by omega
 have Ay:∀w:Abc,(Instr.makeSlice 27 (.int .i64 0) (.int .i64 n1)).run prog w=.ok (.slice (some ⟨w.heap.size,0,none⟩) 0 n1) (w.alloc (.cells (madeCells [.int .i64 0,.int .i64 0].toArray (n1 * 2)) 56)):=λw=>by
  have hr:=run_makeSlice (P:=prog) w 27 56 i0 _ (U Tryz.underlying27) cR cT .i64 .i64 0 n1 (Int.le_refl _) (by omega) (by rw[aN];omega) (by rw[ba];omega) (by omega)
  rw[aN] at hr;simpa [Value.cells] using hr
 obtain⟨mc,NF⟩:∃mc,mc=madeCells [.int .i64 0,.int .i64 0].toArray (n1 * 2):=⟨_,rfl⟩
 rw[<-NF] at Ay;have UQ:mc.size=n1 * 2:=by rw[NF];exact size_madeCells _ _
 have mL:X.np=n1:=by unfold ep.np;exact e1
 have Ui:DI X [] ((((X.w.alloc (.cells #[.func (.yield X.l) #[] #[]] 139)).alloc (.cells mc 56)).alloc (.cells #[.slice (some ⟨X.w.heap.size+1,0,none⟩) 0 n1] 27)).alloc (.cells #[.func (.func 175) #[] #[.pointer (some ⟨X.w.heap.size+1+1,0,none⟩),.pointer (some ⟨X.gs,0,none⟩),.pointer (some ⟨X.w.heap.size,0,none⟩),.pointer (some ⟨X.go,0,none⟩),.pointer (some ⟨X.gn,0,none⟩),.pointer (some ⟨X.w.heap.size+1+1+1,0,none⟩)]] 29)):=by
  refine⟨(((Bk.cG rfl _ _).alloc _).alloc _).alloc _,?_,?_,Bk.cG (by simp[ep.s]) _ _,?_,?_⟩
  ·refine⟨rfl,.inr ⟨X.s+1,n1,mc,(by rw[mL];try rfl),Ad4 _,mm (mm (uI (by simp[ep.s]))),Agl _,by unfold Aes;omega,UQ,by simp⟩⟩
  ·rw[mL];exact(Bk.cG (by simp[ep.s]) _ _).alloc _
  ·exact((((Ahk _ _ _).trans (Ahk _ _ _)).trans (Ahk _ _ _)).trans (Ahk _ _ _))
  ·have:=hk
   exact(((this.grown (Ahk _ _ none) (by simp)).grown (Ahk _ _ none) (by simp)).grown (Ahk _ _ none) (by simp)).grown (Ahk _ _ none) (by simp)
 have call:=Xd ok hB hZ X.np [] _ (by simp) (by simp) Ui
 have Af:X.args=#[.pointer (some ⟨X.w.heap.size+1+1,0,none⟩),.pointer (some ⟨X.gs,0,none⟩),.pointer (some ⟨X.w.heap.size,0,none⟩),.pointer (some ⟨X.go,0,none⟩),.pointer (some ⟨X.gn,0,none⟩),.pointer (some ⟨X.w.heap.size+1+1+1,0,none⟩)]:=rfl;rw[Af] at call;have call2:=call.mono (R':=λe W'=>(∃bb:Bool,e=.returned (.bool bb))/\Hid ((∃full,search X.b X.n X.out X.np []=some full/\Z full W')\/(search X.b X.n X.out X.np []=none/\DI X [] W'))) (by
  rintro e W' (⟨full,h1,h2,h3⟩ | ⟨h1,h2,h3⟩)
  ·exact⟨⟨_,h2⟩,Afl (.inl ⟨full,h1,h3⟩)⟩
  ·exact⟨⟨_,h2⟩,Afl (.inr ⟨h1,h3⟩)⟩)
 have aB:=Afl call2;clear NF UQ mL Ui call call2 Af;have OK:=Afl ok;have HZ:=Afl hZ;have HK:=Afl hk;have E1:=Afl e1;clear ok hZ hk e1 pd ks cR cT aN ba hs hn;go_enter func174,Tryz.ntmps174;go_wp2_with (first
  | (go_at_call 175;refine aB.out.mono ?_;rintro e w1 ⟨⟨bb,rfl⟩,jY⟩))
 go_end0
 exact⟨⟨_,rfl⟩,jY.out⟩
def VH:(prog.info? 56).map (λi=>(i.zero,i.size,i.bytes))=some (some (.agg #[.int .i64 0,.int .i64 0]),2,16):=by
 rw[pB];kernel_rfl
def aaC{ad:Addr}{n c:Nat}{news:List Value}{w:Abc}(hl:news.length=n * 2)(hc:∀j u,news[j]?=some u-> w.cell? (ad.add j)=some u)(h1:∀u∈news,u.oneCell'=true)(hn:n<=1000000)(aC:ad.block<w.heap.size):
 Aet prog 201 #[.slice (some ad) n c] w λe w'=>∃v,e=.returned v/\w'.ownsRow w.heap.size 56 2 v n news/\Below w.heap.size w w':=by
 obtain⟨i0,cR,cT,aN,ba⟩:=Agy VH;have dv:=Afl (Aee cR (Aee cT (Aee aN ba)));have HC:Hid (∀j u,news[j]?=some u->(w.alloc (.cells #[] 56)).cell? (ad.add j)=some u):=Afl (λj u hu=>(Afy w _ _ (by rw[cq];exact aC)).trans (hc j u hu))
 have HL:=Afl (Aee hl h1);have HO:Hid ((w.alloc (.cells #[] 56)).ownsRow w.heap.size 56 2 (.slice (some ⟨w.heap.size,0,none⟩) 0 0) 0 []):=Afl ⟨rfl,.inr ⟨w.heap.size,0,#[],rfl,Ad4 _,heap_alloc_new w _,Ad4 _,by unfold Aes;omega,rfl,rfl⟩⟩
 clear hl hc h1 cR cT aN ba;have q:∀(w:Abc) (a:Option Addr) (n c n' c':Nat),(binOp .eql 27 (.slice a n c) (.slice none n' c')).run prog w=.ok (.bool a.isNone) w:=λw a n c n' c'=>Lib.run_eql_slice_nil w _ _ a n c n' c' (U Tryz.underlying27)
 go_enter func201,Tryz.ntmps201;go_wp2_with (first
  | (at_builtin
     refine Agz _ rfl (.tmp 5) (.tmp 6) 27 rfl w.heap.size 56 i0 (.agg #[.int .i64 0,.int .i64 0]) 2 16 (U Tryz.underlying27) dv.out.1 dv.out.2.1 dv.out.2.2.1 dv.out.2.2.2 rfl (by decide) _ 0 _ rfl HO.out ad n c news rfl HL.out.1 HC.out HL.out.2 ?c3 ?c4 ?c5 ?_
     case c3=>(simp only[Aes];omega)
     case c4=>omega
     case c5=>simp
     intro v' w1 cK dT _;have gW:=Afl cK;have gV:=Afl dT;clear cK dT))
 go_ret;refine⟨_,rfl,by have:=gW.out;rwa[Nat.zero_add,Ahs] at this,((Aft _ _).alloc (Ad4 _) _).grown gV.out (by simp) (λk hk=>ei HO.out k hk)⟩
def ep.Ok.alloc{X:ep}{B:Nat}(ok:X.Ok B)(hB:B<=X.w.heap.size)(o:Obj):ep.Ok {X with w:=X.w.alloc o} B where
 book:=ok.book.still ((Still.refl _).alloc hB o)
 valid:=ok.valid
 lens:=ok.lens
 sv:=ok.sv
 B:=ok.B
 s:=by have:=ok.s;simp[ep.s] at this |-;omega
 o:=by have:=ok.o;simp[ep.s] at this |-;omega
 gn:=by have:=ok.gn;simp[ep.s] at this |-;omega
 gm:=by have:=ok.gm;simp[ep.s] at this |-;omega
 ns:=ok.ns
 no:=ok.no
 nn:=ok.nn
 cs:=ok.cs.alloc o
 co:=ok.co.alloc o
 cn:=ok.cn.alloc o
 eg:=ok.eg
 out k W hk hg:=ok.out k W hk ((Ahk X.w o _).trans hg)
def ep.Ok.RF{X:ep}{B:Nat}(ok:X.Ok B)(l:Nat):ep.Ok {X with l:=l} B:=⟨ok.book,ok.valid,ok.lens,ok.sv,ok.B,ok.s,ok.o,ok.gn,ok.gm,ok.ns,ok.no,ok.nn,ok.cs,ok.co,ok.cn,ok.eg,ok.out⟩
end Go.Tw
namespace Go.Tw
variable [Go.Tw.aR]
open Go Go.Proofs Go.RowKit
attribute [local go_sem] ze K0 Ag8
structure FZ(w0:Abc)(gm:Nat)(b:ao)(rc:Loop)(np:Nat)(full:List Cut)(W:Abc):Prop where
 r0:∃v,Bk W w0.heap.size 27 #[v]/\W.ownsRow (w0.heap.size+8) 56 2 v np (full.flatMap Cut.vs)
 r1:Bk W (w0.heap.size+1) 4 #[.bool true]
 d:W.heap[w0.heap.size+2]?=some (.deferred (some []))
 l:W.heap[w0.heap.size+3]?=some (.loop {rc with state:=.done,pending:=some .ret})
 lv:∃i,Bk W (w0.heap.size+4+2) 27 #[.slice (some ⟨w0.heap.size+4+1,0,none⟩) i np]
 gr:w0.grownBy W (some gm)
 known:dK W gm b
def Es{W:Abc}{g:Nat}{b:ao}{p:Addr}{u:Value}(h:dK W g b)(hp:g≠p.block):dK (W.setCell p u) g b:=by
 obtain⟨es,clock,h1,h2⟩:=h;exact⟨es,clock,(Ahc _ _ _ _ hp).trans h1,h2⟩
def FZ.set{w0:Abc}{gm:Nat}{b:ao}{rc:Loop}{np:Nat}{full:List Cut}{W:Abc}(h:FZ w0 gm b rc np full W)(Ar:gm<w0.heap.size)(i:Nat):FZ w0 gm b rc np full (W.setCell ⟨w0.heap.size+4+2,0,none⟩ (.slice (some ⟨w0.heap.size+4+1,0,none⟩) i np)):=by
 obtain⟨v,v1,v2⟩:=h.r0;obtain⟨i',hi⟩:=h.lv;exact⟨⟨v,v1.cu (by simp;omega) _,eo v2 (by simp)⟩,h.r1.cu (by simp) _,(Ahc _ _ _ _ (by simp)).trans h.d,(Ahc _ _ _ _ (by simp)).trans h.l,⟨i,hi.set 0 _⟩,xr h.gr (by simp;omega),Es h.known (by simp;omega)⟩
def Yu(X:ep)(e:Ag1)(W':Abc):Prop:=
 ((∃full v,search X.b X.n X.out X.np []=some full/\e=.returned (.tuple #[v,.bool true])/\W'.ownsRow X.w.heap.size 56 2 v X.np (full.flatMap Cut.vs))\/(search X.b X.n X.out X.np []=none/\e=.returned (.tuple #[.slice none 0 0,.bool false])))/\
 X.w.grownBy W' (some X.gm)/\dK W' X.gm X.b
def vT{w:Abc}{base:Nat}{e:Aa8}{sz n g cap:Nat}{xs:List Value}(h:w.ownsRow base e sz (.slice (some ⟨g,0,none⟩) n cap) n xs):∀j u,xs[j]?=some u-> w.cell? ((⟨g,0,none⟩:Addr).add j)=some u:=by
 intro j u hu;rcases h.2 with⟨h0,_⟩ | ⟨g',zd,cur,h1,h2,h3,h4,h5,h6,h7⟩
 ·cases h0
 ·cases h1
  rw[nu];refine(cell_of_row w g j cur _ (0,0) h3).trans ?_
  rw[<-h7,List.getElem?_take] at hu
  split at hu
  ·rw[<-Agw];exact hu
  ·cases hu
def aba(l:List Cut):∀u∈l.flatMap Cut.vs,u.oneCell'=true:=by
 intro u hu;simp only[List.mem_flatMap,Cut.vs,List.mem_cons,List.not_mem_nil,or_false] at hu;obtain⟨c,_,rfl|rfl⟩:=hu<;>rfl
def S9{X:ep}{B:Nat}(ok:X.Ok B)(hB:B<=X.w.heap.size)(hk:dK X.w X.gm X.b):
 Aet prog 170 #[fv 174 #[.pointer (some ⟨X.gs,0,none⟩),.pointer (some ⟨X.go,0,none⟩),.pointer (some ⟨X.gn,0,none⟩)]] X.w (Yu X):=by
 refine(callsIn_wide (n:=0)).1 ?_
 have Ar:=ok.gm;have hs:X.s=X.w.heap.size:=rfl;have aol:X.gm<X.w.heap.size:=Ar;have OK:=Afl ok;have HK:=Afl hk;have kH:1<=X.np/\X.np<=3:=ok.valid.np;clear ok hk;refine callsIn_of_wp_marks func170 rfl trivial ?_
 simp only[Tryz.ntmps170,Ahn,Aho,Ahp,Aic,Aid,Agu,Agv,Ahq,Ahr,Ahs,Aht]
 gi_wp2
 refine Pr (gf:=174) (pre:=#[]) (lb:=#[.pointer (some ⟨X.gs,0,none⟩),.pointer (some ⟨X.go,0,none⟩),.pointer (some ⟨X.gn,0,none⟩)]) rfl call174 λfn rc gP=>?_
 simp only[Ahj,Nat.add_assoc,Aic,Ahr,Aht,Ahs,Ah0];obtain⟨W1,eJ⟩:∃W1,W1=(((X.w.alloc (Afq #[Value.slice none 0 0] 27)).alloc (Afq #[Value.bool false] 4)).alloc (Obj.deferred (some []))).alloc (Obj.loop rc):=⟨_,rfl⟩
 have AA:=((((OK.out.alloc hB (.cells #[.slice none 0 0] 27)).alloc (by simp;omega) (.cells #[.bool false] 4)).alloc (by simp;omega) (.deferred (some []))).alloc (by simp;omega) (.loop rc)).RF (X.w.heap.size+3)
 have ML:W1.heap.size=X.w.heap.size+4:=by rw[eJ];simp
 have xT:W1.heap[X.w.heap.size+3]?=some (.loop rc):=by rw[eJ];exact uI (by simp)
 have jT:W1.heap[X.w.heap.size+2]?=some (.deferred (some [])):=by rw[eJ];exact mm (uI (by simp))
 have k0:Bk W1 X.w.heap.size 27 #[.slice none 0 0]:=by rw[eJ];exact(((Bk.new _ _ _).alloc _).alloc _).alloc _
 have k1:Bk W1 (X.w.heap.size+1) 4 #[.bool false]:=by rw[eJ];exact((Bk.cG (by simp) _ _).alloc _).alloc _
 have dB:X.w.grownBy W1 (some X.gm):=by rw[eJ];exact(((Ahk _ _ _).trans (Ahk _ _ _)).trans (Ahk _ _ _)).trans (Ahk _ _ _)
 have dg:dK W1 X.gm X.b:=HK.out.grown (row:=none) (by rw[eJ];exact(((Ahk _ _ _).trans (Ahk _ _ _)).trans (Ahk _ _ _)).trans (Ahk _ _ _)) (by simp)
 rw[<-eJ] at AA |-
 clear eJ;obtain⟨X1,gv⟩:∃X1:ep,X1={X with w:=W1,l:=X.w.heap.size+3}:=⟨_,rfl⟩
 have dh:X1.Ok B:=by rw[gv];exact AA
 have e0:X1.s=X.w.heap.size+4:=by rw[gv];exact ML
 have hZ:zx X1 (FZ X.w X.gm X.b rc X.np):=by
  refine⟨λfull W hz=>?_,λfull W i hz=>?_,?yr⟩
  ·obtain⟨i,hi⟩:=hz.lv
   rw[e0,show X1.np=X.np by rw[gv];rfl];exact⟨i,hi⟩
  ·rw[e0,show X1.np=X.np by rw[gv];rfl];exact hz.set (by rw[<-hs];exact Ar) i
  ·intro m full W hlen hD
   have xY:X1.np=X.np:=by rw[gv];rfl
   have Np:X1.gm=X.gm:=by rw[gv]
   have yo:X1.w=W1:=by rw[gv]
   have ae:X1.b=X.b:=by rw[gv]
   have UA:X1.l=X.w.heap.size+3:=by rw[gv]
   have eh:=hD.gr;rw[yo,Np] at eh;have oz:W.heap[X.w.heap.size+3]?=some (.loop rc):=(eh.block _ (by omega) (by simp;omega)).trans xT
   have fJ:W.heap[X.w.heap.size+2]?=some (.deferred (some [])):=(eh.block _ (by omega) (by simp;omega)).trans jT
   have Eo:Bk W X.w.heap.size 27 #[.slice none 0 0]:=k0.grown eh (by simp;omega)
   have tP:Bk W (X.w.heap.size+1) 4 #[.bool false]:=k1.grown eh (by simp;omega)
   have oA:Bk W (X.w.heap.size+4+2) 27 #[.slice (some ⟨X.w.heap.size+4+1,0,none⟩) X.np X.np]:=by have:=hD.lv;rw[e0,hlen,xY] at this;exact this
   have Ag:W.ownsRow (X.w.heap.size+4+1) 56 2 (.slice (some ⟨X.w.heap.size+4+1,0,none⟩) X.np X.np) X.np (full.flatMap Cut.vs):=by have:=hD.arr;rw[e0,hlen,xY] at this;exact this
   have da:dK W X.gm X.b:=by have:=hD.known;rw[Np,ae] at this;exact this
   have mG:X.w.heap.size+4+3<W.heap.size:=by have:=hD.nx.lt;rw[e0] at this;exact this
   rw[UA,e0,xY];refine Qy (n:=0) gP oz rfl ?_
   gi_wp2
   refine⟨_,abC gP oz,?_⟩
   obtain⟨Wb,qe⟩:∃Wb,Wb=W.putObj (X.w.heap.size+3) (.loop {rc with state:=.busy}):=⟨_,rfl⟩
   rw[<-qe];have k8:∀g,g≠X.w.heap.size+3->Wb.heap[g]?=W.heap[g]?:=λg hg=>by rw[qe];exact Ahi hg
   have tE:Wb.heap[X.w.heap.size+3]?=some (.loop {rc with state:=.busy}):=by rw[qe];exact Ahh (by omega)
   have DZ:Wb.heap.size=W.heap.size:=by rw[qe];simp
   have Aq:X.w.grownBy Wb (some X.gm):=by
    rw[qe];exact xq (dB.trans eh) (Ag2 W _ _) (λg e=>by cases e;omega)
   have ig:dK Wb X.gm X.b:=by
    obtain⟨es,clock,h1,h2⟩:=da;exact⟨es,clock,(k8 _ (by omega)).trans h1,h2⟩
   have VL:Bk Wb X.w.heap.size 27 #[.slice none 0 0]:=(k8 _ (by omega)).trans Eo
   have VM:Bk Wb (X.w.heap.size+1) 4 #[.bool false]:=(k8 _ (by omega)).trans tP
   have Uf:Wb.heap[X.w.heap.size+2]?=some (.deferred (some [])):=(k8 _ (by omega)).trans fJ
   have UO:Bk Wb (X.w.heap.size+4+2) 27 #[.slice (some ⟨X.w.heap.size+4+1,0,none⟩) X.np X.np]:=(k8 _ (by omega)).trans oA
   have hab:Wb.ownsRow (X.w.heap.size+4+1) 56 2 (.slice (some ⟨X.w.heap.size+4+1,0,none⟩) X.np X.np) X.np (full.flatMap Cut.vs):=by
    rw[qe];exact EK Ag (by omega)
   have UG:full.length=X.np:=hlen.trans xY;have eI:=lu (R:=Cut.R) (f:=Cut.vs) (l:=full) (by rw[UG];exact hab) (λ_=>rfl) (λ_ _=>rfl)
   have Hs:∀j u,(full.flatMap Cut.vs)[j]?=some u-> Wb.cell? ((⟨X.w.heap.size+4+1,0,none⟩:Addr).add j)=some u:=λj u hu=>vT hab j u hu
   have AB:∀u∈full.flatMap Cut.vs,u.oneCell'=true:=aba full
   have Az:(full.flatMap Cut.vs).length=X.np * 2:=hab.1;have aB:=Afl (aaC (n:=X.np) (c:=X.np) Az Hs AB (by omega) (by simp;omega))
   have FR:=Afl (Aee Aq (Aee ig (Aee VL (Aee VM (Aee Uf (Aee UO tE))))));clear qe k8 hab eI Hs AB Az Aq ig VL VM Uf UO tE oz fJ Eo tP oA Ag da eh hD gv dh AA UG hlen xY Np yo ae UA e0 k0 k1 dB dg xT jT ML hs
   gi_wp2_with (first
    | (gi_at_call 201;refine(callsIn_wide.2 aB.out).mono ?_;rintro e w1 ⟨v,rfl,aG,ae⟩
       obtain⟨A9,m9,c9,rfl⟩:=j8 aG;have q0:Bk w1 X.w.heap.size 27 #[.slice none 0 0]:=FR.out.2.2.1.below ae (by omega)
       have q1:Bk w1 (X.w.heap.size+1) 4 #[.bool false]:=FR.out.2.2.2.1.below ae (by omega)
       have r0: w1.cell? ⟨X.w.heap.size,0,none⟩=some (.slice none 0 0):=q0.cell 0;have z0:=q0.frozen 0;have r1: w1.cell? ⟨X.w.heap.size+1,0,none⟩=some (.bool false):=q1.cell 0;have z1:=q1.frozen 0;have sO:=Afl (Aee aG (Aee ae (Aee q0 q1)));clear aG ae q0 q1))
   have hzb:X.w.heap.size+7<Wb.heap.size:=by omega
   have aN:=sO.out.2.1.size;refine⟨_,_,SQ .ret ((Ahc _ _ _ _ (by simp)).trans ((Ahc _ _ _ _ (by simp)).trans ((sO.out.2.1.block _ (by omega)).trans FR.out.2.2.2.2.2.2))),rfl,?_⟩
   refine⟨⟨_,(Ahi (by omega)).trans ((sO.out.2.2.1.set 0 _).cu (by simp) _),EK (eo (eo (sO.out.1.base (by omega)) (by simp)) (by simp)) (by omega)⟩,
    (Ahi (by omega)).trans ((sO.out.2.2.2.cu (by simp) _).set 0 _),(Ahi (by omega)).trans ((Ahc _ _ _ _ (by simp)).trans ((Ahc _ _ _ _ (by simp)).trans ((sO.out.2.1.block _ (by omega)).trans FR.out.2.2.2.2.1))),
    Ahh (by simp[Adx];omega),⟨_,(Ahi (by omega)).trans (((FR.out.2.2.2.2.2.1.below sO.out.2.1 (by omega)).cu (by simp;omega) _).cu (by simp) _)⟩,?_,?_⟩
   ·exact xq (xr (xr (FR.out.1.trans (je sO.out.2.1 (Ad4 _) _)) (by simp)) (by simp)) (Ag2 _ _ _) (λg e=>by cases e;omega)
   ·have fh:=Es (u:=.bool true) (p:=⟨X.w.heap.size+1,0,none⟩) (Es (u:=.slice A9 m9 c9) (p:=⟨X.w.heap.size,0,none⟩) (FR.out.2.1.below sO.out.2.1 FR.out.2.1.lt) (by simp;omega)) (by simp;omega)
    obtain⟨es,clock,h1,h2⟩:=fh;exact⟨es,clock,(Ahi (by omega)).trans h1,h2⟩
 have call:=SJ dh (by rw[e0];omega) hZ (by rw[gv];exact dg)
 rw[show X1.l=X.w.heap.size+3 by rw[gv],show X1.gs=X.gs by rw[gv],show X1.go=X.go by rw[gv],show X1.gn=X.gn by rw[gv],show X1.w=W1 by rw[gv],show X1.b=X.b by rw[gv],show X1.n=X.n by rw[gv],show X1.out=X.out by rw[gv],show X1.np=X.np by rw[gv];rfl] at call
 refine(callsIn_wide.2 call).mono ?_
 rintro e W2 ⟨⟨v,rfl⟩,(⟨full,tM,hz⟩ | ⟨tM,hD⟩)⟩
 ·have HZ:=Afl hz
  have HS:=Afl tM;obtain⟨v2,v21,v22⟩:=hz.r0;obtain⟨A9,m9,c9,rfl⟩:=j8 v22;refine⟨some .ret,_,SW hz.l,?_⟩
  obtain⟨W3,iL⟩:∃W3,W3=W2.putObj (X.w.heap.size+3) (.loop {rc with state:=.exhausted,pending:=some .ret}):=⟨_,rfl⟩
  have q0:Bk W3 X.w.heap.size 27 #[.slice A9 m9 c9]:=by rw[iL];exact(Ahi (by omega)).trans v21
  have q1:Bk W3 (X.w.heap.size+1) 4 #[.bool true]:=by rw[iL];exact(Ahi (by omega)).trans hz.r1
  have Ky:Hid (W3.heap[X.w.heap.size+2]?=some (.deferred (some []))):=Afl (by rw[iL];exact(Ahi (by omega)).trans hz.d)
  have iD:Hid (X.w.grownBy W3 (some X.gm)/\dK W3 X.gm X.b/\W3.ownsRow (X.w.heap.size+8) 56 2 (.slice A9 m9 c9) X.np (full.flatMap Cut.vs)):=Afl (by
   rw[iL];refine⟨xq hz.gr (Ag2 _ _ _) (λg e=>by cases e;omega),?_,EK v22 (by omega)⟩
   obtain⟨es,clock,h1,h2⟩:=hz.known;exact⟨es,clock,(Ahi (by omega)).trans h1,h2⟩)
  have Q:=Afl (Aee q0 q1);have cT:X.w.heap.size+1<W3.heap.size:=q1.lt;rw[<-iL];clear iL hz v21 v22 tM q0 q1;show Code.wpIn Ag7 0 prog Code.ret _ _ _
  gi_wp2
  refine⟨by simp,.inl ⟨_,_,rfl,Ag3 Ky.out,?_⟩⟩
  have r0:(W3.putObj (X.w.heap.size+2) (.deferred none)).cell? ⟨X.w.heap.size,0,none⟩=some (.slice A9 m9 c9):=Bk.cell (g:=X.w.heap.size) ((Ahi (by omega)).trans Q.out.1) 0
  have r1:(W3.putObj (X.w.heap.size+2) (.deferred none)).cell? ⟨X.w.heap.size+1,0,none⟩=some (.bool true):=Bk.cell (g:=X.w.heap.size+1) ((Ahi (by omega)).trans Q.out.2) 0
  refine⟨.tuple #[.slice A9 m9 c9,.bool true],by simp[results,Tryz.results170,go_sem,r0,r1],.inl ⟨full,.slice A9 m9 c9,HS.out,rfl,(EK iD.out.2.2 (by omega)).base (by omega)⟩,xq iD.out.1 (Ag2 _ _ _) (λg e=>by cases e;omega),?_⟩
  obtain⟨es,clock,h1,h2⟩:=iD.out.2.1;exact⟨es,clock,(Ahi (by omega)).trans h1,h2⟩
 ·have HS:=Afl tM
  have eh:=hD.gr;rw[show X1.w=W1 by rw[gv],show X1.gm=X.gm by rw[gv]] at eh
  have da:dK W2 X.gm X.b:=by have:=hD.known;rw[show X1.gm=X.gm by rw[gv],show X1.b=X.b by rw[gv]] at this;exact this
  have oz:W2.heap[X.w.heap.size+3]?=some (.loop rc):=(eh.block _ (by omega) (by simp;omega)).trans xT
  have fJ:W2.heap[X.w.heap.size+2]?=some (.deferred (some [])):=(eh.block _ (by omega) (by simp;omega)).trans jT
  have Eo:Bk W2 X.w.heap.size 27 #[.slice none 0 0]:=k0.grown eh (by simp;omega)
  have tP:Bk W2 (X.w.heap.size+1) 4 #[.bool false]:=k1.grown eh (by simp;omega)
  refine⟨none,_,L7 gP oz,?_⟩
  obtain⟨W3,iL⟩:∃W3,W3=W2.putObj (X.w.heap.size+3) (.loop {rc with state:=.exhausted}):=⟨_,rfl⟩
  have q0:Bk W3 X.w.heap.size 27 #[.slice none 0 0]:=by rw[iL];exact(Ahi (by omega)).trans Eo
  have q1:Bk W3 (X.w.heap.size+1) 4 #[.bool false]:=by rw[iL];exact(Ahi (by omega)).trans tP
  have Ky:Hid (W3.heap[X.w.heap.size+2]?=some (.deferred (some []))):=Afl (by rw[iL];exact(Ahi (by omega)).trans fJ)
  have iD:Hid (X.w.grownBy W3 (some X.gm)/\dK W3 X.gm X.b):=Afl (by
   rw[iL];refine⟨xq (dB.trans eh) (Ag2 _ _ _) (λg e=>by cases e;omega),?_⟩
   obtain⟨es,clock,h1,h2⟩:=da;exact⟨es,clock,(Ahi (by omega)).trans h1,h2⟩)
  have Q:=Afl (Aee q0 q1);have r0: W3.cell? ⟨X.w.heap.size,0,none⟩=some (.slice none 0 0):=q0.cell 0;have r1: W3.cell? ⟨X.w.heap.size+1,0,none⟩=some (.bool false):=q1.cell 0;have z0:=q0.frozen 0;have z1:=q1.frozen 0;have cT:X.w.heap.size+1<W3.heap.size:=q1.lt;rw[<-iL];clear iL hD tM eh da oz fJ Eo tP q0 q1 hZ call dh AA gv e0 k0 k1 dB dg xT jT ML hs;show Exit.inBlock _ _ _ _ _
  gi_wp2
  refine⟨by simp,.inl ⟨_,_,rfl,Ag3 ((Ahc _ _ _ _ (by simp)).trans ((Ahc _ _ _ _ (by simp)).trans Ky.out)),?_⟩⟩
  have t0:(((W3.setCell ⟨X.w.heap.size,0,none⟩ (.slice none 0 0)).setCell ⟨X.w.heap.size+1,0,none⟩ (.bool false)).putObj (X.w.heap.size+2) (.deferred none)).cell? ⟨X.w.heap.size,0,none⟩=some (.slice none 0 0):=Bk.cell (g:=X.w.heap.size) (t:=27) (cs:=#[.slice none 0 0]) ((Ahi (by omega)).trans ((Q.out.1.set 0 (.slice none 0 0)).cu (by simp) _)) 0
  have t1:(((W3.setCell ⟨X.w.heap.size,0,none⟩ (.slice none 0 0)).setCell ⟨X.w.heap.size+1,0,none⟩ (.bool false)).putObj (X.w.heap.size+2) (.deferred none)).cell? ⟨X.w.heap.size+1,0,none⟩=some (.bool false):=Bk.cell (g:=X.w.heap.size+1) (t:=4) (cs:=#[.bool false]) ((Ahi (by omega)).trans ((Q.out.2.cu (by simp) _).set 0 (.bool false))) 0
  refine⟨.tuple #[.slice none 0 0,.bool false],by simp[results,Tryz.results170,go_sem,t0,t1],.inr ⟨HS.out,rfl⟩,xq (xr (xr iD.out.1 (by simp)) (by simp)) (Ag2 _ _ _) (λg e=>by cases e;omega),?_⟩
  obtain⟨es,clock,h1,h2⟩:=Es (u:=.bool false) (p:=⟨X.w.heap.size+1,0,none⟩) (Es (u:=.slice none 0 0) (p:=⟨X.w.heap.size,0,none⟩) iD.out.2 (by simp;omega)) (by simp;omega)
  exact⟨es,clock,(Ahi (by omega)).trans h1,h2⟩
end Go.Tw
namespace Go.Tw
variable [Go.Tw.aR]
open Go Go.Proofs Go.RowKit
def Xl(w:Abc)(b:ao)(pv bv tv:Value)(e:Ag1)(w':Abc):Prop:=∃g,e=.returned (.tuple #[.agg #[.int .i64 0,.slice none 0 0,.slice none 0 0,.slice none 0 0,.slice none 0 0,.map (some g)],.int .i64 (cj b 0)])/\Below w.heap.size w w'
def als{w:Abc}{b:ao}{pv bv tv:Value}{B:Nat}(hB:B<=w.heap.size)(ai:bg w B b pv bv tv)(h:cj b 0≠0):
 Aet prog 119 #[.agg #[.int .i64 b.ag,pv,bv,tv]] w (Xl w b pv bv tv):=by
 have st:Still B w ((w.alloc (.cells #[.int .i64 b.ag,pv,bv,tv] 26)).alloc (.cells #[.int .i64 0,.slice none 0 0,.slice none 0 0,.slice none 0 0,.slice none 0 0,.map none] 151)):=((Still.refl w).alloc hB _).alloc (by simp;omega) _
 have aB:=Afl (ajn (w:=((w.alloc (.cells #[.int .i64 b.ag,pv,bv,tv] 26)).alloc (.cells #[.int .i64 0,.slice none 0 0,.slice none 0 0,.slice none 0 0,.slice none 0 0,.map none] 151))) (B:=B) (by simp;omega) (ai.still st) (Gp (ai.still st)) h)
 obtain⟨s,hs⟩:∃s,s=cj b 0:=⟨_,rfl⟩
 have HS:=Afl hs;rw[<-hs] at aB h;obtain⟨A1,n1,c1,rfl,-⟩:=ai.pieces.open_;obtain⟨A2,n2,c2,rfl,-⟩:=ai.aF.open_;obtain⟨A3,n3,c3,rfl,-⟩:=ai.aJ.open_;clear ai st hs;have hmm:= @run_makeMap prog;go_enter func119,Tryz.ntmps119;go_wp2_with (first
  | (go_at_call 98;refine aB.out.mono ?_;rintro e w1 ⟨rfl,ae⟩
     have k1:Bk w1 (w.heap.size+1) 151 #[.int .i64 0,.slice none 0 0,.slice none 0 0,.slice none 0 0,.slice none 0 0,.map none]:=(Bk.cG (by simp) _ _).below ae (by simp)
     have r0:=k1.cell 0;have z0:=k1.frozen 0;have r1:=k1.cell 1;have z1:=k1.frozen 1;have r2:=k1.cell 2;have z2:=k1.frozen 2;have r3:=k1.cell 3;have z3:=k1.frozen 3;have r4:=k1.cell 4;have z4:=k1.frozen 4;have r5:=k1.cell 5;have z5:=k1.frozen 5;have aN:w.heap.size+1<w1.heap.size:=by have:=ae.size;simp at this;omega
     have ba:w.heap.size+1<=w1.heap.size:=by omega
     have jB:w.heap.size<w1.heap.size:=by omega
     have vG:w.heap.size<=w1.heap.size:=by omega
     have YI:=Afl k1;have aY:Hid (Below w.heap.size w w1):=Afl ((((Aft _ _).alloc (Ad4 _) _).alloc (by simp) _).trans (ae.mono (by simp;omega)))
     clear ae k1))
 refine Ag4 (v:=.tuple #[.agg #[.int .i64 0,.slice none 0 0,.slice none 0 0,.slice none 0 0,.slice none 0 0,.map (some (w1.heap.size+1))],.int .i64 s]) (by simp[results,Tryz.results119,go_sem,r0,r1,r2,r3,r4,r5,aN,ba,jB,vG]) rfl ?_
 rw[show s=cj b 0 from HS.out]
 refine⟨_,rfl,?_⟩
 ((refine Ahg (Ahg ?_ (by simp[Adx];omega) _) (by simp[Adx];omega) _);(repeat refine Ahf ?_ (by simp) _);exact aY.out)
def alr(w:Abc)(b:ao)(pv bv tv:Value)(e:Ag1)(w':Abc):Prop:=∃sv g,e=.returned (.tuple #[.agg #[.int .i64 b.ag,pv,bv,tv,sv,.map (some g)],.int .i64 0])/\qQ w' w.heap.size sv (aD b)/\dK w' g b/\w.heap.size<=g/\Below w.heap.size w w'
def PO{w:Abc}{b:ao}{pv bv tv:Value}{B:Nat}(hB:B<=w.heap.size)(ai:bg w B b pv bv tv)(h:cj b 0=0):
 Aet prog 119 #[.agg #[.int .i64 b.ag,pv,bv,tv]] w (alr w b pv bv tv):=by
 have st:Still B w ((w.alloc (.cells #[.int .i64 b.ag,pv,bv,tv] 26)).alloc (.cells #[.int .i64 0,.slice none 0 0,.slice none 0 0,.slice none 0 0,.slice none 0 0,.map none] 151)):=((Still.refl w).alloc hB _).alloc (by simp;omega) _
 have aB:=Afl (yL (w:=((w.alloc (.cells #[.int .i64 b.ag,pv,bv,tv] 26)).alloc (.cells #[.int .i64 0,.slice none 0 0,.slice none 0 0,.slice none 0 0,.slice none 0 0,.map none] 151))) (B:=B) (by simp;omega) (ai.still st) (Gp (ai.still st)) h)
 obtain⟨A1,n1,c1,rfl,-⟩:=ai.pieces.open_;obtain⟨A2,n2,c2,rfl,-⟩:=ai.aF.open_;obtain⟨A3,n3,c3,rfl,-⟩:=ai.aJ.open_;clear ai st h;have hmm:= @run_makeMap prog;go_enter func119,Tryz.ntmps119;go_wp2_with (first
  | (go_at_call 98;refine aB.out.mono ?_;rintro e w1 ⟨sv,rfl,aG,ae⟩
     obtain⟨A9,m9,c9,rfl⟩:=j8 aG;have HO:=Afl aG;have k1:Bk w1 (w.heap.size+1) 151 #[.int .i64 0,.slice none 0 0,.slice none 0 0,.slice none 0 0,.slice none 0 0,.map none]:=(Bk.cG (by simp) _ _).below ae (by simp)
     have r0:=k1.cell 0;have z0:=k1.frozen 0;have r1:=k1.cell 1;have z1:=k1.frozen 1;have r2:=k1.cell 2;have z2:=k1.frozen 2;have r3:=k1.cell 3;have z3:=k1.frozen 3;have r4:=k1.cell 4;have z4:=k1.frozen 4;have r5:=k1.cell 5;have z5:=k1.frozen 5;have aN:w.heap.size+1<w1.heap.size:=by have:=ae.size;simp at this;omega
     have ba:w.heap.size+1<=w1.heap.size:=by omega
     have jB:w.heap.size<w1.heap.size:=by omega
     have vG:w.heap.size<=w1.heap.size:=by omega
     have YI:=Afl k1;have aY:Hid (Below w.heap.size w w1):=Afl ((((Aft _ _).alloc (Ad4 _) _).alloc (by simp) _).trans (ae.mono (by simp;omega)))
     clear ae k1 aG))
 refine Ag4 (v:=.tuple #[.agg #[.int .i64 b.ag,.slice A1 n1 c1,.slice A2 n2 c2,.slice A3 n3 c3,.slice A9 m9 c9,.map (some (w1.heap.size+1))],.int .i64 0]) (by simp[results,Tryz.results119,go_sem,r0,r1,r2,r3,r4,r5,aN,ba,jB,vG]) rfl ?_
 refine⟨_,_,rfl,?_,?_,?_,?_⟩
 ·refine qQ.base (base:=w.heap.size+2) ?_ (by omega)
  have h0:qQ w1 (w.heap.size+2) (.slice A9 m9 c9) (aD b):=by have:=HO.out;simpa using this
  first
   |exact((((((((h0.set (by simp)).set (by simp)).set (by simp)).set (by simp)).set (by simp)).set (by simp)).alloc _).alloc _)
   | (repeat(first|exact h0|refine qQ.set ?_ (by simp) |refine qQ.alloc ?_ _))
 ·exact⟨#[],0,uI (by simp[Adx]),by simp⟩
 ·omega
 · ((refine Ahg (Ahg ?_ (by simp[Adx];omega) _) (by simp[Adx];omega) _);(repeat refine Ahf ?_ (by simp) _);exact aY.out)
def Yq(w:Abc)(b:ao)(pv bv tv sv:Value)(g KO:Nat)(jD:Array Value)(ps:List an)(e:Ag1)(w':Abc):Prop:=
 ∃gn,e=.returned (fv 174 #[.pointer (some ⟨w.heap.size,0,none⟩),.pointer (some ⟨w.heap.size+1,0,none⟩),.pointer (some ⟨gn,0,none⟩)])/\Bk w' w.heap.size 151 #[.int .i64 b.ag,pv,bv,tv,sv,.map (some g)]/\
  Bk w' (w.heap.size+1) 158 #[fv KO jD]/\Bk w' gn 128 (cz ps).cs/\w.heap.size<=gn/\Below w.heap.size w w'
def LY{w:Abc}{b:ao}{pv bv tv sv:Value}{g KO:Nat}{jD:Array Value}{ps:List an}{B:Nat}(hs:Row w B 3 an.R sv ps)(hB:B<=w.heap.size)(hp:∃A n c,pv=.slice A n c)(hb:∃A n c,bv=.slice A n c)(ht:∃A n c,tv=.slice A n c):
 Aet prog 122 #[.agg #[.int .i64 b.ag,pv,bv,tv,sv,.map (some g)],fv KO jD] w (Yq w b pv bv tv sv g KO jD ps):=by
 have st:Still B w ((w.alloc (.cells #[.int .i64 b.ag,pv,bv,tv,sv,.map (some g)] 151)).alloc (.cells #[fv KO jD] 158)):=((Still.refl w).alloc hB _).alloc (by simp;omega) _
 have aB:=Afl (TC (s:=b.ag) (hs.still st λ_ _ h=>h) (by simp;omega) hp hb ht)
 obtain⟨A1,n1,c1,rfl⟩:=hp;obtain⟨A2,n2,c2,rfl⟩:=hb;obtain⟨A3,n3,c3,rfl⟩:=ht;obtain⟨A4,n4,c4,rfl,-⟩:=hs.open_;obtain⟨G,hG⟩:∃G,G=cz ps:=⟨_,rfl⟩
 rw[<-hG] at aB;unfold an.cs at aB;have HG:=Afl hG;clear hs st hG;go_enter func122,Tryz.ntmps122;go_wp2_with (first
  | (go_at_call 115;refine aB.out.mono ?_;rintro e w1 ⟨rfl,ae⟩
     have aN:w.heap.size+1<w1.heap.size:=by have:=ae.size;simp at this;omega
     have k0:=Afl (Bk.below (g:=w.heap.size) (t:=151) (cs:=#[.int .i64 b.ag,.slice A1 n1 c1,.slice A2 n2 c2,.slice A3 n3 c3,.slice A4 n4 c4,.map (some g)]) ((Bk.new w _ _).alloc _) ae (by simp;omega))
     have k1:=Afl (Bk.below (g:=w.heap.size+1) (t:=158) (cs:=#[fv KO jD]) (Bk.cG (by simp) _ _) ae (by simp))
     have aY:Hid (Below w.heap.size w w1):=Afl ((((Aft _ _).alloc (Ad4 _) _).alloc (by simp) _).trans (ae.mono (by simp;omega)))
     clear ae))
 go_ret;refine⟨w1.heap.size,rfl,k0.out.alloc _,k1.out.alloc _,?_,by omega,aY.out.alloc (by omega) _⟩
 rw[<-HG.out];exact Bk.cG rfl _ _
def ah1{b:ao}{l:List Cut}{pv bv tv sv lv:Value}{g:Nat}{w:Abc}{B:Nat}(hl:Row w B 2 Cut.R lv l)(hB:B<=w.heap.size)(xv:l.length<=1000)(hp:∃A n c,pv=.slice A n c)(hb:∃A n c,bv=.slice A n c)(ht:∃A n c,tv=.slice A n c)(hs:∃A n c,sv=.slice A n c):
 Aet prog 234 #[.agg #[.int .i64 b.ag,pv,bv,tv,sv,.map (some g)],lv] w λe w'=>e=.returned (.int .i64 (jG l).length)/\Below w.heap.size w w':=by
 have aB:=Afl (taken (w:=w.alloc (.cells #[.int .i64 b.ag,pv,bv,tv,sv,.map (some g)] 151)) (hl.still ((Still.refl w).alloc hB _) λ_ _ h=>h) (by simp;omega) xv)
 obtain⟨A1,n1,c1,rfl⟩:=hp;obtain⟨A2,n2,c2,rfl⟩:=hb;obtain⟨A3,n3,c3,rfl⟩:=ht;obtain⟨A4,n4,c4,rfl⟩:=hs;obtain⟨A,n,c,rfl,-⟩:=hl.open_;clear hl;go_enter func234,Tryz.ntmps234;go_wp2_with (first
  | (go_at_call 235;refine aB.out.mono ?_;rintro e w1 ⟨u,rfl,aG,ae⟩
     obtain⟨A9,m9,c9,rfl⟩:=j8 aG;have hm:Hid ((m9:Int)=(jG l).length):=Afl (by
      rcases aG.2 with⟨h1,h2⟩ | ⟨_,_,_,h1,_⟩
      ·cases h1;rw[h2]
      ·cases h1;rfl)
     have HB:=Afl (cU (Aft _ _) ae (Ad4 _));clear ae aG))
 go_ret;exact⟨aX hm.out,HB.out⟩
def jf(m k:Nat):Bool:= !(m.testBit k)
def RK{m k g:Nat}{w:Abc}(hm:m<8)(hk:k<3)(hg:Bk w g 3 #[.int .i64 m]):
 Aet prog 171 (#[.int .i64 k]++#[.pointer (some ⟨g,0,none⟩)]) w λe w'=>e=.returned (.bool (jf m k))/\Below w.heap.size w w':=by
 refine app1 ?_
 have g0: w.cell? ⟨g,0,none⟩=some (.int .i64 m):=hg.cell 0;clear hg;go_enter func171,Tryz.ntmps171;go_wp2;go_ret;refine⟨b9 ?_,Aft _ _⟩
 match m,hm,k,hk with
 |0,_,0,_=>rfl
 |0,_,1,_=>rfl
 |0,_,2,_=>rfl
 |1,_,0,_=>rfl
 |1,_,1,_=>rfl
 |1,_,2,_=>rfl
 |2,_,0,_=>rfl
 |2,_,1,_=>rfl
 |2,_,2,_=>rfl
 |3,_,0,_=>rfl
 |3,_,1,_=>rfl
 |3,_,2,_=>rfl
 |4,_,0,_=>rfl
 |4,_,1,_=>rfl
 |4,_,2,_=>rfl
 |5,_,0,_=>rfl
 |5,_,1,_=>rfl
 |5,_,2,_=>rfl
 |6,_,0,_=>rfl
 |6,_,1,_=>rfl
 |6,_,2,_=>rfl
 |7,_,0,_=>rfl
 |7,_,1,_=>rfl
 |7,_,2,_=>rfl
def ah3{zs:List Int}{x:Int}(h:x∈Lib.compact zs):x∈zs:=by
 unfold Lib.compact Lib.compactUpTo at h;simp only[Ah2,List.mem_filter,Ah3] at h;obtain⟨j,⟨hj,_⟩,rfl⟩:=h;have:zs.toArray[j]! =zs[j]:=by simp[hj]
 rw[this];exact List.getElem_mem hj
def ah4{l:List Cut}{x:Int}(h:x∈jG l):∃c∈l,c.bp=x:=by
 have h1:=ah3 h;unfold ga at h1;rw[List.mem_mergeSort] at h1;simpa using h1
def yC(b:ao)(k:Int):Int:=match b.aF[k.toNat]? with
 |some x=>x.aH
 |none=>0
def lY(b:ao)(l:List Int):Int:=(l.map (yC b)).sum
def ahj(b:ao)(l:List Int)(k:Int):lY b (l++ [k])=lY b l+yC b k:=by simp[lY]
def VZ{b:ao}(h:∀x∈b.aF,0<=x.aH/\x.aH<=40):∀l:List Int,0<=lY b l/\lY b l<=40 * l.length
 | []=>⟨by simp[lY],by simp[lY]⟩
 |k::l=>by
  have ih:=VZ h l;have:lY b (k::l)=yC b k+lY b l:=by simp[lY]
  rw[this];have h1:0<=yC b k/\yC b k<=40:=by
   unfold yC;cases e:b.aF[k.toNat]? with
   |none=>simp
   |some x=>exact h x (Agd e)
  simp only[Aho,Int.natCast_add];omega
def oj:List Cut->List Cut->Int
 | [],[]=>0
 | [],_::_=> -1
 |_::_,[]=>1
 |a::x,c::y=>if po a c≠0 then po a c else oj x y
def Sx:∀ {i:Nat} {l m:List Cut} {c d:Cut},l[i]?=some c->m[i]?=some d->(∀(j:Nat) (c d:Cut),j<i->l[j]?=some c->m[j]?=some d->po c d=0)->po c d≠0->oj l m=po c d
 |0,a::l,b::m,c,d,hc,hd,_,h=>by
  simp at hc hd;subst hc;subst hd
  unfold oj;rw[if_pos h]
 |i+1,a::l,b::m,c,d,hc,hd,h0,h=>by
  have:=h0 0 a b (by omega) rfl rfl
  unfold oj;rw[if_neg (by simpa using this)]
  exact Sx (i:=i) (by simpa using hc) (by simpa using hd) (λj c d hj hc hd=>h0 (j+1) c d (by omega) (by simpa using hc) (by simpa using hd)) h
 |0,[],_,_,_,hc,_,_,_=>by simp at hc
 |i+1,[],_,_,_,hc,_,_,_=>by simp at hc
 |0,_::_,[],_,_,_,hd,_,_=>by simp at hd
 |i+1,_::_,[],_,_,_,hd,_,_=>by simp at hd
def Sy:∀ {l m:List Cut},l.length=m.length->(∀(j:Nat) (c d:Cut),l[j]?=some c->m[j]?=some d->po c d=0)->oj l m=0
 | [],[],_,_=>rfl
 |a::l,b::m,hl,h=>by
  have:=h 0 a b rfl rfl;unfold oj;rw[if_neg (by simpa using this)]
  exact Sy (by simpa using hl) λj c d hc hd=>h (j+1) c d (by simpa using hc) (by simpa using hd)
def Kl(c:Cut):Prop:=0<=c.bp/\c.bp<=1000/\0<=c.from_/\c.from_<=1000
def aaU{l m:List Cut}{lv mv:Value}{w:Abc}{B:Nat}(hl:Row w B 2 Cut.R lv l)(hm:Row w B 2 Cut.R mv m)(hB:B<=w.heap.size)(UJ:l.length=m.length)(sl:∀c∈l,Kl c)(sm:∀c∈m,Kl c):
 Aet prog 172 #[lv,mv,.func (.func 173) #[] #[]] w λe w'=>e=.returned (.int .i64 (oj l m))/\Below w.heap.size w w':=by
 obtain⟨A1,n1,c1,rfl,e1,h1,eA,r1⟩:=hl.open_;obtain⟨A2,n2,c2,rfl,e2,h2,dW,r2⟩:=hm.open_;obtain rfl:n1=n2:=by omega
 unfold Aes at eA dW;have HE:=Afl (Aee e1 (Aee e2 (Aee UJ (Aee sl sm))));have H1:=Afl r1;have H2:=Afl r2;clear hl hm e1 e2 r1 r2 UJ sl sm;go_enter func172,Tryz.ntmps172;go_wp2;go_loopw [13] (λu wr=>∃i:Nat,i<=n1/\u=.int .i64 i/\Hid (∀(j:Nat) (c d:Cut),j<i->l[j]?=some c->m[j]?=some d->po c d=0)/\Hid (Below w.heap.size w wr)) (λu _=>n1 - (Ahb u).toNat)
 case atStart=>exact⟨0,Agl _,rfl,Afl (λj c d hj=>by omega),Afl (Aft _ _)⟩
 case round=>
  obtain⟨i,hi,rfl,hz,hb⟩:=hrel;have aI:=hb.out.size;by_cases al:i<n1
  ·obtain⟨ee,c,uQ,abD,Ac,hc,rfl,-,M7⟩:=H1.out i al
   obtain⟨cI,d,jQ,CO,fV,hd,rfl,-,ie⟩:=H2.out i al;subst abD;subst CO
   have st:Still B w wr:=Still.aK hb.out hB;have g0:=cC M7 st Ac rfl;have g1:=bK M7 st Ac 0 rfl;have f0:=cC ie st fV rfl;have f1:=bK ie st fV 0 rfl;have b1:(ee.add (i * 2)).block<wr.heap.size:=by rw[cq];omega
   have b2:(cI.add (i * 2)).block<wr.heap.size:=by rw[cq];omega
   have b2':(cI.add (i * 2)).block<=wr.heap.size:=by omega
   have fg:=HE.out.2.2.2.1 c (Agd hc);have Ds:=HE.out.2.2.2.2 d (Agd hd);have aB:=Afl (λW:Abc=>less (c:=c) (d:=d) (w:=W) fg.1 Ds.1 fg.2.2.1 Ds.2.2.1 fg.2.1 Ds.2.1 fg.2.2.2 Ds.2.2.2)
   have HX:=Afl (Aee hc hd);have jU:decide ((i:Int)>=(n1:Int))=false:=by simp;omega
   clear hc hd M7 ie st fg Ds;by_cases h0:po c d=0
   ·go_wp2_with (first
     | (go_at_call 173;refine(aB.out _).mono ?_;rintro e w1 ⟨rfl,ae⟩;have aY:=Afl ((hb.out.trans (((Aft _ _).alloc aI _).alloc (by simp;omega) _)).trans (ae.mono (by simp;omega)));clear ae))
    go_roundw;case rel=>exact⟨i+1,by omega,by go_num,Afl (λj c' d' hj h1 h2=>by
     rcases Agm.1 hj with h|rfl
     ·exact hz.out j c' d' h h1 h2
     ·rw[HX.out.1] at h1;rw[HX.out.2] at h2;cases h1;cases h2;exact h0),aY⟩
    case measure=>simp[Ahb];omega
   ·obtain⟨q,hq⟩:∃q,q=po c d:=⟨_,rfl⟩
    have HQ:=Afl hq;rw[<-hq] at h0 aB;clear hq;go_wp2_with (first
     | (go_at_call 173;refine(aB.out _).mono ?_;rintro e w1 ⟨rfl,ae⟩;have aY:=Afl ((hb.out.trans (((Aft _ _).alloc aI _).alloc (by simp;omega) _)).trans (ae.mono (by simp;omega)));clear ae))
    go_ret;exact⟨aX (by rw[HQ.out];exact(Sx HX.out.1 HX.out.2 hz.out (by rw[<-HQ.out];exact h0)).symm),aY.out⟩
  ·obtain rfl:i=n1:=by omega
   go_wp2;go_ret;exact⟨aX (Sy HE.out.2.2.1 (λj c d h1 h2=>hz.out j c d (by have:=(Af7.1 h1).1;have:=HE.out.1;omega) h1 h2)).symm,hb.out⟩
def Td(l:List Int):l.flatMap (λk=> [Afx .i64 k])=l.map (Afx .i64):=by
 induction l with
 |nil=>rfl
 |cons a l ih=>rw[Ahw,List.map_cons,ih];rfl
def Ih{w:Abc}{base:Nat}{e:Aa8}{v:Value}{l:List Int}(h:w.ownsRow base e 1 v l.length (l.map (Afx .i64))):Row w w.heap.size 1 cH v l:=
 lu (f:=λk:Int=> [Afx .i64 k]) (by rw[Td];exact h) (λ_=>rfl) (λ_ _=>rfl)
def ah2{b:ao}{l:List Cut}{pv bv tv sv lv:Value}{g:Nat}{w:Abc}{B:Nat}(ai:bg w B b pv bv tv)(hl:Row w B 2 Cut.R lv l)(hB:B<=w.heap.size)(xv:l.length<=1000)(hs:∃A n c,sv=.slice A n c)
 (dh:∀c∈l,∃k:Nat,c.bp=k/\k<b.aF.length)(rL:∀x∈b.aF,0<=x.aH/\x.aH<=40):
 Aet prog 236 #[.agg #[.int .i64 b.ag,pv,bv,tv,sv,.map (some g)],lv] w λe w'=>e=.returned (.int .i64 (lY b (jG l)))/\Below w.heap.size w w':=by
 have aB:=Afl (taken (w:=w.alloc (.cells #[.int .i64 b.ag,pv,bv,tv,sv,.map (some g)] 151)) (hl.still ((Still.refl w).alloc hB _) λ_ _ h=>h) (by simp;omega) xv)
 have bT:=Afl ai;obtain⟨A1,n1,c1,rfl,-⟩:=ai.pieces.open_;obtain⟨A2,n2,c2,rfl,e2,h2,dW,r2⟩:=ai.aF.open_;obtain⟨A3,n3,c3,rfl,-⟩:=ai.aJ.open_;obtain⟨A4,n4,c4,rfl⟩:=hs;obtain⟨A,n,c,rfl,rJ,-⟩:=hl.open_;unfold Aes at dW;have qG:(jG l).length<=1000:=by
  unfold jG;have:=aeE (ga (l.map (·.bp)));have h2:(ga (l.map (·.bp))).length=l.length:=by simp[ga]
  omega
 have E2:=Afl (Aee e2 (Aee dh (Aee rL qG)));have H2:=Afl r2;clear hl ai e2 r2 dh rL rJ qG;go_enter func236,Tryz.ntmps236;go_wp2_with (first
  | (go_at_call 235;refine aB.out.mono ?_;rintro e w1 ⟨u,rfl,aG,ae⟩
     have eI:=Ih aG;obtain⟨A9,m9,c9,rfl,cY,nG,py,iN⟩:=eI.open_;have lF:=Afl (Aee cY iN);have kk:=Afl (Bk.below (g:=w.heap.size) (t:=151) (cs:=#[.int .i64 b.ag,.slice A1 n1 c1,.slice A2 n2 c2,.slice A3 n3 c3,.slice A4 n4 c4,.map (some g)]) (Bk.new w _ _) ae (by simp))
     have aY:=Afl (cU (Aft _ _) ae (Ad4 _));clear ae aG eI cY iN))
 unfold Aes at py;go_loopw [5,11] (λs u wr=>∃i:Nat,i<=m9/\u=.int .i64 i/\s=.int .i64 (lY b ((jG l).take i))/\wr=w1) (λ_ u _=>m9 - (Ahb u).toNat)
 case atStart=>exact⟨0,Agl _,rfl,by simp[lY],rfl⟩
 case round=>
  obtain⟨i,hi,rfl,rfl,rfl⟩:=hrel;have adp:((jG l).take i).length<=1000:=by have:=E2.out.2.2.2;simp;omega
  have hle:=VZ (b:=b) E2.out.2.2.1 ((jG l).take i);obtain⟨S,hS⟩:∃S,S=lY b ((jG l).take i):=⟨_,rfl⟩
  rw[<-hS] at hle |-
  have HS:=Afl hS;have G3:0<=S:=hle.1;have fU:S<=40000:=by have:=hle.2;omega
  clear hS hle adp;by_cases al:i<m9
  ·obtain⟨ad,k,cs,kX,aC,hk,rfl,-,au⟩:=lF.out.2 i al
   subst kX;have g0: wr.cell? (ad.add i)=some (.int .i64 k):=by have:=cC au (Still.refl wr) aC (u:=.int .i64 k) rfl;rwa[Nat.mul_one] at this
   obtain⟨c0,ic,fB⟩:=ah4 (Agd hk);obtain⟨kn,da,xR⟩:=E2.out.2.1 c0 ic;obtain rfl:k=kn:=by rw[<-fB,da]
   have Hm:kn<n2:=by have:=E2.out.1;omega
   have qu:(kn:Int)<n2:=by omega
   obtain⟨cI,x,jQ,CO,fV,hx,⟨Bi,rfl,dH,-⟩,-,ie⟩:=H2.out kn Hm;subst CO;have st:Still B w wr:=Still.aK aY.out hB;have x1: wr.cell? ⟨(cI.add (kn * 3)).block,(cI.add (kn * 3)).off+1,none⟩=some (.int .i64 x.aH):=bK ie st fV 0 rfl;have p2: wr.cell? ⟨w.heap.size,2,none⟩=some (.slice (some cI) n2 c2):=kk.out.cell 2;have Eg:=E2.out.2.2.1 x (Agd hx);have vF:0<=x.aH:=Eg.1;have Ia:x.aH<=40:=Eg.2;have HK:=Afl (Aee hk hx);clear hk hx au ie fB da st dH Eg ic;go_wp2;go_roundw;case rel=>exact⟨i+1,by omega,by go_num,by rw[oJ HK.out.1,ahj,<-HS.out];unfold yC;simp[HK.out.2],trivial⟩
   case measure=>simp[Ahb];omega
  ·obtain rfl:i=m9:=by omega
   go_wp2;go_ret;exact⟨aX (by rw[HS.out,Agc (Agn lF.out.1)]),aY.out⟩
def PI{b:ao}(hv:Valid b){n:an}{out:Nat->Bool}:∀(f:Nat) (cs full:List Cut),(∀c∈cs,oO b c)->search b n out f cs=some full->full.length=cs.length+f/\∀c∈full,oO b c
 |0,cs,full,h,hs=>by
  unfold search at hs;cases hs;exact⟨rfl,h⟩
 |f+1,cs,full,h,hs=>by
  unfold search at hs;obtain⟨k,hk,hs⟩:=Ah4 hs
  unfold pC at hs;split at hs
  ·cases hs
  ·obtain⟨fr,b7,hs⟩:=Ah4 hs
   unfold kj at hs;split at hs
   ·have rH:k<b.aF.length:=by simpa using hk
    have Nk:fr<mJ b k:=by simpa using b7
    have hc:oO b ⟨k,fr⟩:=by
     refine⟨⟨k,rfl,rH⟩,?_⟩
     unfold mJ at Nk;cases e:b.aF[k]? with
     |none=>simp[e] at Nk
     |some x=>
      simp only[e] at Nk;have:=(hv.bp x (Agd e)).aH;show 0<=(fr:Int)/\(fr:Int)<=40;omega
    have:=PI hv f (cs++ [⟨k,fr⟩]) full (λc tA=>by
     rcases Af5.1 tA with h1|h1
     ·exact h c h1
     ·simp at h1;subst h1;exact hc) hs
    refine⟨by rw[this.1];simp;omega,this.2⟩
   ·cases hs
def nw(mI:List Cut->Int)(st:Option (List Cut×Int))(l:List Cut):Option (List Cut×Int):=match st with
 |none=>some (l,mI l)
 |some (c,m)=>if mI l<m\/(mI l=m/\oj l c<0) then some (l,mI l) else some (c,m)
def sY(b:ao)(n:an)(mI:List Cut->Int)(st:Option (List Cut×Int))(m:Nat):Option (List Cut×Int):=match search b n (jf m) b.pieces.length [] with
 |none=>st
 |some l=>nw mI st l
def iG(b:ao)(n:an)(mI:List Cut->Int)(M:Nat):Option (List Cut×Int):=(Agj M).foldl (sY b n mI) none
def kS(b:ao)(n:an)(mI:List Cut->Int)(M:Nat):iG b n mI (M+1)=sY b n mI (iG b n mI M) M:=by simp[iG,Ah5]
def wH(b:ao)(c:List Cut):Prop:=c.length=b.pieces.length/\∀x∈c,oO b x
def Cx{b:ao}(hv:Valid b){n:an}{mI:List Cut->Int}:∀(M:Nat) (c:List Cut) (m:Int),iG b n mI M=some (c,m)->wH b c
 |0,c,m,h=>by simp[iG] at h
 |M+1,c,m,h=>by
  rw[kS] at h;unfold sY at h;split at h
  ·exact Cx hv M c m h
  ·rename_i l hl
   have hg:wH b l:=by
    have:=PI hv _ [] l (by simp) hl
    exact⟨by simpa using this.1,this.2⟩
   unfold nw at h;split at h
   ·simp at h;rw[<-h.1];exact hg
   ·split at h
    ·simp at h;rw[<-h.1];exact hg
    ·rename_i c' m' heq _
     simp at h;rw[<-h.1];exact Cx hv M c' m' heq
def Xo{b:ao}(hv:Valid b){c:List Cut}(h:wH b c):∀x∈c,Kl x:=λx hx=>by
 obtain⟨⟨k,hk,cP⟩,h2⟩:=h.2 x hx;have:=hv.nb;exact⟨by omega,by omega,h2.1,by have:=h2.2;omega⟩
def Lc(b:ao)(pv bv tv:Value)(KM:Nat)(mI:List Cut->Int)(w:Abc)(B:Nat):Prop:=
 (∀args w,(callFunc KM args).run prog w=.ok (.enter KM args) w)/\∀(W:Abc) (sv lv:Value) (g:Nat) (l:List Cut),Still B w W->B<=W.heap.size->(∃A n c,sv=.slice A n c)->Row W W.heap.size 2 Cut.R lv l->wH b l->
   Aet prog KM #[.agg #[.int .i64 b.ag,pv,bv,tv,sv,.map (some g)],lv] W λe W'=>e=.returned (.int .i64 (mI l))/\Below W.heap.size W W'
def lJ(W:Abc)(base np:Nat)(st:Option (List Cut×Int))(cv mv fv:Value):Prop:=match st with
 |none=>cv=.slice none 0 0/\mv=.int .i64 0/\fv=.bool false
 |some (c,m)=>W.ownsRow base 56 2 cv np (c.flatMap Cut.vs)/\mv=.int .i64 m/\fv=.bool true
def Zx(w:Abc)(b:ao)(st:Option (List Cut×Int))(e:Ag1)(w':Abc):Prop:=
 ∃cv mv fv,e=.returned (.tuple #[cv,mv,fv,.int .i64 0])/\lJ w' w.heap.size b.pieces.length st cv mv fv/\Below w.heap.size w w'
def alq{n:Nat}(h:n<=3):wrap64 ((2:Int) ^ n)=((2 ^ n:Nat):Int):=by
 match n,h with
 |0,_=>simp[wrap64]
 |1,_=>simp[wrap64]
 |2,_=>simp[wrap64]
 |3,_=>simp[wrap64]
def ad9{mI:List Cut->Int}{c l:List Cut}{m:Int}(h:mI l<m\/(mI l=m/\oj l c<0)):nw mI (some (c,m)) l=some (l,mI l):=by
 show(if mI l<m\/(mI l=m/\oj l c<0) then some (l,mI l) else some (c,m))=_
 rw[if_pos h]
def RN{mI:List Cut->Int}{c l:List Cut}{m:Int}(h:¬ (mI l<m\/(mI l=m/\oj l c<0))):nw mI (some (c,m)) l=some (c,m):=by
 show(if mI l<m\/(mI l=m/\oj l c<0) then some (l,mI l) else some (c,m))=_
 rw[if_neg h]
def lJ.base{W:Abc}{base sV np:Nat}{st:Option (List Cut×Int)}{cv mv fv:Value}(h:lJ W base np st cv mv fv)(hb:sV<=base):lJ W sV np st cv mv fv:=by
 unfold lJ at h |-
 cases st with
 |none=>exact h
 |some p=>exact⟨World.ownsRow.base h.1 hb,h.2⟩
def Bd{w w':Abc}{base:Nat}{e:Aa8}{sz n g:Nat}{b:ao}{v:Value}{xs:List Value}(h:w.ownsRow base e sz v n xs)(hk:dK w g b)(hg:w.grownBy w' (some g)):w'.ownsRow base e sz v n xs:=by
 refine⟨h.1,?_⟩
 rcases h.2 with h0| ⟨q,cap,cur,h1,h2,h3,h4⟩
 ·exact .inl h0
 ·obtain⟨es,clock,k1,_⟩:=hk
  exact .inr ⟨q,cap,cur,h1,h2,(hg.block q (Aaf.1 h3).1 (λe=>by cases e;rw[k1] at h3;cases h3)).trans h3,h4⟩
def acI{X:ep}{B:Nat}(ok:X.Ok B)(hB:B<=X.w.heap.size)(hk:dK X.w X.gm X.b)(hs:search X.b X.n X.out X.np []=none):
 Aet prog 170 #[fv 174 #[.pointer (some ⟨X.gs,0,none⟩),.pointer (some ⟨X.go,0,none⟩),.pointer (some ⟨X.gn,0,none⟩)]] X.w λe W'=>e=.returned (.tuple #[.slice none 0 0,.bool false])/\X.w.grownBy W' (some X.gm)/\dK W' X.gm X.b:=
 (S9 ok hB hk).mono λe W' ⟨h1,h2,h3⟩=>by
   rcases h1 with⟨full,v,k1,_,_⟩ | ⟨_,k2⟩
   ·rw[hs] at k1;cases k1
   ·exact⟨k2,h2,h3⟩
def acJ{X:ep}{B:Nat}(ok:X.Ok B)(hB:B<=X.w.heap.size)(hk:dK X.w X.gm X.b){full:List Cut}(hs:search X.b X.n X.out X.np []=some full):
 Aet prog 170 #[fv 174 #[.pointer (some ⟨X.gs,0,none⟩),.pointer (some ⟨X.go,0,none⟩),.pointer (some ⟨X.gn,0,none⟩)]] X.w λe W'=>∃v,e=.returned (.tuple #[v,.bool true])/\W'.ownsRow X.w.heap.size 56 2 v X.np (full.flatMap Cut.vs)/\X.w.grownBy W' (some X.gm)/\dK W' X.gm X.b:=
 (S9 ok hB hk).mono λe W' ⟨h1,h2,h3⟩=>by
   rcases h1 with⟨ac8,v,k1,k2,k3⟩ | ⟨k1,_⟩
   ·rw[hs] at k1;cases k1;exact⟨v,k2,k3,h2,h3⟩
   ·rw[hs] at k1;cases k1
def TE:∀(l:List an),(∀L∈l,L.Ok)->(cz l).Ok:=by
 have key:∀(l:List an) (M:an),M.Ok->(∀L∈l,L.Ok)->(l.foldl (λM x=>mU M x 3) M).Ok:=by
  intro l;induction l with
  |nil=>intro M h _;exact h
  |cons a l ih=>
   intro M h hl;refine ih _ ?_ λL hL=>hl L (by simp[hL])
   have ha:=hl a (by simp)
   have a0:=ha 0;have a1:=ha 1;have a2:=ha 2
   have m0:=h 0;have m1:=h 1;have m2:=h 2
   simp only[an.at] at a0 a1 a2 m0 m1 m2;intro q;unfold an.at mU;by_cases h0:q=0
   ·subst h0;simp at *;split<;>omega
   ·by_cases h1:q=1
    ·subst h1;simp at *;split<;>omega
    ·simp[h0,h1] at *;split<;>omega
 exactλl hl=>key l _ (λq=>by unfold an.at;simp) hl
def Bw(w2:Abc)(b:ao)(pv bv tv sv:Value)(ps:List an)(gs gn g KO:Nat)(jD:Array Value)(out:Nat->Bool):ep:=
 {w:=w2,b,pv,bv,tv,sv,n:=cz ps,gs,go:=gs+1,gn,gm:=g,KO,jD,out,l:=0}
def PJ{w2 Wa:Abc}{b:ao}{pv bv tv sv:Value}{ps:List an}{gn g KO:Nat}{jD:Array Value}{out:Nat->Bool}{B:Nat}(ai:bg w2 B b pv bv tv)(hv:Valid b)(NU:∀L∈ps,L.Ok)(oD:∃A n c,sv=.slice A n c)
 (Mv:B<=g)(Hj:g<Wa.heap.size)(k0:Bk w2 Wa.heap.size 151 #[.int .i64 b.ag,pv,bv,tv,sv,.map (some g)])(k1:Bk w2 (Wa.heap.size+1) 158 #[fv KO jD])(k2:Bk w2 gn 128 (cz ps).cs)(qm:Wa.heap.size<=gn)
 (eg:∀args w,(callFunc KO args).run prog w=.ok (.enter KO args) w)(ho:∀(k:Nat) (W:Abc),k<b.aF.length->w2.grownBy W (some g)->Aet prog KO (#[.int .i64 k]++jD) W λe W'=>e=.returned (.bool (out k))/\Below W.heap.size W W'):
 (Bw w2 b pv bv tv sv ps Wa.heap.size gn g KO jD out).Ok B:=
 ⟨ai,hv,TE ps NU,oD,Mv,k0.lt,k1.lt,k2.lt,by show g<w2.heap.size;have:=k0.lt;omega,by show Wa.heap.size≠g;omega,by show Wa.heap.size+1≠g;omega,by show gn≠g;omega,k0,k1,k2,eg,ho⟩
def RR{w:Abc}{b:ao}{pv bv tv:Value}{KM:Nat}{mI:List Cut->Int}{B:Nat}(hB:B<=w.heap.size)(ai:bg w B b pv bv tv)(hM:Lc b pv bv tv KM mI w B)(h:cj b 0=0):
 Aet prog 117 #[.agg #[.int .i64 b.ag,pv,bv,tv],.agg #[.func (.func KM) #[] #[]]] w (Zx w b (iG b (cz (aD b)) mI (2 ^ b.aF.length))):=by
 have st:Still B w ((w.alloc (.cells #[.int .i64 b.ag,pv,bv,tv] 26)).alloc (.cells #[.func (.func KM) #[] #[]] 145)):=((Still.refl w).alloc hB _).alloc (by simp;omega) _
 have aB:=Afl (PO (w:=((w.alloc (.cells #[.int .i64 b.ag,pv,bv,tv] 26)).alloc (.cells #[.func (.func KM) #[] #[]] 145))) (B:=B) (by simp;omega) (ai.still st) h)
 have hv:=iy (pq h).1;have HV:=Afl hv;have bT:=Afl ai;have YN:=Afl hM.2;have egM:=hM.1;have gy:=hv.nb;obtain⟨A1,n1,c1,rfl,-⟩:=ai.pieces.open_;obtain⟨A2,n2,c2,rfl,e2,h2,dW,-⟩:=ai.aF.open_;obtain⟨A3,n3,c3,rfl,-⟩:=ai.aJ.open_;have lQ:n2<=3:=by omega
 have vz:=alq lQ;obtain⟨M,G2⟩:∃M,M=2 ^ n2:=⟨_,rfl⟩
 rw[<-G2] at vz;have hM8:M<=8:=by
  rw[G2];exact Aig (n:=2) (by omega) lQ
 have E2:=Afl (Aee e2 G2);clear G2;unfold Aes at dW;clear ai hM st h hv gy e2;go_enter func117,Tryz.ntmps117;go_wp2_with (first
  | (go_at_call 119;refine aB.out.mono ?_;rintro e w1 ⟨sv,g,rfl,aG,da,hg,ae⟩
     obtain⟨A9,m9,c9,rfl⟩:=j8 aG;have kb:=Bk.below (g:=w.heap.size) (t:=26) (cs:=#[.int .i64 b.ag,.slice A1 n1 c1,.slice A2 n2 c2,.slice A3 n3 c3]) ((Bk.new w _ _).alloc _) ae (by simp;omega)
     have km:=Bk.below (g:=w.heap.size+1) (t:=145) (cs:=#[.func (.func KM) #[] #[]]) (Bk.cG (by simp) _ _) ae (by simp)
     have b2: w1.cell? ⟨w.heap.size,2,none⟩=some (.slice A2 n2 c2):=kb.cell 2;have aN:w.heap.size+2<=w1.heap.size:=by have:=ae.size;simpa using this
     have ba:w.heap.size<w1.heap.size:=by omega
     have jB:w.heap.size<=w1.heap.size:=by omega
     have kG:w.heap.size+2<=g:=by simpa using hg
     have aY:Hid (Below w.heap.size w w1):=Afl ((((Aft _ _).alloc (Ad4 _) _).alloc (by simp) _).trans (ae.mono (by simp;omega)))
     have FR:=Afl (Aee aG (Aee da (Aee kb km)));clear ae aG da kb km hg))
 obtain⟨G,TO⟩:∃G,G=cz (aD b):=⟨_,rfl⟩
 have HGD:=Afl TO;clear TO;rw[vz];clear vz;go_loopw [4,5,6,25] (λc m f u wr=>∃i:Nat,i<=M/\u=.int .i64 i/\Hid (lJ wr (w1.heap.size+1) b.pieces.length (iG b (cz (aD b)) mI i) c m f)/\Hid ((w1.alloc (.cells #[.int .i64 b.ag,.slice A1 n1 c1,.slice A2 n2 c2,.slice A3 n3 c3,.slice A9 m9 c9,.map (some g)] 151)).grownBy wr (some g))/\Hid (dK wr g b)) (λ_ _ _ u _=>M - (Ahb u).toNat)
 case atStart=>exact⟨0,Agl _,rfl,Afl (by simp[iG,lJ]),Afl (World.grownBy.refl _ _),Afl (FR.out.2.1.grown (Ahk w1 _ none) (by simp))⟩
 case round=>
  obtain⟨i,hi,rfl,aQ,hG,hK⟩:=hrel;have hgw:g<w1.heap.size:=FR.out.2.1.lt;have rV:w1.heap.size+1<=wr.heap.size:=by have:=hG.out.size;simpa using this
  have yz:Bk wr w1.heap.size 151 #[.int .i64 b.ag,.slice A1 n1 c1,.slice A2 n2 c2,.slice A3 n3 c3,.slice A9 m9 c9,.map (some g)]:=(Bk.new w1 _ _).grown hG.out (by simp;omega)
  have r0:=yz.cell 0;have r1:=yz.cell 1;have r2:=yz.cell 2;have r3:=yz.cell 3;have r4:=yz.cell 4;have r5:=yz.cell 5;have U4:qQ wr (w.heap.size+2) (.slice A9 m9 c9) (aD b):=by
   have h0:qQ w1 (w.heap.size+2) (.slice A9 m9 c9) (aD b):=by have:=FR.out.1;simpa using this
   have h1:=h0.alloc (.cells #[.int .i64 b.ag,.slice A1 n1 c1,.slice A2 n2 c2,.slice A3 n3 c3,.slice A9 m9 c9,.map (some g)] 151);exact Bd h1 (FR.out.2.1.grown (Ahk w1 _ none) (by simp)) hG.out
  have eI:Row (wr.alloc (.cells #[.int .i64 i] 3)) wr.heap.size 3 an.R (.slice A9 m9 c9) (aD b):=U4.row.still ((Still.refl wr).alloc (Ad4 _) _) λ_ _ h=>h
  clear yz U4;by_cases al:i<M
  ·have a1:w1.heap.size<wr.heap.size:=by omega
   have a2:w1.heap.size<=wr.heap.size:=by omega
   cases hs:search b (cz (aD b)) (jf i) b.pieces.length [] with
   |none=>
    have NX:Hid (iG b (cz (aD b)) mI (i+1)=iG b (cz (aD b)) mI i):=Afl (by rw[kS];unfold sY;rw[hs])
    go_wp2_with (first
     | (go_at_call 122;refine(LY (B:=wr.heap.size) (ps:=aD b) eI (by simp) ⟨_,_,_,rfl⟩ ⟨_,_,_,rfl⟩ ⟨_,_,_,rfl⟩).mono ?_;rintro e w2 ⟨gn,rfl,k0,k1,k2,qm,ak⟩
        have ba:wr.heap.size+1<=w2.heap.size:=by have:=ak.size;simpa using this
        have vk:wr.grownBy w2 (some g):=(Ahk wr (.cells #[.int .i64 i] 3) _).trans (je ak (Ad4 _) _);have cP:dK w2 g b:=hK.out.grown (row:=none) ((Ahk wr (.cells #[.int .i64 i] 3) _).trans (je ak (Ad4 _) _)) (by simp)
        have Er:Bk w2 wr.heap.size 3 #[.int .i64 i]:=(Bk.new wr _ _).below ak (by simp)
        have hX:=PJ (KO:=171) (jD:=#[.pointer (some ⟨wr.heap.size,0,none⟩)]) (out:=jf i) (B:=B) (bT.out.still ((FH ((je aY.out (Ad4 _) _).trans ((Ahk w1 (.cells #[.int .i64 b.ag,.slice A1 n1 c1,.slice A2 n2 c2,.slice A3 n3 c3,.slice A9 m9 c9,.map (some g)] 151) _).trans (hG.out.trans vk))) (by omega) hB))) HV.out (uG HV.out) ⟨_,_,_,rfl⟩ (by omega) (by simp;omega) k0 k1 k2 qm call171 (λk W hk eh=>RK (by omega) (by have:=HV.out.nb;omega) (Er.grown eh (by simp;omega)))
        have wZ:=acI hX (by show B<=w2.heap.size;omega) cP hs
        simp only[Bw,Ahj] at wZ;have Kf:=Afl wZ;have uA:=Afl (Aee vk cP);clear ak k0 k1 k2 vk cP Er hX wZ)
     | (go_at_call 170;refine Kf.out.mono ?_;rintro e w3 ⟨rfl,vi,fh⟩;have iD:=Afl (Aee vi fh);clear vi fh))
    go_roundw;case rel=>exact⟨i+1,by omega,by go_num,Afl (by
     have h0:=aQ.out;rw[NX.out];unfold lJ at h0 |-
     revert h0
     cases iG b (cz (aD b)) mI i with
     |none=>exact id
     |some p=>
      rintro⟨k1,k2,k3⟩;exact⟨Bd (Bd k1 hK.out uA.out.1) uA.out.2 iD.out.1,k2,k3⟩),
     Afl (hG.out.trans (uA.out.1.trans iD.out.1)),Afl iD.out.2⟩
    case measure=>simp[Ahb];omega
   |some l=>
    have k7:wH b l:=by
     have:=PI HV.out _ [] l (by simp) hs
     exact⟨by simpa using this.1,this.2⟩
    have HL:=Afl k7;obtain⟨q,hq⟩:∃q,q=mI l:=⟨_,rfl⟩
    have HQ:=Afl hq;clear k7 hq;have NX:Hid (iG b (cz (aD b)) mI (i+1)=nw mI (iG b (cz (aD b)) mI i) l):=Afl (by rw[kS];unfold sY;rw[hs])
    go_wp2_with (first
     | (go_at_call 122;refine(LY (B:=wr.heap.size) (ps:=aD b) eI (by simp) ⟨_,_,_,rfl⟩ ⟨_,_,_,rfl⟩ ⟨_,_,_,rfl⟩).mono ?_;rintro e w2 ⟨gn,rfl,k0,k1,k2,qm,ak⟩
        have ba:wr.heap.size+1<=w2.heap.size:=by have:=ak.size;simpa using this
        have vk:wr.grownBy w2 (some g):=(Ahk wr (.cells #[.int .i64 i] 3) _).trans (je ak (Ad4 _) _);have cP:dK w2 g b:=hK.out.grown (row:=none) ((Ahk wr (.cells #[.int .i64 i] 3) _).trans (je ak (Ad4 _) _)) (by simp)
        have Er:Bk w2 wr.heap.size 3 #[.int .i64 i]:=(Bk.new wr _ _).below ak (by simp)
        have hX:=PJ (KO:=171) (jD:=#[.pointer (some ⟨wr.heap.size,0,none⟩)]) (out:=jf i) (B:=B) (bT.out.still ((FH ((je aY.out (Ad4 _) _).trans ((Ahk w1 (.cells #[.int .i64 b.ag,.slice A1 n1 c1,.slice A2 n2 c2,.slice A3 n3 c3,.slice A9 m9 c9,.map (some g)] 151) _).trans (hG.out.trans vk))) (by omega) hB))) HV.out (uG HV.out) ⟨_,_,_,rfl⟩ (by omega) (by simp;omega) k0 k1 k2 qm call171 (λk W hk eh=>RK (by omega) (by have:=HV.out.nb;omega) (Er.grown eh (by simp;omega)))
        have wZ:=acJ hX (by show B<=w2.heap.size;omega) cP hs
        simp only[Bw,Ahj] at wZ;have Kf:=Afl wZ;have uA:=Afl (Aee vk cP);clear ak k0 k1 k2 vk cP Er hX wZ)
     | (go_at_call 170;refine Kf.out.mono ?_;rintro e w3 ⟨v,rfl,tG,vi,fh⟩
        obtain⟨A8,m8,c8,rfl⟩:=j8 tG;have GZ:=hG.out.trans (uA.out.1.trans vi);have yA:Bk w3 w1.heap.size 151 #[.int .i64 b.ag,.slice A1 n1 c1,.slice A2 n2 c2,.slice A3 n3 c3,.slice A9 m9 c9,.map (some g)]:=(Bk.new w1 _ _).grown GZ (by simp;omega)
        have VQ:Bk w3 (w.heap.size+1) 145 #[.func (.func KM) #[] #[]]:=(FR.out.2.2.2.alloc (.cells #[.int .i64 b.ag,.slice A1 n1 c1,.slice A2 n2 c2,.slice A3 n3 c3,.slice A9 m9 c9,.map (some g)] 151)).grown GZ (by simp;omega)
        have s0:=yA.cell 0;have s1:=yA.cell 1;have s2:=yA.cell 2;have s3:=yA.cell 3;have s4:=yA.cell 4;have s5:=yA.cell 5;have t0: w3.cell? ⟨w.heap.size+1,0,none⟩=some (.func (.func KM) #[] #[]):=VQ.cell 0;have iD:=Afl (Aee vi (Aee fh (Aee tG GZ)));clear vi fh tG GZ yA VQ))
    have hlen:l.length=b.pieces.length:=HL.out.1;have tG:w3.ownsRow w3.heap.size.pred 56 2 (.slice A8 m8 c8) l.length (l.flatMap Cut.vs)\/True:=.inr trivial;have N5:Row w3 w3.heap.size 2 Cut.R (.slice A8 m8 c8) l:=lu (by rw[hlen];exact iD.out.2.2.1) (λ_=>rfl) (λ_ _=>rfl)
    have ae7:Still B w w3:=FH ((je aY.out (Ad4 _) _).trans ((Ahk w1 (.cells #[.int .i64 b.ag,.slice A1 n1 c1,.slice A2 n2 c2,.slice A3 n3 c3,.slice A9 m9 c9,.map (some g)] 151) _).trans iD.out.2.2.2)) (by omega) hB
    have Vt:w1.heap.size+1<=w3.heap.size:=by have:=iD.out.2.2.2.size;simpa using this
    have LJ:=YN.out w3 (.slice A9 m9 c9) (.slice A8 m8 c8) g l ae7 (by omega) ⟨_,_,_,rfl⟩ N5 HL.out
    rw[<-HQ.out] at LJ;clear hlen tG ae7;refine LJ.mono ?_
    rintro e w4 ⟨rfl,cO⟩;have Va:Row w4 w3.heap.size 2 Cut.R (.slice A8 m8 c8) l:=N5.still (Still.aK cO (Ad4 _)) λ_ _ h=>h
    have HF:=Afl (Aee (iD.out.2.2.2.trans (je cO (Ad4 _) (some g))) (iD.out.2.1.below cO iD.out.2.1.lt));have U3:w4.ownsRow (w1.heap.size+1) 56 2 (.slice A8 m8 c8) b.pieces.length (l.flatMap Cut.vs):=(qO (Bd iD.out.2.2.1 iD.out.2.1 (World.grownBy.refl _ _)) cO (Ad4 _)).base (by have:=uA.out.1.size;show w1.heap.size+1<=w2.heap.size;omega)
    have wQ:=Afl U3;have YU:=Afl Va;have vG:=cO.size;have pf:=aQ.out;clear N5 Va U3 LJ;cases fe:iG b (cz (aD b)) mI i with
    |none=>
     rw[fe] at pf;obtain⟨rfl,rfl,rfl⟩:=pf;have pP:Hid (lJ w4 (w1.heap.size+1) b.pieces.length (nw mI none l) (.slice A8 m8 c8) (.int .i64 q) (.bool true)):=Afl ⟨wQ.out,by rw[HQ.out],rfl⟩
     clear cO;go_wp2;go_roundw;case rel=>exact⟨i+1,by omega,by go_num,Afl (by rw[NX.out,fe];exact pP.out),Afl HF.out.1,Afl HF.out.2⟩
     case measure=>simp[Ahb];omega
    |some p=>
     obtain⟨c,m⟩:=p;rw[fe] at pf;obtain⟨NQ,rfl,rfl⟩:=pf;obtain⟨A7,m7,c7,rfl⟩:=j8 NQ;have NS:w4.ownsRow (w1.heap.size+1) 56 2 (.slice A7 m7 c7) b.pieces.length (c.flatMap Cut.vs):=qO (Bd (Bd NQ hK.out uA.out.1) uA.out.2 iD.out.1) cO (Ad4 _);have xP:wH b c:=Cx HV.out i c m fe;have gP:Row w4 w4.heap.size 2 Cut.R (.slice A7 m7 c7) c:=lu (by rw[xP.1];exact NS) (λ_=>rfl) (λ_ _=>rfl)
     have Kh:=Afl (aaU (YU.out.more vG) gP (Ad4 _) (HL.out.1.trans xP.1.symm) (Xo HV.out HL.out) (Xo HV.out xP));have Q9:=Afl NS;clear cO NQ NS xP gP;by_cases h1:q<m
     ·have pP:Hid (lJ w4 (w1.heap.size+1) b.pieces.length (nw mI (some (c,m)) l) (.slice A8 m8 c8) (.int .i64 q) (.bool true)):=Afl (by
       rw[ad9 (.inl (by rw[<-HQ.out];exact h1))];exact⟨wQ.out,by rw[HQ.out],rfl⟩)
      go_wp2;go_roundw;case rel=>exact⟨i+1,by omega,by go_num,Afl (by rw[NX.out,fe];exact pP.out),Afl HF.out.1,Afl HF.out.2⟩
      case measure=>simp[Ahb];omega
     ·by_cases h2:q=m
      ·subst h2
       obtain⟨C,hC⟩:∃C,C=oj l c:=⟨_,rfl⟩
       have HC:=Afl hC;rw[<-hC] at Kh;clear hC;by_cases h3:C<0
       ·have pP:∀w5,Below w4.heap.size w4 w5->Hid (lJ w5 (w1.heap.size+1) b.pieces.length (nw mI (some (c,q)) l) (.slice A8 m8 c8) (.int .i64 q) (.bool true)):=λw5 h5=>Afl (by
           rw[ad9 (.inr ⟨HQ.out.symm,by rw[<-HC.out];exact h3⟩)];exact⟨qO wQ.out h5 (Ad4 _),by rw[HQ.out],rfl⟩)
        have KY:=Afl pP;clear pP;go_wp2_with (first
           | (go_at_call 172;refine Kh.out.mono ?_;rintro e w5 ⟨rfl,eR⟩;have mi:=Afl eR;clear eR))
        go_roundw;case rel=>exact⟨i+1,by omega,by go_num,Afl (by rw[NX.out,fe];exact(KY.out w5 mi.out).out),Afl (HF.out.1.trans (je mi.out (Ad4 _) _)),Afl (HF.out.2.below mi.out HF.out.2.lt)⟩
        case measure=>simp[Ahb];omega
       ·have pP:∀w5,Below w4.heap.size w4 w5->Hid (lJ w5 (w1.heap.size+1) b.pieces.length (nw mI (some (c,q)) l) (.slice A7 m7 c7) (.int .i64 q) (.bool true)):=λw5 h5=>Afl (by
           rw[RN (by rw[<-HQ.out,<-HC.out];omega)];exact⟨qO Q9.out h5 (Ad4 _),rfl,rfl⟩)
        have KY:=Afl pP;clear pP;go_wp2_with (first
           | (go_at_call 172;refine Kh.out.mono ?_;rintro e w5 ⟨rfl,eR⟩;have mi:=Afl eR;clear eR))
        go_roundw;case rel=>exact⟨i+1,by omega,by go_num,Afl (by rw[NX.out,fe];exact(KY.out w5 mi.out).out),Afl (HF.out.1.trans (je mi.out (Ad4 _) _)),Afl (HF.out.2.below mi.out HF.out.2.lt)⟩
        case measure=>simp[Ahb];omega
      ·have h4:(q==m)=false:=by simpa using h2
       have pP:Hid (lJ w4 (w1.heap.size+1) b.pieces.length (nw mI (some (c,m)) l) (.slice A7 m7 c7) (.int .i64 m) (.bool true)):=Afl (by
        rw[RN (by rw[<-HQ.out];omega)];exact⟨Q9.out,rfl,rfl⟩)
       go_wp2;go_roundw;case rel=>exact⟨i+1,by omega,by go_num,Afl (by rw[NX.out,fe];exact pP.out),Afl HF.out.1,Afl HF.out.2⟩
       case measure=>simp[Ahb];omega
  ·obtain rfl:i=M:=by omega
   have mi:Hid (Below w.heap.size w wr):=Afl (aY.out.trans (Ahe ((Aft _ _).alloc (by omega) _) hG.out (by simp;omega) (λk e=>by cases e;omega)))
   go_wp2;refine Ag4 (v:=.tuple #[u4,u5,u6,.int .i64 0]) (by simp[results,Tryz.results117,go_sem]) rfl ?_
   refine⟨u4,u5,u6,rfl,?_,mi.out⟩
   rw[E2.out.1,<-E2.out.2];exact aQ.out.base (by omega)
def RQ{w:Abc}{b:ao}{pv bv tv:Value}{KM:Nat}{B:Nat}(hB:B<=w.heap.size)(ai:bg w B b pv bv tv)(h:cj b 0≠0):
 Aet prog 117 #[.agg #[.int .i64 b.ag,pv,bv,tv],.agg #[.func (.func KM) #[] #[]]] w λe w'=>e=.returned (.tuple #[.slice none 0 0,.int .i64 0,.bool false,.int .i64 (cj b 0)])/\Below w.heap.size w w':=by
 have st:Still B w ((w.alloc (.cells #[.int .i64 b.ag,pv,bv,tv] 26)).alloc (.cells #[.func (.func KM) #[] #[]] 145)):=((Still.refl w).alloc hB _).alloc (by simp;omega) _
 have aB:=Afl (als (w:=((w.alloc (.cells #[.int .i64 b.ag,pv,bv,tv] 26)).alloc (.cells #[.func (.func KM) #[] #[]] 145))) (B:=B) (by simp;omega) (ai.still st) h)
 unfold Xl at aB;obtain⟨s,hs⟩:∃s,s=cj b 0:=⟨_,rfl⟩
 rw[<-hs] at aB h |-
 obtain⟨A1,n1,c1,rfl,-⟩:=ai.pieces.open_;obtain⟨A2,n2,c2,rfl,-⟩:=ai.aF.open_;obtain⟨A3,n3,c3,rfl,-⟩:=ai.aJ.open_;clear ai st hs;go_enter func117,Tryz.ntmps117;go_wp2_with (first
  | (go_at_call 119;refine aB.out.mono ?_;rintro e w1 ⟨g,rfl,ae⟩
     have aY:Hid (Below w.heap.size w w1):=Afl ((((Aft _ _).alloc (Ad4 _) _).alloc (by simp) _).trans (ae.mono (by simp;omega)));clear ae))
 refine Ag4 (v:=.tuple #[.slice none 0 0,.int .i64 0,.bool false,.int .i64 s]) (by simp[results,Tryz.results117,go_sem]) rfl ⟨rfl,?_⟩
 exact aY.out.alloc aY.out.size _
def gI(w:Abc):Prop:=∃fr,w.heap[0]?=some (.cells #[.func (.func 234) #[] #[],.func (.func 236) #[] #[]] 146 fr)
def gI.cell{w:Abc}(h:gI w)(i:Nat): w.cell? ⟨0,i,none⟩=(#[.func (.func 234) #[] #[],.func (.func 236) #[] #[]]:Array Value)[i]?:=by
 obtain⟨fr,h⟩:=h;exact cell_of_row w 0 i _ 146 fr h
def gI.lt{w:Abc}(h:gI w):0<w.heap.size:=by
 obtain⟨fr,h⟩:=h;exact(Aaf.1 h).1
def gI.below{B:Nat}{w w':Abc}(h:gI w)(hb:Below B w w')(hB:0<B):gI w':=by
 obtain⟨fr,h⟩:=h;exact⟨fr,(hb.block 0 hB).trans h⟩
def j6(l:List Cut):Int:=(jG l).length
def qM(b:ao)(l:List Cut):Int:=lY b (jG l)
def agm{w:Abc}{b:ao}{pv bv tv:Value}{B:Nat}(ai:bg w B b pv bv tv)(hv:Valid b):Lc b pv bv tv 234 j6 w B:=by
 refine⟨call234,λW sv lv g l hW hB hs hl hg=>?_⟩
 obtain⟨A1,n1,c1,e1,-⟩:=ai.pieces.open_;obtain⟨A2,n2,c2,e2,-⟩:=ai.aF.open_;obtain⟨A3,n3,c3,e3,-⟩:=ai.aJ.open_;exact ah1 (g:=g) hl (Ad4 _) (by have:=hg.1;have:=hv.np;omega) ⟨_,_,_,e1⟩ ⟨_,_,_,e2⟩ ⟨_,_,_,e3⟩ hs
def agn{w:Abc}{b:ao}{pv bv tv:Value}{B:Nat}(ai:bg w B b pv bv tv)(hv:Valid b):Lc b pv bv tv 236 (qM b) w B:=by
 refine⟨call236,λW sv lv g l hW hB hs hl hg=>?_⟩
 have MT:=ai.still hW;have MU:bg W W.heap.size b pv bv tv:=⟨MT.pieces.more hB,(MT.aF.more hB).still (Still.refl _) λx cs h=>by obtain⟨kv,h1,h2,h3⟩:=h;exact⟨kv,h1,h2,h3.more hB⟩,(MT.aJ.more hB).still (Still.refl _) λx cs h=>by obtain⟨kv,h1,h2⟩:=h;exact⟨kv,h1,h2.more hB⟩⟩
 exact ah2 (g:=g) MU hl (Ad4 _) (by have:=hg.1;have:=hv.np;omega) hs (λc hc=>(hg.2 c hc).bp) λx hx=>by have:=(hv.bp x hx).aH;omega
def fA(b:ao)(mI:List Cut->Int):Option (List Cut×Int):=if cj b 0=0 then iG b (cz (aD b)) mI (2 ^ b.aF.length) else none
def wM(w:Abc)(b:ao)(mI:List Cut->Int)(e:Ag1)(w':Abc):Prop:=
 ∃cv mv fv,e=.returned (.tuple #[cv,mv,fv,.int .i64 (cj b 0)])/\lJ w' w.heap.size b.pieces.length (fA b mI) cv mv fv/\Below w.heap.size w w'
def Md{w:Abc}{b:ao}{pv bv tv:Value}{B:Nat}(hB:B<=w.heap.size)(ai:bg w B b pv bv tv)(hg:gI w):
 Aet prog 33 #[.agg #[.int .i64 b.ag,pv,bv,tv]] w (wM w b j6):=by
 have st:Still B w (w.alloc (.cells #[.int .i64 b.ag,pv,bv,tv] 26)):=(Still.refl w).alloc hB _;have call:Aet prog 117 #[.agg #[.int .i64 b.ag,pv,bv,tv],.agg #[.func (.func 234) #[] #[]]] (w.alloc (.cells #[.int .i64 b.ag,pv,bv,tv] 26)) λe w'=>
  ∃cv mv fv,e=.returned (.tuple #[cv,mv,fv,.int .i64 (cj b 0)])/\Hid (lJ w' w.heap.size b.pieces.length (fA b j6) cv mv fv/\Below w.heap.size w w'):=by
  by_cases h:cj b 0=0
  ·refine(RR (w:=w.alloc (.cells #[.int .i64 b.ag,pv,bv,tv] 26)) (B:=B) (KM:=234) (by simp;omega) (ai.still st) (agm (ai.still st) (iy (pq h).1)) h).mono ?_
   rintro e w' ⟨cv,mv,fv,rfl,h1,h2⟩;refine⟨cv,mv,fv,by rw[h],Afl ⟨?_,cU (Aft _ _) h2 (Ad4 _)⟩⟩
   unfold fA;rw[if_pos h];exact h1.base (by simp)
  ·refine(RQ (w:=w.alloc (.cells #[.int .i64 b.ag,pv,bv,tv] 26)) (B:=B) (KM:=234) (by simp;omega) (ai.still st) h).mono ?_
   rintro e w' ⟨rfl,h2⟩;refine⟨_,_,_,rfl,Afl ⟨?_,cU (Aft _ _) h2 (Ad4 _)⟩⟩
   unfold fA;rw[if_neg h];exact⟨rfl,rfl,rfl⟩
 have aB:=Afl call;obtain⟨s,hs⟩:∃s,s=cj b 0:=⟨_,rfl⟩
 rw[<-hs] at aB;have HS:=Afl hs;obtain⟨A1,n1,c1,rfl,-⟩:=ai.pieces.open_;obtain⟨A2,n2,c2,rfl,-⟩:=ai.aF.open_;obtain⟨A3,n3,c3,rfl,-⟩:=ai.aJ.open_;have g0: w.cell? ⟨0,0,none⟩=some (.func (.func 234) #[] #[]):=gI.cell hg 0;have h0:0<w.heap.size:=gI.lt hg;clear ai st hg call hs;go_enter func33,Tryz.ntmps33;go_wp2_with (first
  | (go_at_call 117;refine aB.out.mono ?_;rintro e w1 ⟨cv,mv,fv,rfl,jY⟩))
 refine Ag4 (v:=.tuple #[cv,mv,fv,.int .i64 s]) (by simp[results,Tryz.results33,go_sem]) rfl ⟨cv,mv,fv,by rw[HS.out],jY.out.1,jY.out.2⟩
def Xm{w:Abc}{b:ao}{pv bv tv:Value}{B:Nat}(hB:B<=w.heap.size)(ai:bg w B b pv bv tv)(hg:gI w):
 Aet prog 36 #[.agg #[.int .i64 b.ag,pv,bv,tv]] w (wM w b (qM b)):=by
 have st:Still B w (w.alloc (.cells #[.int .i64 b.ag,pv,bv,tv] 26)):=(Still.refl w).alloc hB _;have call:Aet prog 117 #[.agg #[.int .i64 b.ag,pv,bv,tv],.agg #[.func (.func 236) #[] #[]]] (w.alloc (.cells #[.int .i64 b.ag,pv,bv,tv] 26)) λe w'=>
  ∃cv mv fv,e=.returned (.tuple #[cv,mv,fv,.int .i64 (cj b 0)])/\Hid (lJ w' w.heap.size b.pieces.length (fA b (qM b)) cv mv fv/\Below w.heap.size w w'):=by
  by_cases h:cj b 0=0
  ·refine(RR (w:=w.alloc (.cells #[.int .i64 b.ag,pv,bv,tv] 26)) (B:=B) (KM:=236) (by simp;omega) (ai.still st) (agn (ai.still st) (iy (pq h).1)) h).mono ?_
   rintro e w' ⟨cv,mv,fv,rfl,h1,h2⟩;refine⟨cv,mv,fv,by rw[h],Afl ⟨?_,cU (Aft _ _) h2 (Ad4 _)⟩⟩
   unfold fA;rw[if_pos h];exact h1.base (by simp)
  ·refine(RQ (w:=w.alloc (.cells #[.int .i64 b.ag,pv,bv,tv] 26)) (B:=B) (KM:=236) (by simp;omega) (ai.still st) h).mono ?_
   rintro e w' ⟨rfl,h2⟩;refine⟨_,_,_,rfl,Afl ⟨?_,cU (Aft _ _) h2 (Ad4 _)⟩⟩
   unfold fA;rw[if_neg h];exact⟨rfl,rfl,rfl⟩
 have aB:=Afl call;obtain⟨s,hs⟩:∃s,s=cj b 0:=⟨_,rfl⟩
 rw[<-hs] at aB;have HS:=Afl hs;obtain⟨A1,n1,c1,rfl,-⟩:=ai.pieces.open_;obtain⟨A2,n2,c2,rfl,-⟩:=ai.aF.open_;obtain⟨A3,n3,c3,rfl,-⟩:=ai.aJ.open_;have g0: w.cell? ⟨0,1,none⟩=some (.func (.func 236) #[] #[]):=gI.cell hg 1;have h0:0<w.heap.size:=gI.lt hg;clear ai st hg call hs;go_enter func36,Tryz.ntmps36;go_wp2_with (first
  | (go_at_call 117;refine aB.out.mono ?_;rintro e w1 ⟨cv,mv,fv,rfl,jY⟩))
 refine Ag4 (v:=.tuple #[cv,mv,fv,.int .i64 s]) (by simp[results,Tryz.results36,go_sem]) rfl ⟨cv,mv,fv,by rw[HS.out],jY.out.1,jY.out.2⟩
end Go.Tw
namespace Go.Tw
variable [Go.Tw.aR]
open Go Go.Proofs Go.RowKit
end Go.Tw
namespace Go.Tw
variable [Go.Tw.aR]
open Go Go.Proofs Go.RowKit
def L8{α:Type}{xs ys:List α}(hl:xs.length=ys.length)(h:∀(j:Nat) (x:α),j<xs.length->xs[j]?=some x->ys[j]?=some x):xs=ys:=by
 apply List.ext_getElem?;intro j;by_cases hj:j<xs.length
 ·rw[Af6 hj,h j _ hj (Af6 hj)]
 ·rw[Ah6 (by omega),Ah6 (by omega)]
def GK{xs ys:List Int}{av bv:Value}{w:Abc}{B:Nat}(ha:Row w B 1 cH av xs)(hb:Row w B 1 cH bv ys)(hB:B<=w.heap.size):
 Aet prog 30 #[av,bv] w λe w'=>e=.returned (.bool (decide (xs=ys)))/\Below w.heap.size w w':=by
 obtain⟨A1,n,c1,rfl,e1,h1,eA,r1⟩:=ha.open_;obtain⟨A2,m,c2,rfl,e2,h2,dW,r2⟩:=hb.open_;unfold Aes at eA dW;have E:=Afl (Aee e1 e2);have R1:=Afl r1;have R2:=Afl r2;clear ha hb e1 e2 r1 r2;by_cases fC:n=m
 ·subst fC
  have hq:((n:Int) !=(n:Int))=false:=by simp
  go_enter func30,Tryz.ntmps30;go_wp2;go_loopw [4,5] (λr k wr=>∃i:Nat,i<=n/\k=.int .i64 i/\Hid (∀(j:Nat) (x:Int),j<i->xs[j]?=some x->ys[j]?=some x)/\Hid (Below w.heap.size w wr)) (λ_ k _=>n - (Ahb k).toNat)
  case atStart=>exact⟨0,Agl _,rfl,Afl λj _ hj=>by omega,Afl (Aft _ _)⟩
  case round=>
   obtain⟨i,hi,rfl,bt,cF⟩:=hrel;have st:Still B w wr:=Still.aK cF.out hB;have aI:=cF.out.size;by_cases al:i<n
   ·obtain⟨ad,x,cs,rfl,aC,hx,rfl,-,au⟩:=R1.out i al
    obtain⟨cI,y,jQ,rfl,fV,hy,rfl,-,ie⟩:=R2.out i al;have h0:=cC au st aC rfl;have Mp:=cC ie st fV rfl;rw[Nat.mul_one] at h0 Mp;have q0:(ad.add i).block<wr.heap.size:=by rw[cq];omega
    have WB:(cI.add i).block<wr.heap.size:=by rw[cq];omega
    have HX:=Afl (Aee hx hy);clear hx hy au ie;by_cases hxy:x=y
    ·have aw:(x !=y)=false:=by simp[hxy]
     have pQ:=Afl hxy;clear hxy;go_wp2;go_quiet (fail);go_wp2;go_roundw;case rel=>exact⟨i+1,by omega,by go_num,Afl λj z hj hz=>by
      rcases Agm.1 hj with h|rfl
      ·exact bt.out j z h hz
      ·rw[HX.out.1] at hz;cases hz;rw[HX.out.2,pQ.out],Afl (jq cF.out _)⟩
     case measure=>simp[Ahb];omega
    ·have aw:(x !=y)=true:=by simpa using hxy
     have pQ:=Afl hxy;clear hxy;go_wp2;go_quiet (fail);go_wp2;go_ret;refine⟨b9 ?_,jq cF.out _⟩
     simp only[Agx,decide_eq_false_iff_not];rintro rfl;have:=HX.out.1.symm.trans HX.out.2;exact pQ.out (Aea this)
   ·obtain rfl:i=n:=by omega
    go_wp2;go_ret;refine⟨b9 ?_,cF.out⟩
    have:=L8 (xs:=xs) (ys:=ys) (by rw[E.out.1,E.out.2]) λj x hj hx=>bt.out j x (by rw[E.out.1] at hj;exact hj) hx
    simp[this]
 ·have hq:((n:Int) !=(m:Int))=true:=by simp;omega
  have HQ:=Afl fC;clear fC;go_enter func30,Tryz.ntmps30;go_wp2;go_ret;refine⟨b9 ?_,Aft _ _⟩
  simp only[Agx,decide_eq_false_iff_not];rintro rfl;exact HQ.out (E.out.1.symm.trans E.out.2)
def alX:Tryz.prog.stoodInHeld 37=false:=by decide+kernel
def alY:Tryz.prog.stoodInHeld 56=false:=by decide+kernel
def adl:Tryz.prog.eqGuardType Tryz.prog.depth 37=false:=by decide+kernel
def adm:Tryz.prog.eqGuardType Tryz.prog.depth 56=false:=by decide+kernel
def abP(w:Abc)(a b c d:Int):(Op.equalIn 10000 37 (.agg #[.int .i64 a,.int .i64 b]) (.agg #[.int .i64 c,.int .i64 d])).run prog w=.ok (a==c && b==d) w:=by
 have hu:=U Tryz.underlying37;rw[run_equalIn_struct w 9999 37 _ _ (by simp[Ag9,hu]) (by rw[XK];exact alX)]
 have h3:=U Tryz.underlying3;have hf:(prog.fieldsOf 37).toList=[{name:= "Low",type:=3,offset:=0,embedded:=false,tag:= "",pkgPath:= "",byteOffset:=0},{name:= "High",type:=3,offset:=1,embedded:=false,tag:= "",pkgPath:= "",byteOffset:=8}]:=by simp[Ag9,hu]
 rw[hf];cases h1:(a==c)<;>cases h2:(b==d)<;>simp[Op.eqFields,go_sem,h1,h2,run_equalIn_int,h3]
def abQ(w:Abc)(a b c d:Int):(Op.equalIn 10000 56 (.agg #[.int .i64 a,.int .i64 b]) (.agg #[.int .i64 c,.int .i64 d])).run prog w=.ok (a==c && b==d) w:=by
 have hu:=U Tryz.underlying56;rw[run_equalIn_struct w 9999 56 _ _ (by simp[Ag9,hu]) (by rw[XK];exact alY)]
 have h3:=U Tryz.underlying3;have hf:(prog.fieldsOf 56).toList=[{name:= "Board",type:=3,offset:=0,embedded:=false,tag:= "",pkgPath:= "",byteOffset:=0},{name:= "From",type:=3,offset:=1,embedded:=false,tag:= "",pkgPath:= "",byteOffset:=8}]:=by simp[Ag9,hu]
 rw[hf];cases h1:(a==c)<;>cases h2:(b==d)<;>simp[Op.eqFields,go_sem,h1,h2,run_equalIn_int,h3]
def Wd(w:Abc)(a b c d:Int):(binOp .neq 37 (.agg #[.int .i64 a,.int .i64 b]) (.agg #[.int .i64 c,.int .i64 d])).run prog w=.ok (.bool (!(a==c && b==d))) w:=by
 rw[run_neq_struct,abP];rfl
def We(w:Abc)(a b c d:Int):(binOp .neq 56 (.agg #[.int .i64 a,.int .i64 b]) (.agg #[.int .i64 c,.int .i64 d])).run prog w=.ok (.bool (!(a==c && b==d))) w:=by
 rw[run_neq_struct,abQ];rfl
def Tx(w:Abc)(op:BinOp)(x y:Abm)(xs ys:Array Value):(eqGuard op 37 x y (.agg xs) (.agg ys)).run prog w=.ok () w:=run_eqGuard_agg w op 37 x y xs ys (by simpa using adl)
def Ty(w:Abc)(op:BinOp)(x y:Abm)(xs ys:Array Value):(eqGuard op 56 x y (.agg xs) (.agg ys)).run prog w=.ok () w:=run_eqGuard_agg w op 56 x y xs ys (by simpa using adm)
def abR{xs ys:List Span}{av bv:Value}{w:Abc}{B:Nat}(ha:Row w B 2 Span.R av xs)(hb:Row w B 2 Span.R bv ys)(hB:B<=w.heap.size):
 Aet prog 75 #[av,bv] w λe w'=>e=.returned (.bool (decide (xs=ys)))/\Below w.heap.size w w':=by
 obtain⟨A1,n,c1,rfl,e1,h1,eA,r1⟩:=ha.open_;obtain⟨A2,m,c2,rfl,e2,h2,dW,r2⟩:=hb.open_;unfold Aes at eA dW;have E:=Afl (Aee e1 e2);have R1:=Afl r1;have R2:=Afl r2;clear ha hb e1 e2 r1 r2;by_cases fC:n=m
 ·subst fC
  have hq:((n:Int) !=(n:Int))=false:=by simp
  have qn:=Wd;have qg:=Tx;go_enter func75,Tryz.ntmps75;go_wp2;go_loopw [4,5] (λr k wr=>∃i:Nat,i<=n/\k=.int .i64 i/\Hid (∀(j:Nat) (x:Span),j<i->xs[j]?=some x->ys[j]?=some x)/\Hid (Below w.heap.size w wr)) (λ_ k _=>n - (Ahb k).toNat)
  case atStart=>exact⟨0,Agl _,rfl,Afl λj _ hj=>by omega,Afl (Aft _ _)⟩
  case round=>
   obtain⟨i,hi,rfl,bt,cF⟩:=hrel;have st:Still B w wr:=Still.aK cF.out hB;have aI:=cF.out.size;by_cases al:i<n
   ·obtain⟨ad,x,cs,rfl,aC,hx,rfl,-,au⟩:=R1.out i al
    obtain⟨cI,y,jQ,rfl,fV,hy,rfl,-,ie⟩:=R2.out i al;have h0:=cC au st aC rfl;have Fg:=bK au st aC 0 rfl;have Mp:=cC ie st fV rfl;have adr:=bK ie st fV 0 rfl;have q0:(ad.add (i * 2)).block<wr.heap.size:=by rw[cq];omega
    have WB:(cI.add (i * 2)).block<wr.heap.size:=by rw[cq];omega
    have HX:=Afl (Aee hx hy);clear hx hy au ie;by_cases hxy:x=y
    ·have aw:(x.lo==y.lo && x.hi==y.hi)=true:=by simp[hxy]
     have pQ:=Afl hxy;clear hxy;go_wp2;go_quiet (fail);go_wp2;go_roundw;case rel=>exact⟨i+1,by omega,by go_num,Afl λj z hj hz=>by
      rcases Agm.1 hj with h|rfl
      ·exact bt.out j z h hz
      ·rw[HX.out.1] at hz;cases hz;rw[HX.out.2,pQ.out],Afl (jq cF.out _)⟩
     case measure=>simp[Ahb];omega
    ·have aw:(x.lo==y.lo && x.hi==y.hi)=false:=by
      rw[Bool.eq_false_iff];intro h;simp only[Bool.and_eq_true,beq_iff_eq] at h;exact hxy (by cases x;cases y;simp_all)
     have pQ:=Afl hxy;clear hxy;go_wp2;go_quiet (fail);go_wp2;go_ret;refine⟨b9 ?_,jq cF.out _⟩
     simp only[Agx,decide_eq_false_iff_not];rintro rfl;have:=HX.out.1.symm.trans HX.out.2;exact pQ.out (Aea this)
   ·obtain rfl:i=n:=by omega
    go_wp2;go_ret;refine⟨b9 ?_,cF.out⟩
    have:=L8 (xs:=xs) (ys:=ys) (by rw[E.out.1,E.out.2]) λj x hj hx=>bt.out j x (by rw[E.out.1] at hj;exact hj) hx
    simp[this]
 ·have hq:((n:Int) !=(m:Int))=true:=by simp;omega
  have HQ:=Afl fC;clear fC;have qn:=Wd;have qg:=Tx;go_enter func75,Tryz.ntmps75;go_wp2;go_ret;refine⟨b9 ?_,Aft _ _⟩
  simp only[Agx,decide_eq_false_iff_not];rintro rfl;exact HQ.out (E.out.1.symm.trans E.out.2)
def PF{xs ys:List Cut}{av bv:Value}{w:Abc}{B:Nat}(ha:Row w B 2 Cut.R av xs)(hb:Row w B 2 Cut.R bv ys)(hB:B<=w.heap.size):
 Aet prog 35 #[av,bv] w λe w'=>e=.returned (.bool (decide (xs=ys)))/\Below w.heap.size w w':=by
 obtain⟨A1,n,c1,rfl,e1,h1,eA,r1⟩:=ha.open_;obtain⟨A2,m,c2,rfl,e2,h2,dW,r2⟩:=hb.open_;unfold Aes at eA dW;have E:=Afl (Aee e1 e2);have R1:=Afl r1;have R2:=Afl r2;clear ha hb e1 e2 r1 r2;by_cases fC:n=m
 ·subst fC
  have hq:((n:Int) !=(n:Int))=false:=by simp
  have qn:=We;have qg:=Ty;go_enter func35,Tryz.ntmps35;go_wp2;go_loopw [4,5] (λr k wr=>∃i:Nat,i<=n/\k=.int .i64 i/\Hid (∀(j:Nat) (x:Cut),j<i->xs[j]?=some x->ys[j]?=some x)/\Hid (Below w.heap.size w wr)) (λ_ k _=>n - (Ahb k).toNat)
  case atStart=>exact⟨0,Agl _,rfl,Afl λj _ hj=>by omega,Afl (Aft _ _)⟩
  case round=>
   obtain⟨i,hi,rfl,bt,cF⟩:=hrel;have st:Still B w wr:=Still.aK cF.out hB;have aI:=cF.out.size;by_cases al:i<n
   ·obtain⟨ad,x,cs,rfl,aC,hx,rfl,-,au⟩:=R1.out i al
    obtain⟨cI,y,jQ,rfl,fV,hy,rfl,-,ie⟩:=R2.out i al;have h0:=cC au st aC rfl;have Fg:=bK au st aC 0 rfl;have Mp:=cC ie st fV rfl;have adr:=bK ie st fV 0 rfl;have q0:(ad.add (i * 2)).block<wr.heap.size:=by rw[cq];omega
    have WB:(cI.add (i * 2)).block<wr.heap.size:=by rw[cq];omega
    have HX:=Afl (Aee hx hy);clear hx hy au ie;by_cases hxy:x=y
    ·have aw:(x.bp==y.bp && x.from_==y.from_)=true:=by simp[hxy]
     have pQ:=Afl hxy;clear hxy;go_wp2;go_quiet (fail);go_wp2;go_roundw;case rel=>exact⟨i+1,by omega,by go_num,Afl λj z hj hz=>by
      rcases Agm.1 hj with h|rfl
      ·exact bt.out j z h hz
      ·rw[HX.out.1] at hz;cases hz;rw[HX.out.2,pQ.out],Afl (jq cF.out _)⟩
     case measure=>simp[Ahb];omega
    ·have aw:(x.bp==y.bp && x.from_==y.from_)=false:=by
      rw[Bool.eq_false_iff];intro h;simp only[Bool.and_eq_true,beq_iff_eq] at h;exact hxy (by cases x;cases y;simp_all)
     have pQ:=Afl hxy;clear hxy;go_wp2;go_quiet (fail);go_wp2;go_ret;refine⟨b9 ?_,jq cF.out _⟩
     simp only[Agx,decide_eq_false_iff_not];rintro rfl;have:=HX.out.1.symm.trans HX.out.2;exact pQ.out (Aea this)
   ·obtain rfl:i=n:=by omega
    go_wp2;go_ret;refine⟨b9 ?_,cF.out⟩
    have:=L8 (xs:=xs) (ys:=ys) (by rw[E.out.1,E.out.2]) λj x hj hx=>bt.out j x (by rw[E.out.1] at hj;exact hj) hx
    simp[this]
 ·have hq:((n:Int) !=(m:Int))=true:=by simp;omega
  have HQ:=Afl fC;clear fC;have qn:=We;have qg:=Ty;go_enter func35,Tryz.ntmps35;go_wp2;go_ret;refine⟨b9 ?_,Aft _ _⟩
  simp only[Agx,decide_eq_false_iff_not];rintro rfl;exact HQ.out (E.out.1.symm.trans E.out.2)
def Bc(w:Abc)(n:Int):Aet prog 50 #[.int .i64 n] w λe w'=>e=.returned (.agg #[.int .i64 n,.int .i64 n])/\w'=w.alloc (.cells #[.int .i64 n,.int .i64 n] 37):=by
 go_enter func50,Tryz.ntmps50;go_wp2;refine Ag4 (v:=.agg #[.int .i64 n,.int .i64 n]) (by simp[results,Tryz.results50,go_sem]) rfl ⟨rfl,rfl⟩
def P8(w:Abc)(a b:Int):Aet prog 67 #[.int .i64 a,.int .i64 b] w λe w'=>e=.returned (.agg #[.int .i64 a,.int .i64 b])/\w'=w.alloc (.cells #[.int .i64 a,.int .i64 b] 37):=by
 go_enter func67,Tryz.ntmps67;go_wp2;refine Ag4 (v:=.agg #[.int .i64 a,.int .i64 b]) (by simp[results,Tryz.results67,go_sem]) rfl ⟨rfl,rfl⟩
def di(w:Abc)(a b:Int):Aet prog 66 #[.int .i64 a,.int .i64 b] w λe w'=>e=.returned (.agg #[.int .i64 a,.int .i64 b])/\w'=w.alloc (.cells #[.int .i64 a,.int .i64 b] 56):=by
 go_enter func66,Tryz.ntmps66;go_wp2;refine Ag4 (v:=.agg #[.int .i64 a,.int .i64 b]) (by simp[results,Tryz.results66,go_sem]) rfl ⟨rfl,rfl⟩
def abb(w:Abc):Aet prog 95 #[] w λe w'=>∃g,e=.returned (.slice (some ⟨g,0,none⟩) 3 3)/\w.heap.size<=g/\Bk w' g 56 #[.int .i64 1,.int .i64 0,.int .i64 0,.int .i64 0,.int .i64 0,.int .i64 4]/\Below w.heap.size w w':=by
 go_enter func95,Tryz.ntmps95;go_wp2_with (first
  | (go_at_call 66;refine(di _ _ _).mono ?_;rintro e w1 ⟨rfl,rfl⟩))
 go_ret;refine⟨w.heap.size+1+1+1,rfl,by omega,Bk.cG (by simp) _ _,?_⟩
 exact((((Aft _ _).alloc (Ad4 _) _).alloc (by simp) _).alloc (by simp;omega) _).alloc (by simp;omega) _
def It:ByteArray:={data:=#[107,101,101,108]}
def Iu:ByteArray:={data:=#[114,105,98]}
def Is:ByteArray:={data:=#[97,114,109]}
def EA:ByteArray:={data:=#[101,108,109]}
def EC:ByteArray:={data:=#[111,97,107]}
structure wL(w:Abc)(base gp gb gk gt gl:Nat):Prop where
 p:Bk w gp 72 #[.string It,.int .i64 4,.int .i64 5,.int .i64 0,.string Iu,.int .i64 3,.int .i64 3,.int .i64 1,.string Is,.int .i64 2,.int .i64 3,.int .i64 0]
 b:Bk w gb 59 #[.string EA,.int .i64 8,.slice (some ⟨gk,0,none⟩) 1 1,.string EC,.int .i64 6,.slice none 0 0]
 k:Bk w gk 37 #[.int .i64 3,.int .i64 3]
 t:Bk w gt 95 #[.slice (some ⟨gl,0,none⟩) 2 2,.int .i64 7,.int .i64 7]
 l:Bk w gl 3 #[.int .i64 0,.int .i64 2]
 hp:base<=gp
 hb:base<=gb
 hk:base<=gk
 ht:base<=gt
 hl:base<=gl
def acb(w:Abc)(e:Ag1)(w':Abc):Prop:=
 ∃gp gb gk gt gl,e=.returned (.agg #[.int .i64 1,.slice (some ⟨gp,0,none⟩) 3 3,.slice (some ⟨gb,0,none⟩) 2 2,.slice (some ⟨gt,0,none⟩) 1 1])/\wL w' w.heap.size gp gb gk gt gl/\Below w.heap.size w w'
def acn(w:Abc):Aet prog 94 #[] w (acb w):=by
 go_enter func94,Tryz.ntmps94;go_wp2_with (first
  | (go_at_call 67;refine(P8 _ _ _).mono ?_;rintro e w1 ⟨rfl,rfl⟩)
  | (go_at_call 50;refine(Bc _ _).mono ?_;rintro e w1 ⟨rfl,rfl⟩))
 refine Ag4 (v:=.agg #[.int .i64 1,.slice (some ⟨w.heap.size+1+1+1+1,0,none⟩) 3 3,.slice (some ⟨w.heap.size+1+1+1+1+1+1+1,0,none⟩) 2 2,.slice (some ⟨w.heap.size+1+1+1+1+1+1+1+1+1+1,0,none⟩) 1 1]) (by simp[results,Tryz.results94,go_sem]) rfl ?_
 refine⟨_,_,w.heap.size+1+1+1+1+1+1,_,w.heap.size+1+1+1+1+1+1+1+1,rfl,⟨?_,?_,?_,?_,?_,by omega,by omega,by omega,by omega,by omega⟩,?_⟩
 ·repeat first|exact Bk.cG (by simp) _ _|refine Bk.alloc ?_ _
 ·repeat first|exact Bk.cG (by simp) _ _|refine Bk.alloc ?_ _
 ·repeat first|exact Bk.cG (by simp) _ _|refine Bk.alloc ?_ _
 ·repeat first|exact Bk.cG (by simp) _ _|refine Bk.alloc ?_ _
 ·repeat first|exact Bk.cG (by simp) _ _|refine Bk.alloc ?_ _
 ·repeat first|exact Aft _ _|refine Ahg ?_ (by simp;try omega) _
def aW:ao:=⟨1,[⟨It,⟨4,5⟩,0⟩,⟨Iu,⟨3,3⟩,1⟩,⟨Is,⟨2,3⟩,0⟩],[⟨EA,8,[⟨3,3⟩]⟩,⟨EC,6,[]⟩],[⟨[0,2],⟨7,7⟩⟩]⟩
def dQ:List Cut:=[⟨1,0⟩,⟨0,0⟩,⟨0,4⟩]
def yX{α:Type}{w:Abc}{B sz g e:Nat}{R:α->List Value->Prop}{xs:List α}{cs:Array Value}{oX:List (List Value)}(hb:Bk w g e cs)(hg:g<B)(aw:xs≠ [])(hlen:oX.length=xs.length)(hx:xs.length<=1000)
 (hR:∀(i:Nat) (x:α) (c:List Value),xs[i]?=some x->oX[i]?=some c->R x c/\c.length=sz)(hc:∀(i:Nat) (c:List Value),oX[i]?=some c->∀(j:Nat) (u:Value),c[j]?=some u->cs[i * sz+j]?=some u){c:Nat}(M6:xs.length<=c)(kZ:c<=1000):Row w B sz R (.slice (some ⟨g,0,none⟩) xs.length c) xs:=by
 refine⟨_,c,rfl,M6,by unfold Aes;omega,λ_=>⟨⟨g,0,none⟩,rfl,hg,λi x hi=>?_⟩⟩
 have qp:i<xs.length:=(Af7.1 hi).1
 obtain⟨c,T6⟩:∃c,oX[i]?=some c:=⟨oX[i]'(by omega),Af6 _⟩
 obtain⟨h1,h2⟩:=hR i x c hi T6;refine⟨c,h1,h2,λj u hu=>?_⟩
 have:=hc i c T6 j u hu;rw[nu];unfold World.cell?;rw[show w.heap[(⟨g,i * sz+j,none⟩:Addr).block]?=some (.cells cs e) from hb]
 simpa using this
def kY{w:Abc}{base gp gb gk gt gl:Nat}(h:wL w base gp gb gk gt gl):bg w w.heap.size aW (.slice (some ⟨gp,0,none⟩) 3 3) (.slice (some ⟨gb,0,none⟩) 2 2) (.slice (some ⟨gt,0,none⟩) 1 1):=by
 have hk:Row w w.heap.size 2 Span.R (.slice (some ⟨gk,0,none⟩) 1 1) [⟨3,3⟩]:=yX (xs:=[(⟨3,3⟩:Span)]) (sz:=2) (R:=Span.R) (oX:=[[.int .i64 3,.int .i64 3]]) h.k h.k.lt (by simp) rfl (by simp) (λi x c hx hc=>by
  match i with
  |0=>cases hx;cases hc;exact⟨rfl,rfl⟩
  |i+1=>simp at hx) (λi c hc j u hu=>by
  match i with
  |0=>
   cases hc;match j with
   |0=>exact hu
   |1=>exact hu
   |j+2=>simp at hu
  |i+1=>simp at hc) (c:=1) (by simp) (by omega)
 have hl:Row w w.heap.size 1 cH (.slice (some ⟨gl,0,none⟩) 2 2) [0,2]:=yX (xs:=[(0:Int),2]) (sz:=1) (R:=cH) (oX:=[[.int .i64 0],[.int .i64 2]]) h.l h.l.lt (by simp) rfl (by simp) (λi x c hx hc=>by
  match i with
  |0=>cases hx;cases hc;exact⟨rfl,rfl⟩
  |1=>cases hx;cases hc;exact⟨rfl,rfl⟩
  |i+2=>simp at hx) (λi c hc j u hu=>by
  match i with
  |0=>
   cases hc;match j with
   |0=>exact hu
   |j+1=>simp at hu
  |1=>
   cases hc;match j with
   |0=>exact hu
   |j+1=>simp at hu
  |i+2=>simp at hc) (c:=2) (by simp) (by omega)
 refine⟨?_,?_,?_⟩
 ·refine yX (xs:=aW.pieces) (sz:=4) (R:=Piece.R) (oX:=[[.string It,.int .i64 4,.int .i64 5,.int .i64 0],[.string Iu,.int .i64 3,.int .i64 3,.int .i64 1],[.string Is,.int .i64 2,.int .i64 3,.int .i64 0]]) h.p h.p.lt (by simp[aW]) rfl (by simp[aW]) (λi x c hx hc=>?_) (λi c hc j u hu=>?_) (c:=3) (by simp[aW]) (by omega)
  ·match i with
   |0=>cases hx;cases hc;exact⟨⟨rfl,by decide⟩,rfl⟩
   |1=>cases hx;cases hc;exact⟨⟨rfl,by decide⟩,rfl⟩
   |2=>cases hx;cases hc;exact⟨⟨rfl,by decide⟩,rfl⟩
   |i+3=>simp[aW] at hx
  ·match i with
   |0=>
    cases hc;match j with
    |0=>exact hu
    |1=>exact hu
    |2=>exact hu
    |3=>exact hu
    |j+4=>simp at hu
   |1=>
    cases hc;match j with
    |0=>exact hu
    |1=>exact hu
    |2=>exact hu
    |3=>exact hu
    |j+4=>simp at hu
   |2=>
    cases hc;match j with
    |0=>exact hu
    |1=>exact hu
    |2=>exact hu
    |3=>exact hu
    |j+4=>simp at hu
   |i+3=>simp at hc
 ·refine yX (xs:=aW.aF) (sz:=3) (R:=bR.R w w.heap.size) (oX:=[[.string EA,.int .i64 8,.slice (some ⟨gk,0,none⟩) 1 1],[.string EC,.int .i64 6,.slice none 0 0]]) h.b h.b.lt (by simp[aW]) rfl (by simp[aW]) (λi x c hx hc=>?_) (λi c hc j u hu=>?_) (c:=2) (by simp[aW]) (by omega)
  ·match i with
   |0=>cases hx;cases hc;exact⟨⟨_,rfl,by decide,hk⟩,rfl⟩
   |1=>cases hx;cases hc;exact⟨⟨_,rfl,by decide,Row.nil⟩,rfl⟩
   |i+2=>simp[aW] at hx
  ·match i with
   |0=>
    cases hc;match j with
    |0=>exact hu
    |1=>exact hu
    |2=>exact hu
    |j+3=>simp at hu
   |1=>
    cases hc;match j with
    |0=>exact hu
    |1=>exact hu
    |2=>exact hu
    |j+3=>simp at hu
   |i+2=>simp at hc
 ·refine yX (xs:=aW.aJ) (sz:=3) (R:=Tape.R w w.heap.size) (oX:=[[.slice (some ⟨gl,0,none⟩) 2 2,.int .i64 7,.int .i64 7]]) h.t h.t.lt (by simp[aW]) rfl (by simp[aW]) (λi x c hx hc=>?_) (λi c hc j u hu=>?_) (c:=1) (by simp[aW]) (by omega)
  ·match i with
   |0=>cases hx;cases hc;exact⟨⟨_,rfl,hl⟩,rfl⟩
   |i+1=>simp[aW] at hx
  ·match i with
   |0=>
    cases hc;match j with
    |0=>exact hu
    |1=>exact hu
    |2=>exact hu
    |j+3=>simp at hu
   |i+1=>simp at hc
def aa9{w:Abc}{g:Nat}(h:Bk w g 56 #[.int .i64 1,.int .i64 0,.int .i64 0,.int .i64 0,.int .i64 0,.int .i64 4]):Row w w.heap.size 2 Cut.R (.slice (some ⟨g,0,none⟩) 3 3) dQ:=by
 refine yX (xs:=dQ) (sz:=2) (R:=Cut.R) (oX:=[[.int .i64 1,.int .i64 0],[.int .i64 0,.int .i64 0],[.int .i64 0,.int .i64 4]]) h h.lt (by simp[dQ]) rfl (by simp[dQ]) (λi x c hx hc=>?_) (λi c hc j u hu=>?_) (c:=3) (by simp[dQ]) (by omega)
 ·match i with
  |0=>cases hx;cases hc;exact⟨rfl,rfl⟩
  |1=>cases hx;cases hc;exact⟨rfl,rfl⟩
  |2=>cases hx;cases hc;exact⟨rfl,rfl⟩
  |i+3=>simp[dQ] at hx
 ·match i with
  |0=>
   cases hc;match j with
   |0=>exact hu
   |1=>exact hu
   |j+2=>simp at hu
  |1=>
   cases hc;match j with
   |0=>exact hu
   |1=>exact hu
   |j+2=>simp at hu
  |2=>
   cases hc;match j with
   |0=>exact hu
   |1=>exact hu
   |j+2=>simp at hu
  |i+3=>simp at hc
def Span.vs(x:Span):List Value:=[.int .i64 x.lo,.int .i64 x.hi]
def j5(out:List Span)(x:Span):List Span:=match out.getLast? with
 |some y=>if y.hi+1=x.lo then out.dropLast++ [⟨y.lo,x.hi⟩] else out++ [x]
 |none=>out++ [x]
def fq(l:List Span):List Span:=l.foldl j5 []
def agr{l:List Span}{i:Nat}{x:Span}(h:l[i]?=some x):fq (l.take (i+1))=j5 (fq (l.take i)) x:=by
 unfold fq;rw[oJ h,List.foldl_append];rfl
def IG{w:Abc}{base:Nat}{e:Aa8}{sz n g cap k:Nat}{xs:List Value}{u:Value}(h:w.ownsRow base e sz (.slice (some ⟨g,0,none⟩) n cap) n xs)(hk:k<n * sz):(w.setCell ⟨g,k,none⟩ u).ownsRow base e sz (.slice (some ⟨g,0,none⟩) n cap) n (xs.set k u):=by
 refine⟨by rw[List.length_set];exact h.1,.inr ?_⟩
 rcases h.2 with⟨h0,_⟩ | ⟨g',zd,cur,h1,h2,h3,h4,h5,h6,h7⟩
 ·cases h0
 ·cases h1
  refine⟨g,cap,cur.setIfInBounds k u,rfl,h2,?_,h4,h5,by simp[h6],?_⟩
  ·have:=Go.Sim.Bx (a:=⟨g,k,none⟩) (v:=u) h3 rfl g
   simpa using this
  ·rw[<-h7]
   simp[List.take_set]
def Xr(l:List Span):(l.flatMap Span.vs).length=l.length * 2:=by
 induction l with
 |nil=>rfl
 |cons a l ih=>simp[Span.vs,ih];omega
def agP{out:List Span}{y x:Span}(h: out.getLast? =some y):(out.flatMap Span.vs).set ((out.length - 1) * 2+1) (.int .i64 x.hi)=(out.dropLast++ [(⟨y.lo,x.hi⟩:Span)]).flatMap Span.vs:=by
 have aw:out≠ []:=by rintro rfl;cases h
 have e:out=out.dropLast++ [y]:=by
  have:=Ah7 aw;rw[Ah8 aw] at h
  cases h;exact this.symm
 obtain⟨d,hd⟩:∃d,d=out.dropLast:=⟨_,rfl⟩
 rw[<-hd] at e |-
 subst e;rw[Ahv,Ahv,Ahx];have hl:=Xr d;have e2:(d.length+ [y].length - 1) * 2+1=(d.flatMap Span.vs).length+1:=by rw[hl];simp
 rw[e2,List.set_append,if_neg (by omega),Nat.add_sub_cancel_left]
 simp[Span.vs]
def agO{out:List Span}{y:Span}(h: out.getLast? =some y):(out.flatMap Span.vs)[(out.length - 1) * 2+1]?=some (.int .i64 y.hi):=by
 have aw:out≠ []:=by rintro rfl;cases h
 have e:out=out.dropLast++ [y]:=by
  have:=Ah7 aw;rw[Ah8 aw] at h
  cases h;exact this.symm
 obtain⟨d,hd⟩:∃d,d=out.dropLast:=⟨_,rfl⟩
 rw[<-hd] at e;subst e;rw[Ahv,Ahx];have hl:=Xr d;rw[Ah1 (by rw[hl];simp),hl]
 simp[Span.vs]
def VE:(prog.info? 37).map (λi=>(i.zero,i.size,i.bytes))=some (some (.agg #[.int .i64 0,.int .i64 0]),2,16):=by
 rw[pB];kernel_rfl
def rl(l:List Span):Prop:=∀x∈l,-1000<=x.lo/\x.lo<=1000/\ -1000<=x.hi/\x.hi<=1000
def agt{out:List Span}{x:Span}(h:rl out)(hx:rl [x]):rl (j5 out x):=by
 have hx:=hx x (by simp)
 unfold j5;split
 ·rename_i y hy
  have hy:=h y (Ah9 hy);split
  ·intro z hz
   rcases Af5.1 hz with hz|hz
   ·exact h z (List.dropLast_subset _ hz)
   ·simp at hz;subst hz;exact⟨hy.1,hy.2.1,hx.2.2⟩
  ·intro z hz
   rcases Af5.1 hz with hz|hz
   ·exact h z hz
   ·simp at hz;subst hz;exact hx
 ·intro z hz
  rcases Af5.1 hz with hz|hz
  ·exact h z hz
  ·simp at hz;subst hz;exact hx
def agq{l:List Span}(h:rl l):rl (fq l):=by
 have key:∀(l out:List Span),rl out->rl l->rl (l.foldl j5 out):=by
  intro l;induction l with
  |nil=>intro out h _;exact h
  |cons a l ih=>exactλout h k=>ih _ (agt h λz hz=>by simp at hz;subst hz;exact k z (by simp)) λz hz=>k z (by simp[hz])
 exact key l [] (λz hz=>by simp at hz) h
def ags(out:List Span)(x:Span):(j5 out x).length<=out.length+1:=by
 unfold j5;split
 ·split<;>simp<;>omega
 ·simp
def agp(l:List Span):(fq l).length<=l.length:=by
 have key:∀(l out:List Span),(l.foldl j5 out).length<=out.length+l.length:=by
  intro l;induction l with
  |nil=>intro out;simp
  |cons a l ih=>intro out;have:=ih (j5 out a);have:=ags out a;simp only[List.foldl_cons,Aho];omega
 have:=key l [];simpa [fq] using this
def II{w:Abc}{base:Nat}{e:Aa8}{sz n:Nat}{v:Value}{xs:List Value}(h:w.ownsRow base e sz v n xs):∃A c,v=.slice A n c/\(0<n->∃g,A=some ⟨g,0,none⟩/\base<=g/\g<w.heap.size/\∃cur,w.heap[g]?=some (.cells cur e (0,0)))/\n<=c/\c<=Aes:=by
 rcases h.2 with⟨rfl,rfl⟩ | ⟨g,cap,cur,rfl,h2,h3,h4,h5,_⟩
 ·exact⟨none,0,rfl,λh=>absurd h (by omega),Ad4 _,Agl _⟩
 ·exact⟨_,_,rfl,λ_=>⟨g,rfl,h2,(Aaf.1 h3).1,cur,h3⟩,h4,h5⟩
def Pa{w:Abc}{base:Nat}{e:Aa8}{sz n:Nat}{v:Value}{xs:List Value}(h:w.ownsRow base e sz v n xs)(k:Nat):(w.drewN k).ownsRow base e sz v n xs:=h
def join{l:List Span}{v:Value}{w:Abc}{B:Nat}(hv:Row w B 2 Span.R v l)(hB:B<=w.heap.size)(xv:l.length<=1000)(hs:rl l):
 Aet prog 133 #[v] w λe w'=>∃u,e=.returned u/\w'.ownsRow w.heap.size 37 2 u (fq l).length ((fq l).flatMap Span.vs)/\Below w.heap.size w w':=by
 obtain⟨i0,cR,cT,aN,ba⟩:=Agy VE;obtain⟨A,n,c,rfl,hl,dX,cX,hr⟩:=hv.open_;have hn:n<=1000:=by omega
 unfold Aes at cX;have nh:=Afl hl;have H2:=Afl hr;have HS:=Afl hs;have HI:=Afl (Aee cR (Aee cT (Aee aN ba)));clear hl hr hv xv cR cT aN ba hs;go_enter func133,Tryz.ntmps133;go_wp2;go_loopw [3,5,6,9] (λo p q k wr=>∃i:Nat,i<=n/\k=.int .i64 i/\Hid (wr.ownsRow w.heap.size 37 2 o (fq (l.take i)).length ((fq (l.take i)).flatMap Span.vs))/\Below w.heap.size w wr) (λ_ _ _ k _=>n - (Ahb k).toNat)
 case atStart=>exact⟨0,Agl _,rfl,Afl ⟨by simp[fq],.inl ⟨rfl,by simp[fq]⟩⟩,Aft _ _⟩
 case round=>
  obtain⟨i,hi,rfl,aG,hb⟩:=hrel;have HB:=Afl hb;have aI:=hb.size;by_cases al:i<n
  ·obtain⟨ad,x,cs,rfl,aC,hx,rfl,-,au⟩:=H2.out i al
   have st:Still B w wr:=Still.aK hb hB;have h0:=cC au st aC rfl;have h1:=bK au st aC 0 rfl;have q0:(ad.add (i * 2)).block<wr.heap.size:=by rw[cq];omega
   have HX:=Afl hx;have hxs:=HS.out x (Agd hx);have Ut:=agq (l:=l.take i) λz hz=>HS.out z (List.mem_of_mem_take hz)
   have nE:(fq (l.take i)).length<=i:=Ad5 (agp _) (by simp;omega)
   have NX:=Afl (agr hx);clear hb hx au st;obtain⟨m,hm⟩:∃m,m=(fq (l.take i)).length:=⟨_,rfl⟩
   rw[<-hm] at aG nE;have HM:=Afl hm;clear hm;obtain⟨A9,c9,rfl,GX,py,MZ⟩:=II aG.out;unfold Aes at MZ;have YG:=Afl Ut;clear Ut;rcases Nat.eq_zero_or_pos m with DN|rO
   ·subst DN
    clear GX;have HO:=Afl aG.out;have oR:Hid (((j5 (fq (l.take i)) x).flatMap Span.vs=(fq (l.take i)).flatMap Span.vs++ [.int .i64 x.lo,.int .i64 x.hi])/\(j5 (fq (l.take i)) x).length=0+1):=Afl (by
     rw[Aia HM.out.symm];exact⟨rfl,rfl⟩)
    clear aG;go_wp2;go_quiet (fail);go_wp2_with (first
     | (at_builtin
        refine Agz _ rfl (.tmp 36) (.tmp 38) 57 rfl w.heap.size 37 i0 (.agg #[.int .i64 0,.int .i64 0]) 2 16 (U Tryz.underlying57) HI.out.1 HI.out.2.1 HI.out.2.2.1 HI.out.2.2.2 rfl (by decide) _ _ _ rfl (Ahl (Pa (Ahl HO.out _) nq) _) ⟨wr.heap.size+1,0,none⟩ 1 1 [.int .i64 x.lo,.int .i64 x.hi] rfl rfl ?c1 ?c2 ?c3 ?c4 ?c5 ?_
        case c1=>(intro j u hu;match j,hu with|0,hu=>(simp at hu;subst hu;simp[go_sem,Ag6]) |1,hu=>(simp at hu;subst hu;simp[go_sem,Ag6]))
        case c2=>simp[Value.oneCell']
        case c3=>(simp only[Aes];omega)
        case c4=>omega
        case c5=>(simp;omega)
        intro v' w1 cK dT _;have gW:=Afl cK;have gV:=Afl dT;clear cK dT))
    go_roundw;case rel=>exact⟨i+1,by omega,by go_num,Afl (by rw[NX.out,oR.out.1,oR.out.2];exact gW.out),
     ((HB.out.trans (jq ((Aft _ _).alloc aI _) nq)).trans ((Aft _ _).alloc (by simp;omega) _)).grown gV.out (by simp;omega) (λk hk=>ei HO.out k hk)⟩
    case measure=>simp[Ahb];omega
   ·obtain⟨k,rfl⟩:∃k,m=k+1:=⟨m - 1,by omega⟩
    obtain⟨g9,rfl,hg9,aoh,cur,tB⟩:=GX (by omega)
    clear rO;have vE:Adf.wrap (k:Int)=k:=by rw[IntWalk.i64_left];exact IntWalk.wrap64_in _ (by omega)
    obtain⟨y,hy⟩:∃y,(fq (l.take i)).getLast? =some y:=by
     cases e:(fq (l.take i)).getLast? with
     |some y=>exact⟨y,rfl⟩
     |none=>
      rw[List.getLast?_eq_none_iff.1 e] at HM
      exact absurd HM.out (by simp)
    have hys:=YG.out y (Ah9 hy);have g1: wr.cell? ⟨g9,k * 2+1,none⟩=some (.int .i64 y.hi):=by
     have h1:=agO hy;rw[<-HM.out] at h1;have:=vT aG.out _ _ h1;rwa[nu] at this
    have z1: wr.frozen? ⟨g9,k * 2+1,none⟩=false:=by rw[Go.Sim.xm (a:=⟨g9,k * 2+1,none⟩) tB];rfl
    have HY:=Afl hy;have g9l:g9<=wr.heap.size:=by omega
    have HO:=Afl aG.out;clear hy tB aG;by_cases heq:y.hi+1=x.lo
    ·have hd:(y.hi+1==x.lo)=true:=by simpa using heq
     have oR:Hid (((j5 (fq (l.take i)) x).flatMap Span.vs=((fq (l.take i)).flatMap Span.vs).set (k * 2+1) (.int .i64 x.hi))/\(j5 (fq (l.take i)) x).length=k+1):=Afl (by
      have e:j5 (fq (l.take i)) x=(fq (l.take i)).dropLast++ [⟨y.lo,x.hi⟩]:=by unfold j5;rw[HY.out];simp[heq]
      rw[e];refine⟨?_,by simp[<-HM.out]⟩
      rw[<-agP HY.out,<-HM.out];rfl)
     go_wp2;go_quiet (fail);go_wp2;go_roundw;case rel=>exact⟨i+1,by omega,by go_num,Afl (by
          rw[NX.out,oR.out.1,oR.out.2];exact IG (Pa (Ahl HO.out _) nq) (by omega)),
      (HB.out.trans (jq ((Aft _ _).alloc aI _) nq)).setCell (by simp;omega) _⟩
     case measure=>simp[Ahb];omega
    ·have hd:(y.hi+1==x.lo)=false:=by simpa using heq
     have oR:Hid (((j5 (fq (l.take i)) x).flatMap Span.vs=(fq (l.take i)).flatMap Span.vs++ [.int .i64 x.lo,.int .i64 x.hi])/\(j5 (fq (l.take i)) x).length=k+1+1):=Afl (by
      have e:j5 (fq (l.take i)) x=fq (l.take i)++ [x]:=by unfold j5;rw[HY.out];simp[heq]
      rw[e];exact⟨by simp[Span.vs],by simp[<-HM.out]⟩)
     go_wp2;go_quiet (fail);go_wp2_with (first
      | (at_builtin
         refine Agz _ rfl (.tmp 36) (.tmp 38) 57 rfl w.heap.size 37 i0 (.agg #[.int .i64 0,.int .i64 0]) 2 16 (U Tryz.underlying57) HI.out.1 HI.out.2.1 HI.out.2.2.1 HI.out.2.2.2 rfl (by decide) _ _ _ rfl (Ahl (Pa (Ahl HO.out _) nq) _) ⟨wr.heap.size+1,0,none⟩ 1 1 [.int .i64 x.lo,.int .i64 x.hi] rfl rfl ?c1 ?c2 ?c3 ?c4 ?c5 ?_
         case c1=>(intro j u hu;match j,hu with|0,hu=>(simp at hu;subst hu;simp[go_sem,Ag6]) |1,hu=>(simp at hu;subst hu;simp[go_sem,Ag6]))
         case c2=>simp[Value.oneCell']
         case c3=>(simp only[Aes];omega)
         case c4=>omega
         case c5=>(simp;omega)
         intro v' w1 cK dT _;have gW:=Afl cK;have gV:=Afl dT;clear cK dT))
     go_roundw;case rel=>exact⟨i+1,by omega,by go_num,Afl (by rw[NX.out,oR.out.1,oR.out.2];exact gW.out),
      ((HB.out.trans (jq ((Aft _ _).alloc aI _) nq)).trans ((Aft _ _).alloc (by simp;omega) _)).grown gV.out (by simp;omega) (λk hk=>ei HO.out k hk)⟩
     case measure=>simp[Ahb];omega
  ·obtain rfl:i=n:=by omega
   go_wp2;go_ret;refine⟨_,rfl,?_,hb⟩
   have:=aG.out;rwa[Agc (Agn nh.out)] at this
def jv(x:bR)(n:Nat):List Span:=((Agj n).filter λi:Nat=>decide (lh x.cM (i:Int) i=0)).map λi:Nat=>⟨(i:Int),i⟩
def GB(x:bR):List Span:=fq (jv x x.aH.toNat)
def ac0(x:bR)(n:Nat):jv x (n+1)=jv x n++(if lh x.cM (n:Int) n=0 then [⟨(n:Int),n⟩] else []):=by
 unfold jv;rw[Ah5,List.filter_append,Ahm];congr 1;by_cases h:lh x.cM (n:Int) n=0<;>simp[h]
def Tq(x:bR)(n:Nat):(jv x n).length<=n:=by
 unfold jv;rw[Aib];exact Ad5 (Aga _ _) (by simp)
def acZ(x:bR){n:Nat}(hn:n<=1000):rl (jv x n):=by
 intro y hy;unfold jv at hy;obtain⟨i,hi,rfl⟩:=Ah2.1 hy;have:=Ah3.1 (List.mem_filter.1 hi).1;simp only;omega
def aaz{w:Abc}{b:ao}{k:Nat}{x:bR}{pv bv tv:Value}{B:Nat}(hB:B<=w.heap.size)(ai:bg w B b pv bv tv)(h0:dF b=0)(hx:b.aF[k]?=some x):
 Aet prog 47 #[.agg #[.int .i64 b.ag,pv,bv,tv],.int .i64 k] w λe w'=>∃v,e=.returned (.tuple #[v,.int .i64 0])/\w'.ownsRow w.heap.size 37 2 v (GB x).length ((GB x).flatMap Span.vs)/\Below w.heap.size w w':=by
 obtain⟨i0,cR,cT,aN,ba⟩:=Agy VE;have HI:=Afl (Aee cR (Aee cT (Aee aN ba)));have hv:=iy h0;have va:=hv.bp x (Agd hx);have bT:=Afl ai;have H0:=Afl h0;obtain⟨A1,n1,c1,rfl,-⟩:=ai.pieces.open_;obtain⟨A2,n2,c2,rfl,e2,h2,dW,r2⟩:=ai.aF.open_;obtain⟨A3,n3,c3,rfl,-⟩:=ai.aJ.open_;unfold Aes at dW;have hk:k<n2:=by have:=(Af7.1 hx).1;omega
 obtain⟨cI,x',jQ,rfl,fV,jz,⟨kv,rfl,UY,dj⟩,-,ef⟩:=r2 k hk;obtain rfl:x'=x:=by rw[jz] at hx;exact Aea hx
 obtain⟨A4,n4,c4,rfl,-⟩:=dj.open_;have st:=Still.refl (B:=B) w;have b0:=cC ef st fV rfl;have b1:=bK ef st fV 0 rfl;have b2:=bK ef st fV 1 rfl;have HC:=Afl (Aee b0 (Aee b1 b2));have yV:=Afl dj;have La:Hid (1<=x'.aH/\x'.aH<=40):=Afl va.aH;have D6:(if bX k 0 ((n2:Int) - 1) then(0:Int) else 6)=0:=by rw[if_pos (by unfold bX;simp;omega)]
 have HT:=Afl D6;have sQ:Hid ((cI.add (k * 3)).block<w.heap.size):=Afl (by rw[cq];omega)
 clear ai e2 r2 hx jz ef dj cR cT aN ba b0 b1 b2 st hv h0 D6 va;go_enter func47,Tryz.ntmps47;go_wp2_with (first
  | (go_at_call 68;refine(ry (bT.out.still ((Still.refl w).alloc hB _)) (by simp;omega) H0.out).mono ?_;rintro e w1 ⟨rfl,ae⟩
     have kb:Bk w1 w.heap.size 26 #[.int .i64 b.ag,.slice A1 n1 c1,.slice (some cI) n2 c2,.slice A3 n3 c3]:=(Bk.new w _ _).below ae (by simp)
     have b2: w1.cell? ⟨w.heap.size,2,none⟩=some (.slice (some cI) n2 c2):=kb.cell 2;have aN:w.heap.size<w1.heap.size:=kb.lt;have ba:w.heap.size<=w1.heap.size:=by omega
     have cF:=cU (Aft _ _) ae (Ad4 _);have aY:=Afl cF;have d0: w1.cell? (cI.add (k * 3))=some (.string x'.name):=(cF.cell sQ.out).trans HC.out.1;have d1: w1.cell? ⟨(cI.add (k * 3)).block,(cI.add (k * 3)).off+(0+1),none⟩=some (.int .i64 x'.aH):=(cF.cell (p:=⟨(cI.add (k * 3)).block,(cI.add (k * 3)).off+(0+1),none⟩) sQ.out).trans HC.out.2.1;have d2: w1.cell? ⟨(cI.add (k * 3)).block,(cI.add (k * 3)).off+(1+1),none⟩=some (.slice A4 n4 c4):=(cF.cell (p:=⟨(cI.add (k * 3)).block,(cI.add (k * 3)).off+(1+1),none⟩) sQ.out).trans HC.out.2.2;have dz:(cI.add (k * 3)).block<w1.heap.size:=by have:=sQ.out;omega
     clear kb ae cF)
  | (go_at_call 100;refine(there k n2 (by omega) w1 (by omega)).mono ?_;rintro e w2 ⟨rfl,rfl⟩
     rw[HT.out]))
 have rL:1<=x'.aH/\x'.aH<=40:=La.out;obtain⟨N,hN⟩:∃N:Nat,x'.aH=N:=⟨x'.aH.toNat,by omega⟩
 rw[hN] at rL |-
 have HN:=Afl hN;clear hN d0 d1 d2;go_loopw [9,10,11,32] (λo p q u wr=>∃i:Nat,i<=N/\u=.int .i64 i/\Hid (wr.ownsRow (w1.heap.size+1) 37 2 o (jv x' i).length ((jv x' i).flatMap Span.vs))/\Hid (Below (w1.heap.size+1) (w1.alloc (.cells #[.string x'.name,.int .i64 N,.slice A4 n4 c4] 59)) wr)) (λ_ _ _ u _=>N - (Ahb u).toNat)
 case atStart=>exact⟨0,Agl _,rfl,Afl ⟨by simp[jv],.inl ⟨rfl,by simp[jv]⟩⟩,Afl (Aft _ _)⟩
 case round=>
  obtain⟨i,hi,rfl,aG,hb⟩:=hrel;have aI:w1.heap.size+1<=wr.heap.size:=by have:=hb.out.size;simpa using this
  have nV:Hid (Below w1.heap.size w1 wr):=Afl (((Aft _ _).alloc (by omega) _).trans (hb.out.mono (by omega)))
  have kx:Bk wr w1.heap.size 59 #[.string x'.name,.int .i64 N,.slice A4 n4 c4]:=(Bk.new w1 _ _).below hb.out (by omega)
  have k0:=kx.cell 0;have k1:=kx.cell 1;have k2:=kx.cell 2;have kl:w1.heap.size<wr.heap.size:=kx.lt;have Ii:w1.heap.size<=wr.heap.size:=by omega
  clear kx;by_cases al:i<N
  ·have qp:i<40:=by omega
   have ql:=Tq x' i;have NX:=Afl (ac0 x' i);have NO:Hid (∀o,Row (wr.alloc o) w.heap.size 2 Span.R (.slice A4 n4 c4) x'.cM):=Afl λo=>yV.out.more hB|>.still ((Still.aK (aY.out.trans (nV.out.mono (by omega))) (Ad4 _)).alloc (by omega) o) λ_ _ h=>h
   obtain⟨m,hm⟩:∃m,m=(jv x' i).length:=⟨_,rfl⟩
   rw[<-hm] at aG ql;have HM:=Afl hm;clear hm;obtain⟨A9,c9,rfl,GX,py,MZ⟩:=II aG.out;clear GX;unfold Aes at MZ;by_cases Ax:lh x'.cM (i:Int) i=0
   ·have hd:(lh x'.cM (i:Int) i==0)=true:=by simpa using Ax
    have oR:Hid (jv x' (i+1)=jv x' i++ [⟨(i:Int),i⟩]):=Afl (by rw[NX.out,if_pos Ax])
    clear Ax;go_wp2_with (first
     | (go_at_call 132;refine(met (NO.out _) (by simp;omega)).mono ?_;rintro e w2 ⟨rfl,ak⟩
        have ba:wr.heap.size<w2.heap.size:=by have:=ak.size;simp at this;omega
        have aoQ:wr.heap.size<=w2.heap.size:=by omega
        have ks:Bk w2 wr.heap.size 37 #[.int .i64 i,.int .i64 i]:=(Bk.new wr _ _).below ak (by simp)
        have s0:=ks.cell 0;have s1:=ks.cell 1;have rf:Hid (w2.ownsRow (w1.heap.size+1) 37 2 (.slice A9 m c9) m ((jv x' i).flatMap Span.vs)):=Afl (qO (Ahl aG.out _) ak (Ad4 _));have dV:=Afl (cU hb.out ak aI);clear ak ks)
     | (at_builtin
        refine Agz _ rfl (.tmp 42) (.tmp 44) 57 rfl (w1.heap.size+1) 37 i0 (.agg #[.int .i64 0,.int .i64 0]) 2 16 (U Tryz.underlying57) HI.out.1 HI.out.2.1 HI.out.2.2.1 HI.out.2.2.2 rfl (by decide) _ _ _ rfl (Ahl rf.out _) ⟨w2.heap.size,0,none⟩ 1 1 [.int .i64 i,.int .i64 i] rfl rfl ?c1 ?c2 ?c3 ?c4 ?c5 ?_
        case c1=>(intro j u hu;match j,hu with|0,hu=>(simp at hu;subst hu;simp[go_sem,Ag6]) |1,hu=>(simp at hu;subst hu;simp[go_sem,Ag6]))
        case c2=>simp[Value.oneCell']
        case c3=>(simp only[Aes];omega)
        case c4=>omega
        case c5=>(simp;omega)
        intro v' w3 cK dT _;have uC:=Afl cK;have iD:=Afl dT;clear cK dT))
    go_roundw;case rel=>exact⟨i+1,by omega,by go_num,Afl (by rw[oR.out,Ahv,Ahx,<-HM.out];exact uC.out),
     Afl ((dV.out.trans ((Aft _ _).alloc (by omega) _)).grown iD.out (by simp;omega) (λk hk=>ei rf.out k hk))⟩
    case measure=>simp[Ahb];omega
   ·have hd:(lh x'.cM (i:Int) i==0)=false:=by simpa using Ax
    have oR:Hid (jv x' (i+1)=jv x' i):=Afl (by rw[NX.out,if_neg Ax,Ah0])
    clear Ax;go_wp2_with (first
     | (go_at_call 132;refine(met (NO.out _) (by simp;omega)).mono ?_;rintro e w2 ⟨rfl,ak⟩
        have rf:Hid (w2.ownsRow (w1.heap.size+1) 37 2 (.slice A9 m c9) m ((jv x' i).flatMap Span.vs)):=Afl (qO (Ahl aG.out _) ak (Ad4 _));have dV:=Afl (cU hb.out ak aI);clear ak))
    go_roundw;case rel=>exact⟨i+1,by omega,by go_num,Afl (by rw[oR.out,<-HM.out];exact rf.out),dV⟩
    case measure=>simp[Ahb];omega
  ·obtain rfl:i=N:=by omega
   have YW:=Afl (lu (R:=Span.R) (f:=Span.vs) (l:=jv x' i) aG.out (λ_=>rfl) (λ_ _=>rfl))
   have Hz:=acZ x' (n:=i) (by omega)
   have rJ:=Tq x' i;clear hi;go_wp2_with (first
    | (go_at_call 133;refine(join YW.out (Ad4 _) (by omega) Hz).mono ?_;rintro e w2 ⟨u,rfl,vX,ak⟩;have rf:=Afl vX;have dV:=Afl ak;clear vX ak))
   go_ret2
   refine⟨_,rfl,?_,?_⟩
   ·have:=rf.out.base (sV:=w.heap.size) (by omega)
    unfold GB;rw[HN.out];exact this
   ·exact aY.out.trans ((nV.out.mono (by omega)).trans (dV.out.mono (by omega)))
def vI(x:bR)(bears:Int)(N fr:Nat):Nat->Int->Int
 |0,m=>m
 |s+1,m=>if lh x.cM fr ((N:Int) - (s+1:Nat))>bears then m else vI x bears N fr s (max m ((N:Int) - (s+1:Nat) - fr+1))
def vJ(x:bR)(bears:Int)(N:Nat):Nat->Int
 |0=>0
 |fr+1=>vI x bears N fr (N - fr) (vJ x bears N fr)
def Im(x:bR)(bears:Int):Int:=vJ x bears x.aH.toNat x.aH.toNat
def ahi(x:bR)(bears:Int)(N fr:Nat)(hN:N<=40)(hf:fr<=N):∀(s:Nat) (m:Int),s<=N - fr->0<=m->m<=40->0<=vI x bears N fr s m/\vI x bears N fr s m<=40:=by
 intro s;induction s with
 |zero=>intro m _ h0 h1;exact⟨h0,h1⟩
 |succ s ih=>
  intro m hs h0 h1;unfold vI;split
  ·exact⟨h0,h1⟩
  ·refine ih _ (by omega) ?_ ?_<;>omega
def ahk(x:bR)(bears:Int)(N:Nat)(hN:N<=40):∀fr,fr<=N->0<=vJ x bears N fr/\vJ x bears N fr<=40:=by
 intro fr;induction fr with
 |zero=>intro _;exact⟨by unfold vJ;omega,by unfold vJ;omega⟩
 |succ fr ih=>
  intro h;have:=ih (by omega)
  exact ahi x bears N fr hN (by omega) _ _ (Ad4 _) this.1 this.2
def V0{w:Abc}{b:ao}{k:Nat}{x:bR}{bears:Int}{pv bv tv:Value}{B:Nat}(hB:B<=w.heap.size)(ai:bg w B b pv bv tv)(h0:dF b=0)(hx:b.aF[k]?=some x)(MQ:bX bears 0 2=true):
 Aet prog 48 #[.agg #[.int .i64 b.ag,pv,bv,tv],.int .i64 k,.int .i64 bears] w λe w'=>e=.returned (.tuple #[.int .i64 (Im x bears),.int .i64 0])/\Below w.heap.size w w':=by
 have hv:=iy h0;have va:=hv.bp x (Agd hx);have bT:=Afl ai;have H0:=Afl h0;obtain⟨A1,n1,c1,rfl,-⟩:=ai.pieces.open_;obtain⟨A2,n2,c2,rfl,e2,h2,dW,r2⟩:=ai.aF.open_;obtain⟨A3,n3,c3,rfl,-⟩:=ai.aJ.open_;unfold Aes at dW;have hk:k<n2:=by have:=(Af7.1 hx).1;omega
 obtain⟨cI,x',jQ,rfl,fV,jz,⟨kv,rfl,UY,dj⟩,-,ef⟩:=r2 k hk;obtain rfl:x'=x:=by rw[jz] at hx;exact Aea hx
 obtain⟨A4,n4,c4,rfl,-⟩:=dj.open_;have st:=Still.refl (B:=B) w;have b0:=cC ef st fV rfl;have b1:=bK ef st fV 0 rfl;have b2:=bK ef st fV 1 rfl;have HC:=Afl (Aee b0 (Aee b1 b2));have yV:=Afl dj;have D6:(if bX k 0 ((n2:Int) - 1) then(0:Int) else 6)=0:=by rw[if_pos (by unfold bX;simp;omega)]
 have HT:=Afl D6;have sQ:Hid ((cI.add (k * 3)).block<w.heap.size):=Afl (by rw[cq];omega)
 have La:Hid (1<=x'.aH/\x'.aH<=40):=Afl va.aH;have F3:=Afl MQ;clear ai e2 r2 hx jz ef dj b0 b1 b2 st hv h0 D6 va MQ;go_enter func48,Tryz.ntmps48;go_wp2_with (first
  | (go_at_call 68;refine(ry (bT.out.still ((Still.refl w).alloc hB _)) (by simp;omega) H0.out).mono ?_;rintro e w1 ⟨rfl,ae⟩
     have kb:Bk w1 w.heap.size 26 #[.int .i64 b.ag,.slice A1 n1 c1,.slice (some cI) n2 c2,.slice A3 n3 c3]:=(Bk.new w _ _).below ae (by simp)
     have b2: w1.cell? ⟨w.heap.size,2,none⟩=some (.slice (some cI) n2 c2):=kb.cell 2;have aN:w.heap.size<w1.heap.size:=kb.lt;have ba:w.heap.size<=w1.heap.size:=by omega
     have cF:=cU (Aft _ _) ae (Ad4 _);have aY:=Afl cF;have d0: w1.cell? (cI.add (k * 3))=some (.string x'.name):=(cF.cell sQ.out).trans HC.out.1;have d1: w1.cell? ⟨(cI.add (k * 3)).block,(cI.add (k * 3)).off+(0+1),none⟩=some (.int .i64 x'.aH):=(cF.cell (p:=⟨(cI.add (k * 3)).block,(cI.add (k * 3)).off+(0+1),none⟩) sQ.out).trans HC.out.2.1;have d2: w1.cell? ⟨(cI.add (k * 3)).block,(cI.add (k * 3)).off+(1+1),none⟩=some (.slice A4 n4 c4):=(cF.cell (p:=⟨(cI.add (k * 3)).block,(cI.add (k * 3)).off+(1+1),none⟩) sQ.out).trans HC.out.2.2;have dz:(cI.add (k * 3)).block<w1.heap.size:=by have:=sQ.out;omega
     clear kb ae cF)
  | (go_at_call 100;refine(there k n2 (by omega) w1 (by omega)).mono ?_;rintro e w2 ⟨rfl,rfl⟩
     rw[HT.out])
  | (go_at_call 134;refine(inside _ _ _ w1).mono ?_;rintro e w2 ⟨rfl,rfl⟩;rw[F3.out]))
 have rL:1<=x'.aH/\x'.aH<=40:=La.out;obtain⟨N,hN⟩:∃N:Nat,x'.aH=N:=⟨x'.aH.toNat,by omega⟩
 rw[hN] at rL |-
 have HN:=Afl hN;clear hN d0 d1 d2;have xH:0<=bears/\bears<=2:=nJ F3.out;go_loopw [11,12,13,37] (λm p q u wr=>∃i:Nat,i<=N/\u=.int .i64 i/\m=.int .i64 (vJ x' bears N i)/\Hid (Below (w1.heap.size+1) (w1.alloc (.cells #[.string x'.name,.int .i64 N,.slice A4 n4 c4] 59)) wr)) (λ_ _ _ u _=>N - (Ahb u).toNat)
 case atStart=>exact⟨0,Agl _,rfl,rfl,Afl (Aft _ _)⟩
 case round=>
  obtain⟨wo,rfl⟩:∃wo:Abc,wo=wr:=⟨_,rfl⟩
  obtain⟨i,hi,rfl,rfl,hb⟩:=hrel;by_cases al:i<N
  ·go_wp2
   go_step3
   go_wp2
   go_step3
   go_wp2;have HBo:Hid (Below w1.heap.size w1 wo):=Afl (((Aft _ _).alloc (by omega) _).trans (hb.out.mono (by omega)))
   have DN:=ahk x' bears N (by have:=rL.2;omega) i hi
   go_loopw [11,13] (λm u wr=>∃(j:Nat) (q:Int),i<=j/\j<=N/\u=.int .i64 j/\m=.int .i64 q/\0<=q/\q<=40/\Hid (vI x' bears N i (N - j) q=vJ x' bears N (i+1))/\Hid (Below (w1.heap.size+1) (w1.alloc (.cells #[.string x'.name,.int .i64 N,.slice A4 n4 c4] 59)) wr)) (λ_ u _=>N - (Ahb u).toNat)
   case atStart=>exact⟨i,_,Ad4 _,hi,rfl,rfl,DN.1,DN.2,Afl rfl,hb⟩
   case round=>
    obtain⟨j,q,vo,hj,rfl,rfl,NV,tH,pb,Ai⟩:=hrel;have aI:w1.heap.size+1<=wr.heap.size:=by have:=Ai.out.size;simpa using this
    have nV:Hid (Below w1.heap.size w1 wr):=Afl (((Aft _ _).alloc (by omega) _).trans (Ai.out.mono (by omega)))
    have kx:Bk wr w1.heap.size 59 #[.string x'.name,.int .i64 N,.slice A4 n4 c4]:=(Bk.new w1 _ _).below Ai.out (by omega)
    have k0:=kx.cell 0;have k1:=kx.cell 1;have k2:=kx.cell 2;have kl:w1.heap.size<wr.heap.size:=kx.lt;have Ii:w1.heap.size<=wr.heap.size:=by omega
    clear kx;by_cases nE:j<N
    ·have NO:Hid (Row wr w.heap.size 2 Span.R (.slice A4 n4 c4) x'.cM):=Afl (yV.out.more hB|>.still (Still.aK (aY.out.trans (nV.out.mono (by omega))) (Ad4 _)) λ_ _ h=>h)
     obtain⟨M,hM⟩:∃M,M=lh x'.cM (i:Int) j:=⟨_,rfl⟩
     have HM:=Afl hM;clear hM;by_cases As:M>bears
     ·go_wp2_with (first
       | (go_at_call 132;refine(met NO.out (by omega)).mono ?_;rintro e w2 ⟨rfl,ak⟩;rw[<-HM.out];have dV:=Afl (chain Ai.out ak aI);clear ak))
      rw[Exit.noGoto_normal];go_wp2;go_roundw;case rel=>exact⟨i+1,by omega,by go_num,by
       congr 1;rw[<-pb.out];obtain⟨d,hd⟩:∃d,N - j=d+1:=⟨N - j - 1,by omega⟩
       rw[hd];unfold vI;have e:(N:Int) - ((d+1:Nat):Int)=j:=by omega
       rw[e,<-HM.out,if_pos As],dV⟩
      case measure=>simp[Ahb];omega
     ·go_wp2_with (first
       | (go_at_call 132;refine(met NO.out (by omega)).mono ?_;rintro e w2 ⟨rfl,ak⟩;rw[<-HM.out];have dV:=Afl (chain Ai.out ak aI);clear ak))
      go_roundw;case rel=>exact⟨j+1,max q (j - i+1),by omega,by omega,by go_num,by go_num,by omega,by omega,Afl (by
       rw[<-pb.out];obtain⟨d,hd⟩:∃d,N - j=d+1:=⟨N - j - 1,by omega⟩
       rw[hd,show N - (j+1)=d by omega]
       conv=>rhs;unfold vI
       have e:(N:Int) - ((d+1:Nat):Int)=j:=by omega
       rw[e,<-HM.out,if_neg (by omega)]),dV⟩
      case measure=>simp[Ahb];omega
    ·obtain rfl:j=N:=by omega
     go_wp2;rw[Exit.noGoto_normal];go_wp2;go_roundw;case rel=>exact⟨i+1,by omega,by go_num,by
      congr 1;rw[<-pb.out,Nat.sub_self];rfl,Ai⟩
     case measure=>simp[Ahb];omega
  ·obtain rfl:i=N:=by omega
   go_wp2
   go_ret2
   refine⟨I0 ?_ rfl,?_⟩
   ·unfold Im;rw[HN.out];rfl
   ·exact aY.out.trans (((((Aft _ _).alloc (by omega) _).trans (hb.out.mono (by omega)))).mono (by omega))
def fK(l:List Int):an:=⟨l[0]?.getD 0,l[1]?.getD 0,l[2]?.getD 0⟩
def Xn:(prog.info? 3).map (λi=>i.size)=some 1:=by rw[pB];kernel_rfl
def aa0(l:List Int)(h3:l.length<=3):(((#[Afx .i64 0,.int .i64 0,.int .i64 0]:Array Value).toList.take 0++l.map (Afx .i64)++(#[Afx .i64 0,.int .i64 0,.int .i64 0]:Array Value).toList.drop (0+l.length)).toArray:Array Value)=#[.int .i64 (fK l).a,.int .i64 (fK l).b,.int .i64 (fK l).c]:=by
 rcases l with _| ⟨a,_| ⟨b,_| ⟨c,_| ⟨d,l⟩⟩⟩⟩
 ·simp[fK]
 ·simp[fK]
 ·simp[fK]
 ·simp[fK]
 ·simp at h3
def aaZ{l:List Int}{A:Option Addr}{n c B:Nat}{w W:Abc}(hv:Row w B 1 cH (.slice A n c) l)(hB:B<=w.heap.size)(h3:l.length<=3){s:Nat}(hs:s=w.heap.size)
 (hW:W=(w.alloc (.cells #[.int .i64 0,.int .i64 0,.int .i64 0] 128)).alloc (.cells #[.int .i64 0,.int .i64 0,.int .i64 0] 128)):
 ∃W',(Builtin.copy_ #[33,33] 3 #[.slice (some ⟨s+1,0,none⟩) 3 3,.slice A n c]).run prog W=.ok (goInt n) W'/\Bk W' s 128 #[.int .i64 0,.int .i64 0,.int .i64 0]/\Bk W' (s+1) 128 #[.int .i64 (fK l).a,.int .i64 (fK l).b,.int .i64 (fK l).c]/\Below w.heap.size w W':=by
 obtain⟨A',n',c',e,hl,dX,cX,hr⟩:=hv.open_;cases e;have qh:Below w.heap.size w W:=by rw[hW];exact((Aft _ _).alloc (Ad4 _) _).alloc (by simp) _
 have k0:Bk W s 128 #[.int .i64 0,.int .i64 0,.int .i64 0]:=by rw[hW,hs];exact(Bk.new w _ _).alloc _
 have k1:Bk W (s+1) 128 #[.int .i64 0,.int .i64 0,.int .i64 0]:=by rw[hW,hs];exact Bk.cG (by simp) _ _
 rcases Nat.eq_zero_or_pos n with h0|hp
 ·subst h0
  have:l=[]:=Aia hl;subst this;exact⟨W,run_copy_none W 33 33 3 3 _ _ 3 3 0 c (U Tryz.underlying33) Xn (by simp),k0,k1,qh⟩
 ·obtain⟨ad,_,_,rfl,TT,_⟩:=hr 0 hp
  have afz:∀(j:Nat) (v:Value),(l.map (Afx .i64))[j]?=some v-> W.cell? (ad.add j)=some v:=by
   intro j v hj;rw[Ahy] at hj
   obtain⟨x,hx,rfl⟩:=Option.map_eq_some_iff.1 hj;obtain⟨Cs,x',cs,e,aC,jz,rfl,-,au⟩:=hr j (by have:=(Af7.1 hx).1;omega)
   cases e;rw[hx] at jz;cases jz
   have:=au 0 _ rfl;rw[Nat.mul_one,Nat.add_zero] at this;exact(qh.cell (by rw[cq];omega)).trans this
  have bz:=run_copy_row (P:=prog) W 33 33 3 3 (s+1) 0 3 3 ad n c #[.int .i64 0,.int .i64 0,.int .i64 0] 128 (l.map (Afx .i64)) (U Tryz.underlying33) Xn k1 (by rw[Aib,hl];exact(Aih (by omega)).symm) afz (by simp;omega) (λv hv=>by
   obtain⟨x,_,rfl⟩:=Ah2.1 hv;rfl)
  refine⟨_,by rw[bz,Aib,hl],?_,?_,?_⟩
  ·exact(setRow_other _ _ _ _ (by omega)).trans k0
  ·refine(setRow_heap _ _ _ _ _ _ k1).trans ?_
   rw[<-hl];rw[aa0 l h3]
  ·exact below_setRow qh (by omega) _
def ag7{l:List Int}{v:Value}{w:Abc}{B:Nat}(hv:Row w B 1 cH v l)(hB:B<=w.heap.size)(h3:l.length<=3):
 Aet prog 128 #[v] w λe w'=>e=.returned (.agg #[.int .i64 (fK l).a,.int .i64 (fK l).b,.int .i64 (fK l).c])/\Below w.heap.size w w':=by
 obtain⟨A,n,c,rfl,-⟩:=hv.open_;obtain⟨W',o4,k0,k1,hb⟩:=aaZ (w:=w) hv hB h3 rfl rfl;have r0:=k1.cell 0;have r1:=k1.cell 1;have r2:=k1.cell 2;have s0:=k0.cell 0;have s1:=k0.cell 1;have s2:=k0.cell 2;have z0:=k0.frozen 0;have z1:=k0.frozen 1;have z2:=k0.frozen 2;have l0:=k0.lt;have l1:=k1.lt;have l0':w.heap.size<=W'.heap.size:=by omega
 have yB:w.heap.size+1<=W'.heap.size:=by omega
 have HB:=Afl hb;have HK:=Afl k0;clear hv hb k0 k1;go_enter func128,Tryz.ntmps128;go_wp2;have k3:=((HK.out.set 0 (.int .i64 (fK l).a)).set 1 (.int .i64 (fK l).b)).set 2 (.int .i64 (fK l).c);have t0:=k3.cell 0;have t1:=k3.cell 1;have t2:=k3.cell 2;simp at t0 t1 t2;have fw:=((HB.out.setCell (p:=⟨w.heap.size,0,none⟩) (Ad4 _) (.int .i64 (fK l).a)).setCell (p:=⟨w.heap.size,1,none⟩) (Ad4 _) (.int .i64 (fK l).b)).setCell (p:=⟨w.heap.size,2,none⟩) (Ad4 _) (.int .i64 (fK l).c);refine Ag4 (v:=.agg #[.int .i64 (fK l).a,.int .i64 (fK l).b,.int .i64 (fK l).c]) (by simp[results,Tryz.results128,go_sem,t0,t1,t2]) rfl ⟨rfl,fw⟩
def akm(w:Abc)(a b:Int)(e:Aa8):Row (w.alloc (.cells #[.int .i64 a,.int .i64 b] e)) (w.heap.size+1) 1 cH (.slice (some ⟨w.heap.size,0,none⟩) 2 2) [a,b]:=
 yX (xs:=[a,b]) (sz:=1) (R:=cH) (oX:=[[.int .i64 a],[.int .i64 b]]) (Bk.new w _ _) (by omega) (by simp) rfl (by simp) (λi x c hx hc=>by
  match i with
  |0=>cases hx;cases hc;exact⟨rfl,rfl⟩
  |1=>cases hx;cases hc;exact⟨rfl,rfl⟩
  |i+2=>simp at hx) (λi c hc j u hu=>by
  match i with
  |0=>
   cases hc;match j with
   |0=>exact hu
   |j+1=>simp at hu
  |1=>
   cases hc;match j with
   |0=>exact hu
   |j+1=>simp at hu
  |i+2=>simp at hc) (c:=2) (by simp) (by omega)
def ahl{b:ao}{l:List Int}(h:qL b l=0):l.length=b.pieces.length/\∀n∈l,1<=n/\n<=40:=by
 unfold qL at h;split at h
 ·contradiction
 ·rename_i h1
  split at h
  ·contradiction
  ·rename_i h2
   refine⟨by simpa using h1,λn hn=>?_⟩
   have h2:l.any (λn=> !bX n 1 40)=false:=by simpa using h2
   have:=List.any_eq_false.1 h2 n hn;exact nJ (by simpa using this)
def ag9{l:List Int}(h:∀n∈l,1<=n/\n<=40):(fK l).Ok:=by
 have key:∀i:Nat,0<=(l[i]?.getD 0:Int)/\(l[i]?.getD 0:Int)<=1000:=by
  intro i;cases e:l[i]? with
  |none=>exact⟨by simp,by simp⟩
  |some x=>
   have:=h x (Agd e);simp only[Option.getD_some];omega
 intro i;have k0:=key 0;have k1:=key 1;have k2:=key 2;unfold an.at fK;match i with
 |0=>exact k0
 |1=>exact k1
 |i+2=>exact k2
def fW(w:Abc)(s:Int)(p q r:Value):Abc:=w.alloc (Afq #[.int .i64 s,p,q,r] 117)
def acw(w:Abc)(s:Int)(p q r:Value):Below w.heap.size w (fW w s p q r):=(Aft _ _).alloc (Ad4 _) _
def Ta{w:Abc}{b:ao}{l:List Int}{kD:List Cut}{pv bv tv lv cv:Value}{B:Nat}(hB:B<=w.heap.size)(ai:bg w B b pv bv tv)(hl:Row w B 1 cH lv l)(hc:Row w B 2 Cut.R cv kD)(h0:dF b=0)(h:scan (λ_ s=>s) [] [qL b l,ez b kD]=0):
 Aet prog 43 #[.agg #[.int .i64 b.ag,pv,bv,tv],lv,cv] w λe w'=>e=.returned (.tuple #[.bool (fp b (fK l) kD),.int .i64 0])/\Below w.heap.size w w':=by
 have bT:=Afl ai;have HL:=Afl hl;have HC:=Afl hc;have H0:=Afl h0;obtain⟨A1,n1,c1,rfl,-⟩:=ai.pieces.open_;obtain⟨A2,n2,c2,rfl,-⟩:=ai.aF.open_;obtain⟨A3,n3,c3,rfl,-⟩:=ai.aJ.open_;obtain⟨A4,n4,c4,rfl,-⟩:=hl.open_;obtain⟨A5,n5,c5,rfl,-⟩:=hc.open_;obtain⟨s1,cZ⟩:∃s,s=qL b l:=⟨_,rfl⟩
 obtain⟨s2,dD⟩:∃s,s=ez b kD:=⟨_,rfl⟩
 rw[<-cZ,<-dD] at h;obtain⟨S,hS⟩:∃S,S=scan (λ_ s=>s) [] [s1,s2]:=⟨_,rfl⟩
 rw[<-hS] at h;have HS:=Afl (Aee hS (Aee cZ dD));have hd:(S !=0)=false:=by simp[h]
 clear ai hl hc h0 hS cZ dD;go_enter func43,Tryz.ntmps43;go_wp2_with (first
  | (go_at_call 68;refine(ry (bT.out.still ((Still.refl w).alloc hB _)) (by simp;omega) H0.out).mono ?_;rintro e w1 ⟨rfl,ae⟩
     have kb:Bk w1 w.heap.size 26 #[.int .i64 b.ag,.slice A1 n1 c1,.slice A2 n2 c2,.slice A3 n3 c3]:=(Bk.new w _ _).below ae (by simp)
     have b0:=kb.cell 0;have b1:=kb.cell 1;have b2:=kb.cell 2;have b3:=kb.cell 3;have aY:=Afl (cU (Aft _ _) ae (Ad4 _));clear kb ae))
 have HW:=Afl (acw w1 b.ag (.slice A1 n1 c1) (.slice A2 n2 c2) (.slice A3 n3 c3));have kw:Bk (fW w1 b.ag (.slice A1 n1 c1) (.slice A2 n2 c2) (.slice A3 n3 c3)) w1.heap.size 117 #[.int .i64 b.ag,.slice A1 n1 c1,.slice A2 n2 c2,.slice A3 n3 c3]:=Bk.new w1 _ _;have k0:=kw.cell 0;have k1:=kw.cell 1;have k2:=kw.cell 2;have k3:=kw.cell 3;have HZ:=Afl kw.lt;change Code.wp _ _ _ _ (fW w1 b.ag (.slice A1 n1 c1) (.slice A2 n2 c2) (.slice A3 n3 c3));clear kw b0 b1 b2 b3;generalize fW w1 b.ag (.slice A1 n1 c1) (.slice A2 n2 c2) (.slice A3 n3 c3)=W3 at HW k0 k1 k2 k3 HZ |-
 have wO:Hid (Below (w1.heap.size+1) W3 W3.drew):=Afl (iY (Aft _ _));have hle:B<=w1.heap.size:=by have:=aY.out.size;omega
 have CL:Hid (∀w',Below (w1.heap.size+1) W3 w'->Aet prog 127 #[.agg #[.int .i64 b.ag,.slice A1 n1 c1,.slice A2 n2 c2,.slice A3 n3 c3],.slice A4 n4 c4] w' λe bq=>e=.returned (.int .i64 s1)/\Below (w1.heap.size+1) W3 bq):=Afl λw' hw=>by
  have st:Still B w w':=(Still.aK aY.out hB).trans ((Still.aK HW.out hle).trans (Still.aK hw (by omega)))
  have aI:=hw.size;have:=HZ.out;refine(ahh (B:=B) (bT.out.still st) (HL.out.still st λ_ _ h=>h) (by omega)).mono ?_
  rintro e bq ⟨rfl,hb⟩;exact⟨aX HS.out.2.1.symm,hw.trans (hb.mono (by omega))⟩
 have CC:Hid (∀w',Below (w1.heap.size+1) W3 w'->Aet prog 109 #[.agg #[.int .i64 b.ag,.slice A1 n1 c1,.slice A2 n2 c2,.slice A3 n3 c3],.slice A5 n5 c5] w' λe bq=>e=.returned (.int .i64 s2)/\Below (w1.heap.size+1) W3 bq):=Afl λw' hw=>by
  have st:Still B w w':=(Still.aK aY.out hB).trans ((Still.aK HW.out hle).trans (Still.aK hw (by omega)))
  have aI:=hw.size;have:=HZ.out;refine(LX (B:=B) (bT.out.still st) (HC.out.still st λ_ _ h=>h) (by omega)).mono ?_
  rintro e bq ⟨rfl,hb⟩;exact⟨aX HS.out.2.2.symm,hw.trans (hb.mono (by omega))⟩
 have CE:∀ {w':Abc} {j:Nat} {v:Value},Below (w1.heap.size+1) W3 w'-> W3.cell? ⟨w1.heap.size,j,none⟩=some v-> w'.cell? ⟨w1.heap.size,j,none⟩=some v:=λhb hv=>(hb.cell (Nat.lt_succ_self _)).trans hv
 have AL:∀ {w':Abc},Below (w1.heap.size+1) W3 w'->∀o,Below (w1.heap.size+1) W3 (w'.alloc o):=λhb o=>hb.alloc (by have:=hb.size;have:=HZ.out;omega) o
 go_region_held3 (λw'=> w'.cell? ⟨w1.heap.size,0,none⟩=some (.int .i64 b.ag)/\ w'.cell? ⟨w1.heap.size,1,none⟩=some (.slice A1 n1 c1)/\ w'.cell? ⟨w1.heap.size,2,none⟩=some (.slice A2 n2 c2)/\ w'.cell? ⟨w1.heap.size,3,none⟩=some (.slice A3 n3 c3)/\Hid (Below (w1.heap.size+1) W3 w'))
  (first|exact⟨k0,k1,k2,k3,wO⟩ |exact⟨CE oQ.out k0,CE oQ.out k1,CE oQ.out k2,CE oQ.out k3,oQ⟩ |exact⟨CE ng.out k0,CE ng.out k1,CE ng.out k2,CE ng.out k3,ng⟩ |exact⟨CE (AL oQ.out _) k0,CE (AL oQ.out _) k1,CE (AL oQ.out _) k2,CE (AL oQ.out _) k3,Afl (AL oQ.out _)⟩ |exact⟨CE (AL ng.out _) k0,CE (AL ng.out _) k1,CE (AL ng.out _) k2,CE (AL ng.out _) k3,Afl (AL ng.out _)⟩)
  (first
    | (go_at_call 127
       refine(CL.out _ ?hx).mono ?_
       case hx=>first|exact oQ.out|exact wO.out
       rintro e w4 ⟨rfl,cO⟩;have ng:=Afl cO;clear cO)
    | (go_at_call 109
       refine(CC.out _ ?hx).mono ?_
       case hx=>first|exact ng.out|exact wO.out
       rintro e w5 ⟨rfl,eR⟩;have oQ:=Afl eR;clear eR)
    | (go_at_call 126
       refine(first (akm _ _ _ _)).mono ?_
       rintro e w6 ⟨rfl,rfl⟩;rw[<-HS.out.1]))
 go_wp2;have tH:qL b l=0/\ez b kD=0:=by
  have h:=HS.out.1;have hz:(scan (λ_ s=>s) [] [s1,s2]:Int)=0:=by
   have G3:S=0:=by simpa using hd
   rw[<-h,G3]
  unfold scan at hz;split at hz
  ·contradiction
  ·rename_i h1
   unfold scan at hz;split at hz
   ·contradiction
   ·rename_i h2
    exact⟨by rw[<-HS.out.2.1];simpa using h1,by rw[<-HS.out.2.2];simpa using h2⟩
 have dh:=GI (iy H0.out) tH.2;have pb:=ahl tH.1;have Ny:=ag9 pb.2;have hv:=iy H0.out;have ij:=hv.np.2;have Au:l.length<=3:=by rw[pb.1];exact ij
 obtain⟨W5,MK⟩:∃W5,W5=w5.alloc (Afq #[Afx Adf s1,Afx Adf s2] 30):=⟨_,rfl⟩
 have eR:Below (w1.heap.size+1) W3 W5:=by rw[MK];exact AL oQ.out _
 rw[<-MK];have mi:=Afl eR;have j0:=CE eR k0;have j1:=CE eR k1;have j2:=CE eR k2;have j3:=CE eR k3;have HJ:Hid (Below (w1.heap.size+1) W3 W5.drew):=Afl (iY eR);obtain⟨L,hL⟩:∃L,L=fK l:=⟨_,rfl⟩
 rw[<-hL] at Ny;have uB:=Afl hL;have Yp:Hid (∀w',Below (w1.heap.size+1) W3 w'->Aet prog 128 #[.slice A4 n4 c4] w' λe bq=>e=.returned (.agg #[.int .i64 L.a,.int .i64 L.b,.int .i64 L.c])/\Below (w1.heap.size+1) W3 bq):=Afl λw' hw=>by
  have st:Still B w w':=(Still.aK aY.out hB).trans ((Still.aK HW.out hle).trans (Still.aK hw (by omega)))
  have aI:=hw.size;have:=HZ.out;refine(ag7 (B:=B) (HL.out.still st λ_ _ h=>h) (by omega) Au).mono ?_
  rintro e bq ⟨rfl,hb⟩;rw[<-uB.out];exact⟨rfl,hw.trans (hb.mono (by omega))⟩
 have CD:Hid (∀w',Below (w1.heap.size+1) W3 w'->Aet prog 110 #[.agg #[.int .i64 b.ag,.slice A1 n1 c1,.slice A2 n2 c2,.slice A3 n3 c3],.agg #[.int .i64 L.a,.int .i64 L.b,.int .i64 L.c],.slice A5 n5 c5] w' λe bq=>e=.returned (.bool (fp b L kD))/\Below (w1.heap.size+1) W3 bq):=Afl λw' hw=>by
  have st:Still B w w':=(Still.aK aY.out hB).trans ((Still.aK HW.out hle).trans (Still.aK hw (by omega)))
  have aI:=hw.size;have:=HZ.out;refine(L3 (B:=B) (bT.out.still st) (HC.out.still st λ_ _ h=>h) (by omega) dh.len dh.three dh.kD Ny dh.ag).mono ?_
  rintro e bq ⟨rfl,hb⟩;exact⟨rfl,hw.trans (hb.mono (by omega))⟩
 have KK:=Afl (Aee k0 (Aee k1 (Aee k2 k3)));clear dh pb Ny hv ij Au MK eR k0 k1 k2 k3 tH hL;go_region_held3 (λw'=> w'.cell? ⟨w1.heap.size,0,none⟩=some (.int .i64 b.ag)/\ w'.cell? ⟨w1.heap.size,1,none⟩=some (.slice A1 n1 c1)/\ w'.cell? ⟨w1.heap.size,2,none⟩=some (.slice A2 n2 c2)/\ w'.cell? ⟨w1.heap.size,3,none⟩=some (.slice A3 n3 c3)/\Hid (Below (w1.heap.size+1) W3 w'))
  (first|exact⟨j0,j1,j2,j3,HJ⟩ |exact⟨i0,i1,i2,i3,HI⟩ |exact⟨CE HN.out KK.out.1,CE HN.out KK.out.2.1,CE HN.out KK.out.2.2.1,CE HN.out KK.out.2.2.2,HN⟩)
  (first
    | (go_at_call 128
       refine(Yp.out _ ?hx).mono ?_
       case hx=>exact HJ.out
       rintro e w7 ⟨rfl,jx⟩;have i0:=CE jx KK.out.1;have i1:=CE jx KK.out.2.1;have i2:=CE jx KK.out.2.2.1;have i3:=CE jx KK.out.2.2.2;have HI:=Afl jx;clear jx)
    | (go_at_call 110
       refine(CD.out _ ?hx).mono ?_
       case hx=>exact HI.out
       rintro e w8 ⟨rfl,Ah⟩;have HN:=Afl Ah;clear Ah))
 go_wp2
 go_ret2
 exact⟨by rw[uB.out];rfl,aY.out.trans ((HW.out.mono (by have:=aY.out.size;omega)).trans (HN.out.mono (by have:=aY.out.size;omega)))⟩
def bg.more{w:Abc}{B B':Nat}{b:ao}{pv bv tv:Value}(h:bg w B b pv bv tv)(hB:B<=B'):bg w B' b pv bv tv:=
 ⟨h.pieces.more hB,(h.aF.more hB).still (Still.refl w) λ_ _ ⟨kv,e1,e2,e3⟩=>⟨kv,e1,e2,e3.more hB⟩,(h.aJ.more hB).still (Still.refl w) λ_ _ ⟨pv,e1,e3⟩=>⟨pv,e1,e3.more hB⟩⟩
def RA{b:ao}{l:List Cut}{pv bv tv lv:Value}{w:Abc}{B g:Nat}(hB:B<=w.heap.size)(ai:bg w B b pv bv tv)(hl:Row w B 2 Cut.R lv l)(hg:Bk w g 27 #[lv]):sK b pv bv tv w 113 #[.pointer (some ⟨g,0,none⟩)] (ez b l):=by
 have bT:=Afl ai;have HL:=Afl hl;refine⟨call113,λ_ W hW=>?_⟩
 have k7:=hg.lt;obtain⟨A,n,c,rfl,-⟩:=hl.open_;have g0: W.cell? ⟨g,0,none⟩=some (.slice A n c):=(hg.below hW k7).cell 0;have hz:g<W.heap.size:=by have:=hW.size;omega
 have Vs:g<=W.heap.size:=by omega
 have sW:Still B w W:=Still.aK hW hB;have TL:B<=W.heap.size:=by have:=hW.size;omega
 obtain⟨A1,n1,c1,rfl,-⟩:=ai.pieces.open_;obtain⟨A2,n2,c2,rfl,-⟩:=ai.aF.open_;obtain⟨A3,n3,c3,rfl,-⟩:=ai.aJ.open_;have call:=LX (w:=W.alloc (.cells #[.int .i64 b.ag,.slice A1 n1 c1,.slice A2 n2 c2,.slice A3 n3 c3] 117)) (B:=B) (bT.out.still (sW.alloc TL _)) (HL.out.still (sW.alloc TL _) λ_ _ h=>h) (by simp;omega)
 have aB:=Afl call;clear ai hl hW hg sW call;refine app1 ?_
 go_enter func113,Tryz.ntmps113;go_wp2_with (first
  | (go_at_call 109;refine aB.out.mono ?_;rintro e w1 ⟨rfl,ae⟩))
 go_ret;exact⟨aX rfl,cU (Aft _ _) ae (Ad4 _)⟩
def FF(b:ao)(G:an)(l:List Cut)(out:List Int)(i:Nat):List Int:=match l[i]? with
 |some c=>out.set c.bp.toNat (min (out[c.bp.toNat]?.getD 0) ((mJ b c.bp.toNat:Int) - c.from_ - G.at i))
 |none=>out
def mS(b:ao)(l:List Cut)(n:Nat):List Int:=(Agj n).foldl (FF b (cz (aD b)) l) (b.aF.map (·.aH))
def alB(b:ao)(G:an)(l:List Cut)(out:List Int)(i:Nat):(FF b G l out i).length=out.length:=by
 unfold FF;split<;>simp
def Xt(b:ao)(l:List Cut)(n:Nat):mS b l (n+1)=FF b (cz (aD b)) l (mS b l n) n:=by
 unfold mS;rw[Ah5,List.foldl_append];rfl
def Xs(b:ao)(l:List Cut)(n:Nat):(mS b l n).length=b.aF.length:=by
 induction n with
 |zero=>simp[mS]
 |succ n ih=>rw[Xt,alB,ih]
def agx{w3 wq:Abc}{g:Nat}(h:w3.heap.size<wq.heap.size)(hg:g<w3.heap.size):g<wq.heap.size:=by omega
def BB(b:ao)(l:List Cut):List Int:=mS b l l.length
def alD{w:Abc}{b:ao}{l:List Cut}{pv bv tv lv:Value}{B:Nat}(hB:B<=w.heap.size)(ai:bg w B b pv bv tv)(hl:Row w B 2 Cut.R lv l)(h:cj b (ez b l)=0)(D4:FJ b (aD b) l=true):
 Aet prog 31 #[.agg #[.int .i64 b.ag,pv,bv,tv],lv] w λe w'=>∃v,e=.returned (.tuple #[v,.int .i64 0])/\w'.ownsRow w.heap.size 3 1 v (BB b l).length ((BB b l).map (Afx .i64))/\Below w.heap.size w w':=by
 have st:Still B w ((w.alloc (.cells #[.int .i64 b.ag,pv,bv,tv] 26)).alloc (.cells #[lv] 27)):=((Still.refl w).alloc hB _).alloc (by simp;omega) _
 have aB:=Afl (yL (w:=((w.alloc (.cells #[.int .i64 b.ag,pv,bv,tv] 26)).alloc (.cells #[lv] 27))) (B:=B) (by simp;omega) (ai.still st) (RA (by simp;omega) (ai.still st) (hl.still st λ_ _ h=>h) (Bk.cG (g:=w.heap.size+1) (by simp) _ _)) h)
 have hz:=pq h;have hv:=iy hz.1;have OK:=Afl (Aee (GI hv hz.2.1) (uG hv));have bT:=Afl ai;have uB:=Afl hl;have HV:=Afl hv;have lQ:b.aF.length<=3:=hv.nb;have KZ:=Afl D4;obtain⟨i0,cR,cT,aN,ba⟩:=Agy Oo;have dv:=Afl (Aee cR (Aee cT (Aee aN ba)));obtain⟨A1,n1,c1,rfl,-⟩:=ai.pieces.open_;obtain⟨A2,n2,c2,rfl,e2,h2,dW,r2⟩:=ai.aF.open_;obtain⟨A3,n3,c3,rfl,-⟩:=ai.aJ.open_;obtain⟨A,n,c,rfl,e5,h5,GW,r5⟩:=hl.open_;have R2:=Afl r2;have R5:=Afl r5;have wJ:=Afl (Aee e2 e5);unfold Aes at dW GW;have UT:n2<=3:=by omega
 clear ai hl st hz hv h cR cT aN ba r2 r5 e2 e5 D4 lQ;go_enter func31,Tryz.ntmps31;go_wp2_with (first
  | (go_at_call 98;refine aB.out.mono ?_;rintro e w1 ⟨sv,rfl,aG,ae⟩
     obtain⟨A9,n9,c9,rfl,cY,nG,py,iN⟩:=aG.row.open_;have HO:=Afl aG;have kb:Hid (Bk w1 w.heap.size 26 #[.int .i64 b.ag,.slice A1 n1 c1,.slice A2 n2 c2,.slice A3 n3 c3]):=Afl (((Bk.new w _ _).alloc _).below ae (by simp;omega))
     have kl:Hid (Bk w1 (w.heap.size+1) 27 #[.slice A n c]):=Afl ((Bk.cG (by simp) _ _).below ae (by simp))
     have aN:w.heap.size+2<=w1.heap.size:=by have:=ae.size;simpa using this
     have afU:w.heap.size+1<w1.heap.size:=by omega
     have afV:w.heap.size+1<=w1.heap.size:=by omega
     have l0:=kl.out.cell 0;have cF:Below w.heap.size w w1:=((((Aft _ _).alloc (Ad4 _) _).alloc (by simp) _).trans (ae.mono (by simp;omega)))
     have aY:=Afl cF;have Lf:Hid (Aet prog 114 #[.agg #[.int .i64 b.ag,.slice A1 n1 c1,.slice A2 n2 c2,.slice A3 n3 c3,.slice A9 n9 c9],.slice A n c] (w1.alloc (.cells #[.int .i64 b.ag,.slice A1 n1 c1,.slice A2 n2 c2,.slice A3 n3 c3,.slice A9 n9 c9] 122)) λe w'=>e=.returned (.bool true)/\Below (w1.heap.size+1) (w1.alloc (.cells #[.int .i64 b.ag,.slice A1 n1 c1,.slice A2 n2 c2,.slice A3 n3 c3,.slice A9 n9 c9] 122)) w'):=Afl (by
      have uf:Still B w (w1.alloc (.cells #[.int .i64 b.ag,.slice A1 n1 c1,.slice A2 n2 c2,.slice A3 n3 c3,.slice A9 n9 c9] 122)):=(Still.aK cF hB).alloc (by omega) _
      refine(XH (B:=w1.heap.size) (ps:=aD b) (b:=b) (l:=l) ((bT.out.still uf).more (by omega)) (aG.row.still ((Still.refl w1).alloc (Ad4 _) _) λ_ _ h=>h) ((uB.out.still uf λ_ _ h=>h).more (by omega)) (by simp) OK.out.1 OK.out.2).mono ?_
      rintro e w' ⟨rfl,hb⟩;rw[KZ.out];exact⟨rfl,hb.mono (by simp)⟩)
     clear ae aG cY iN cF)
  | (go_at_call 114
     refine Lf.out.mono ?_
     rintro e w2 ⟨rfl,ak⟩;have kf:Bk w2 w1.heap.size 122 #[.int .i64 b.ag,.slice A1 n1 c1,.slice A2 n2 c2,.slice A3 n3 c3,.slice A9 n9 c9]:=(Bk.new w1 _ _).below ak (by omega)
     have KF:=Afl kf;have xI:Below w1.heap.size w1 w2:=((Aft _ _).alloc (by omega) _).trans (ak.mono (by omega))
     have dV:=Afl xI;have ba:w1.heap.size+1<=w2.heap.size:=kf.lt;have mH:=kb.out.below xI (by omega)
     have b2: w2.cell? ⟨w.heap.size,2,none⟩=some (.slice A2 n2 c2):=mH.cell 2;have jB:w.heap.size<w2.heap.size:=by omega
     have Vt:w.heap.size<=w2.heap.size:=by omega
     clear kf mH ak xI l0))
 go_loopw [8,10,32] (λo p u wr=>∃i:Nat,i<=n2/\u=.int .i64 i/\Hid (wr.ownsRow w2.heap.size 3 1 o i ((b.aF.take i).map λx=>.int .i64 x.aH))/\Hid (Below w2.heap.size w2 wr)) (λ_ _ u _=>n2 - (Ahb u).toNat)
 case atStart=>exact⟨0,Agl _,rfl,Afl ⟨by simp,.inl ⟨rfl,rfl⟩⟩,Afl (Aft _ _)⟩
 case round=>
  obtain⟨i,hi,rfl,Ga,hb⟩:=hrel;have aI:=hb.out.size;have st:Still B w wr:=(Still.aK aY.out hB).trans (Still.aK (dV.out.trans (hb.out.mono (by omega))) (by omega))
  by_cases al:i<n2
  ·obtain⟨ad,x,cs,rfl,aC,hx,⟨kv,rfl,dH,dj⟩,-,au⟩:=R2.out i al
   obtain⟨A6,n6,c6,rfl,-⟩:=dj.open_;have g0:=cC au st aC rfl;have g1:=bK au st aC 0 rfl;have g2:=bK au st aC 1 rfl;have xD:(ad.add (i * 3)).block<wr.heap.size:=by rw[cq];omega
   have HX:=Afl hx;clear hx au dj st;go_wp2_with (first
    | (at_builtin
       refine Agz _ rfl (.tmp 36) (.tmp 39) 33 rfl w2.heap.size 3 i0 (.int .i64 0) 1 8 (U Tryz.underlying33) dv.out.1 dv.out.2.1 dv.out.2.2.1 dv.out.2.2.2 rfl (by decide) _ i _ rfl ((Ga.out.alloc _).alloc _) ⟨wr.heap.size+1,0,none⟩ 1 1 [.int .i64 x.aH] rfl rfl ?c1 ?c2 ?c3 ?c4 ?c5 ?_
       case c1=>(intro j u hu;match j,hu with|0,hu=>(simp at hu;subst hu;simp[go_sem,Ag6]))
       case c2=>simp[Value.oneCell']
       case c3=>(simp only[Aes];omega)
       case c4=>omega
       case c5=>(simp;omega)
       intro v' w3 cK dT _;have gW:=Afl cK;have gV:=Afl dT;clear cK dT))
   go_roundw;case rel=>exact⟨i+1,by omega,by go_num,Afl (by rw[oJ HX.out,Ahm];exact gW.out),
    Afl ((hb.out.trans (((Aft _ _).alloc aI _).alloc (by simp;omega) _)).grown gV.out (by simp;omega) (λk hk=>ei Ga.out k hk))⟩
   case measure=>simp[Ahb];omega
  ·obtain rfl:i=n2:=by omega
   have vq:((b.aF.take i).map λx=>Afx .i64 x.aH)=(mS b l 0).map (Afx .i64):=by
    rw[Agc (Agn wJ.out.1)];simp[mS]
   have YQ:Hid (wr.ownsRow w2.heap.size 3 1 u8 i ((mS b l 0).map (Afx .i64))):=Afl (vq▸Ga.out);have ux:Hid (Below w1.heap.size w1 wr):=Afl (dV.out.trans (hb.out.mono (by omega)))
   have AU:Bk wr w1.heap.size 122 #[.int .i64 b.ag,.slice A1 n1 c1,.slice A2 i c2,.slice A3 n3 c3,.slice A9 n9 c9]:=KF.out.below hb.out (by omega)
   have f0:=AU.cell 0;have f1:=AU.cell 1;have f2:=AU.cell 2;have f3:=AU.cell 3;have f4:=AU.cell 4;have GR:=Afl (TC (w:=wr) (B:=w1.heap.size) (s:=b.ag) (ps:=aD b) (pv:=.slice A1 n1 c1) (bv:=.slice A2 i c2) (tv:=.slice A3 n3 c3) (HO.out.row.still (Still.aK ux.out (Ad4 _)) λ_ _ h=>h) (by omega) ⟨_,_,_,rfl⟩ ⟨_,_,_,rfl⟩ ⟨_,_,_,rfl⟩)
   obtain⟨G,hG⟩:∃G,G=cz (aD b):=⟨_,rfl⟩
   rw[<-hG] at GR;unfold an.cs at GR;have HG:=Afl hG;clear hG vq Ga AU;go_wp2_with (first
    | (go_at_call 115
       refine GR.out.mono ?_
       rintro e w3 ⟨rfl,bD⟩;have MN:Below w2.heap.size w2 w3:=hb.out.trans (bD.mono (by omega))
       have wN:=Afl MN;have VP:Bk w3 (w.heap.size+1) 27 #[.slice A n c]:=kl.out.below (dV.out.trans (MN.mono (by omega))) (by omega)
       have l0:=VP.cell 0;have vG:wr.heap.size<=w3.heap.size:=bD.size;have An:w.heap.size+1<w3.heap.size:=by omega
       have aoR:w.heap.size+1<=w3.heap.size:=by omega
       have uC:Hid (w3.ownsRow w2.heap.size 3 1 u8 i ((mS b l 0).map (Afx .i64))):=Afl (qO YQ.out bD (Ad4 _));clear bD MN VP f0 f1 f2 f3 f4))
   obtain⟨A8,c8,rfl,IP,hc8,ad7⟩:=II uC.out;unfold Aes at ad7;go_loopw [12,13,46] (λp q u wq=>∃j:Nat,j<=n/\u=.int .i64 j/\Hid (wq.ownsRow w2.heap.size 3 1 (.slice A8 i c8) i ((mS b l j).map (Afx .i64)))/\Hid (Below w2.heap.size w2 wq)/\Hid (Bk wq w3.heap.size 128 #[.int .i64 G.a,.int .i64 G.b,.int .i64 G.c])) (λ_ _ u _=>n - (Ahb u).toNat)
   case atStart=>exact⟨0,Agl _,rfl,Afl (uC.out.alloc _),Afl (wN.out.alloc (by have:=wN.out.size;omega) _),Afl (Bk.new w3 _ _)⟩
   case round=>
    obtain⟨wq,rfl⟩:∃wq:Abc,wq=wr:=⟨_,rfl⟩
    obtain⟨j,hj,rfl,F9,Dp,Hl⟩:=hrel;have aoM:=Dp.out.size;have Hp:=Hl.out.lt;by_cases al:j<n
    ·obtain⟨ad,x,cs,rfl,aC,hx,rfl,-,au⟩:=R5.out j al
     obtain⟨bd,fr⟩:=x;have ID:=OK.out.1.kD j _ hx;obtain⟨k,hk,da⟩:=ID.bp;obtain rfl:bd=(k:Int):=hk;have b7:0<=fr/\fr<=40:=ID.from_;have qu:k<i:=by have:=wJ.out.1;omega
     have DE:j<3:=by have:=OK.out.1.len;have:=OK.out.1.three;have:=wJ.out.2;omega
     have Us:(j:Int)<3:=by omega
     obtain⟨g8,rfl,Nn,aeB,anP,aei⟩:=IP (by omega)
     obtain⟨Rs,xb,csb,eb,TT,Oi,⟨kvb,rfl,aoE,aeU⟩,-,aeT⟩:=R2.out k qu;subst eb;have aor:(mS b l j).length=i:=by rw[Xs];exact wJ.out.1
     obtain⟨ov,vv⟩:∃ov,(mS b l j)[k]?=some ov:=⟨_,Af6 (by omega)⟩
     have st:Still B w wq:=(Still.aK aY.out hB).trans (Still.aK (dV.out.trans (Dp.out.mono (by omega))) (by omega))
     have h0:=cC au st aC rfl;have h1:=bK au st aC 0 rfl;have q1:=bK aeT st TT 0 rfl;have o1: wq.cell? ⟨g8,k,none⟩=some (.int .i64 ov):=by
      have:=vT F9.out k (.int .i64 ov) (by rw[Ahy,vv];rfl)
      rwa[nu] at this
     have z1: wq.frozen? ⟨g8,k,none⟩=false:=by
      obtain⟨_,_,e,h,_⟩:=II F9.out;obtain⟨g,e2,_,_,cur,hc⟩:=h (by omega)
      cases e;cases e2;rw[Go.Sim.xm (a:=⟨g8,k,none⟩) hc];rfl
     have VN:=kb.out.below (dV.out.trans (Dp.out.mono (by omega))) (by omega)
     have b2: wq.cell? ⟨w.heap.size,2,none⟩=some (.slice (some Rs) i c2):=VN.cell 2;have gj: wq.cell? ⟨w3.heap.size,j,none⟩=some (.int .i64 (G.at j)):=(Hl.out.cell j).trans (an.uR (n:=G) DE);have UP:mJ b k=xb.aH.toNat:=by unfold mJ;rw[Oi]
     have Eg:=(HV.out.bp xb (Agd Oi)).aH;have Ph:=(TE (aD b) OK.out.2) j;rw[<-HG.out] at Ph;have NX:Hid (mS b l (j+1)=(mS b l j).set k (min ov (xb.aH - fr - G.at j))):=Afl (by
      rw[Xt];unfold FF;rw[hx,<-HG.out];simp only[Int.toNat_natCast,vv,Option.getD_some,UP];rw[Int.toNat_of_nonneg (by omega)])
     have y0:g8<wq.heap.size:=by have:=wN.out.size;exact agx (w3:=w3) Hl.out.lt aeB
     have y1:w.heap.size<wq.heap.size:=by omega
     have y2:w.heap.size<=wq.heap.size:=by omega
     have y3:w3.heap.size<=wq.heap.size:=by omega
     have y4:(Rs.add (k * 3)).block<wq.heap.size:=by rw[cq];omega
     have y5:(ad.add (j * 2)).block<wq.heap.size:=by rw[cq];omega
     have y6:g8<=wq.heap.size:=by omega
     have aop:(k:Int)<i:=by omega
     clear hx au ID Oi aeT aeU vv VN st aei UP;go_wp2;refine ua 24 (by kernel_rfl) (by kernel_rfl) ?_
     simp only[Agf,Agg,Agh,Agi];repeat still_step
     refine wpStill_nil ?_
     go_wp2;go_roundw;case rel=>exact⟨j+1,by omega,by go_num,Afl (by
      rw[NX.out,List.map_set];exact(IG (u:=.int .i64 (min ov (xb.aH - fr - G.at j))) F9.out (by omega)).alloc _),
      Afl (iY ((Dp.out.setCell (p:=⟨g8,k,none⟩) Nn _).alloc (by simp[Adx];omega) _)),Afl (Bk.alloc (Hl.out.cu (by simp;omega) _) _)⟩
     case measure=>simp[Ahb];omega
    ·obtain rfl:j=n:=by omega
     go_wp2
     go_ret2
     refine⟨_,rfl,?_,?_⟩
     ·have rJ:(BB b l).length=i:=by unfold BB;rw[Xs];exact wJ.out.1
      rw[rJ];unfold BB;rw[wJ.out.2];exact F9.out.base (by omega)
     ·exact aY.out.trans ((dV.out.mono (by omega)).trans (Dp.out.mono (by omega)))
def alC{w:Abc}{b:ao}{l:List Cut}{pv bv tv lv:Value}{B:Nat}(hB:B<=w.heap.size)(ai:bg w B b pv bv tv)(hl:Row w B 2 Cut.R lv l)(h:cj b (ez b l)=0)(D4:FJ b (aD b) l=false):
 Aet prog 31 #[.agg #[.int .i64 b.ag,pv,bv,tv],lv] w λe w'=>e=.returned (.tuple #[.slice none 0 0,.int .i64 8])/\Below w.heap.size w w':=by
 have st:Still B w ((w.alloc (.cells #[.int .i64 b.ag,pv,bv,tv] 26)).alloc (.cells #[lv] 27)):=((Still.refl w).alloc hB _).alloc (by simp;omega) _
 have aB:=Afl (yL (w:=((w.alloc (.cells #[.int .i64 b.ag,pv,bv,tv] 26)).alloc (.cells #[lv] 27))) (B:=B) (by simp;omega) (ai.still st) (RA (by simp;omega) (ai.still st) (hl.still st λ_ _ h=>h) (Bk.cG (g:=w.heap.size+1) (by simp) _ _)) h)
 have hz:=pq h;have hv:=iy hz.1;have OK:=Afl (Aee (GI hv hz.2.1) (uG hv));have bT:=Afl ai;have uB:=Afl hl;have HV:=Afl hv;have lQ:b.aF.length<=3:=hv.nb;have KZ:=Afl D4;obtain⟨A1,n1,c1,rfl,-⟩:=ai.pieces.open_;obtain⟨A2,n2,c2,rfl,e2,h2,dW,r2⟩:=ai.aF.open_;obtain⟨A3,n3,c3,rfl,-⟩:=ai.aJ.open_;obtain⟨A,n,c,rfl,e5,h5,GW,r5⟩:=hl.open_;have R2:=Afl r2;have R5:=Afl r5;have wJ:=Afl (Aee e2 e5);unfold Aes at dW GW;have UT:n2<=3:=by omega
 clear ai hl st hz hv h r2 r5 e2 e5 D4 lQ;go_enter func31,Tryz.ntmps31;go_wp2_with (first
  | (go_at_call 98;refine aB.out.mono ?_;rintro e w1 ⟨sv,rfl,aG,ae⟩
     obtain⟨A9,n9,c9,rfl,cY,nG,py,iN⟩:=aG.row.open_;have HO:=Afl aG;have kb:Hid (Bk w1 w.heap.size 26 #[.int .i64 b.ag,.slice A1 n1 c1,.slice A2 n2 c2,.slice A3 n3 c3]):=Afl (((Bk.new w _ _).alloc _).below ae (by simp;omega))
     have kl:Hid (Bk w1 (w.heap.size+1) 27 #[.slice A n c]):=Afl ((Bk.cG (by simp) _ _).below ae (by simp))
     have aN:w.heap.size+2<=w1.heap.size:=by have:=ae.size;simpa using this
     have afU:w.heap.size+1<w1.heap.size:=by omega
     have afV:w.heap.size+1<=w1.heap.size:=by omega
     have l0:=kl.out.cell 0;have cF:Below w.heap.size w w1:=((((Aft _ _).alloc (Ad4 _) _).alloc (by simp) _).trans (ae.mono (by simp;omega)))
     have aY:=Afl cF;have Lf:Hid (Aet prog 114 #[.agg #[.int .i64 b.ag,.slice A1 n1 c1,.slice A2 n2 c2,.slice A3 n3 c3,.slice A9 n9 c9],.slice A n c] (w1.alloc (.cells #[.int .i64 b.ag,.slice A1 n1 c1,.slice A2 n2 c2,.slice A3 n3 c3,.slice A9 n9 c9] 122)) λe w'=>e=.returned (.bool false)/\Below (w1.heap.size+1) (w1.alloc (.cells #[.int .i64 b.ag,.slice A1 n1 c1,.slice A2 n2 c2,.slice A3 n3 c3,.slice A9 n9 c9] 122)) w'):=Afl (by
      have uf:Still B w (w1.alloc (.cells #[.int .i64 b.ag,.slice A1 n1 c1,.slice A2 n2 c2,.slice A3 n3 c3,.slice A9 n9 c9] 122)):=(Still.aK cF hB).alloc (by omega) _
      refine(XH (B:=w1.heap.size) (ps:=aD b) (b:=b) (l:=l) ((bT.out.still uf).more (by omega)) (aG.row.still ((Still.refl w1).alloc (Ad4 _) _) λ_ _ h=>h) ((uB.out.still uf λ_ _ h=>h).more (by omega)) (by simp) OK.out.1 OK.out.2).mono ?_
      rintro e w' ⟨rfl,hb⟩;rw[KZ.out];exact⟨rfl,hb.mono (by simp)⟩)
     clear ae aG cY iN cF)
  | (go_at_call 114
     refine Lf.out.mono ?_
     rintro e w2 ⟨rfl,ak⟩;have kf:Bk w2 w1.heap.size 122 #[.int .i64 b.ag,.slice A1 n1 c1,.slice A2 n2 c2,.slice A3 n3 c3,.slice A9 n9 c9]:=(Bk.new w1 _ _).below ak (by omega)
     have KF:=Afl kf;have xI:Below w1.heap.size w1 w2:=((Aft _ _).alloc (by omega) _).trans (ak.mono (by omega))
     have dV:=Afl xI;have ba:w1.heap.size+1<=w2.heap.size:=kf.lt;have mH:=kb.out.below xI (by omega)
     have b2: w2.cell? ⟨w.heap.size,2,none⟩=some (.slice A2 n2 c2):=mH.cell 2;have jB:w.heap.size<w2.heap.size:=by omega
     have Vt:w.heap.size<=w2.heap.size:=by omega
     clear kf mH ak xI l0))
 go_ret2
 exact⟨rfl,aY.out.trans (dV.out.mono (by omega))⟩
def oN(w:Abc)(g n:Nat)(xs:List Int):Prop:=
 ∃D:DataW Nat,w.ownsMap prog 3 (plainElem prog 3) g n D/\Maps.IsMap D/\∀x:Int,lI x->D.atKey (.int .i64 x) (.lit (.int .i64 0))=.lit (.int .i64 (xs.count x:Nat))
def Jm:prog.underlying 3=some (.int .i64):=(U Tryz.underlying3).trans rfl
def XV:prog.underlying 174=some (.map 3 3):=(U Tryz.underlying174).trans rfl
def OH{a:Int}(h:lI a):keyOf prog 3 (.int .i64 a)=some (.int .i64 a):=Maps.keyOf_int_mk Jm (BJ h)
def anq(W:Abc):(zeroValue 3).run prog W=.ok (.int .i64 0) W:=by rw[Qb];kernel_rfl
def OJ:Maps.Keyed prog 3:=Maps.int_keyed Jm
def oN.kept{w w':Abc}{g n:Nat}{xs:List Int}{row:Option Nat}(h:oN w g n xs)(hg:w.grownBy w' row)(aw:some g≠row):oN w' g n xs:=by
 obtain⟨D,h1,h2,h3⟩:=h;exact⟨D,h1.kept hg aw,h2,h3⟩
def oN.lt{w:Abc}{g n:Nat}{xs:List Int}(h:oN w g n xs):g<w.heap.size:=by obtain⟨D,h1,_⟩:=h;exact h1.lt
def oN.made(w:Abc):oN (w.alloc (.map #[] 0)) w.heap.size 0 []:=
 ⟨.map [],World.ownsMap_made w prog 3 _,⟨_,rfl⟩,λx _=>rfl⟩
def Yd{ops:Array Oper}{rest:List Oper}{o:Oper}{a:Act}{w:Abc}{Q:Exit->Act->Abc->Prop}(hg:o.guard=none)(m x:Abm)(ab:o.op=Op.lookup 174 m x false)
 (g n:Nat)(xs:List Int)(k:Int)(hk:lI k)(hm:a.eval m=.map (some g))(hx:a.eval x=.int .i64 k)(h:oN w g n xs)
 (hK:Ag5 prog ops Q rest (a.put o.dst (.int .i64 (xs.count k:Nat))) w):Ag5 prog ops Q (o::rest) a w:=by
 obtain⟨D,h1,h2,h3⟩:=h;refine wpList_lookup_own_int w hg m x 174 ab 3 3 .i64 OJ XV Jm (anq w) g n D hm h1 _ _ hx (OH hk) ?_
 intro c ou _;rw[h3 k hk] at ou;injection ou with ou;injection ou with _ ou
 rw[<-ou];exact hK
def ane{ops:Array Oper}{rest:List Oper}{o:Oper}{a:Act}{w:Abc}{Q:Exit->Act->Abc->Prop}(hg:o.guard=none)(m x v:Abm)(ab:o.op=Op.mapUpdate 174 m x v)
 (g n:Nat)(xs:List Int)(k:Int)(hk:lI k)(hn:n<Aes)(hc:xs.count k+1<=Aes)(hm:a.eval m=.map (some g))(hx:a.eval x=.int .i64 k)(hv:a.eval v=.int .i64 ((xs.count k:Nat)+1))(h:oN w g n xs)
 (hK:∀w',oN w' g (n+1) (xs++ [k])->w.grownBy w' (some g)->Ag5 prog ops Q rest (a.put o.dst undef) w'):Ag5 prog ops Q (o::rest) a w:=by
 obtain⟨D,h1,h2,h3⟩:=h;unfold Aes at hc;refine wpList_mapUpdate_own w hg m x v 174 ab 3 3 OJ XV _ g n D hm h1 hn _ _ _ hx hv (OH hk) (.lit (.int .i64 ((xs.count k:Nat)+1))) [] (plainElem_int Jm (BJ ⟨by omega,by omega⟩)) ?_
 intro w' AN eh;refine hK w' ⟨_,AN,AN.isMap,λy hy=>?_⟩ eh
 by_cases e:y=k
 ·subst e
  rw[Maps.atKey_put_same h2 (OJ.key (OH hk)),List.count_append];simp
 ·rw[Maps.atKey_put_other (by intro h;injection h with _ h;exact e h),h3 y hy,List.count_append]
  simp[List.count_cons,Ne.symm e,e]
def anc{ops:Array Oper}{rest:List Oper}{o:Oper}{a:Act}{w:Abc}{Q:Exit->Act->Abc->Prop}(hg:o.guard=none)(t:Aa8)(ab:o.op=Op.makeMap t none)
 (hK:Ag5 prog ops Q rest (a.put o.dst (.map (some w.heap.size))) (w.alloc (.map #[] 0))):Ag5 prog ops Q (o::rest) a w:=by
 refine wpList_plain hg λK' Db=>?_
 unfold Oper.wp;have bz:=RowKit.run_makeMap (P:=prog) t w;simp[execOp,ab,bz,Aha];exact Db _ _ hK
def Z9{wp w2:Abc}{g k:Nat}{x:an}{v:Int}(hg:(wp.alloc (.cells #[.int .i64 x.a,.int .i64 x.b,.int .i64 x.c] 128)).grownBy w2 (some g))(al:g<wp.heap.size)(hk:k<3)(hv:v=x.at k):
 w2.cell? ⟨wp.heap.size,k,none⟩=some (.int .i64 v):=by
 have h:Bk w2 wp.heap.size 128 #[.int .i64 x.a,.int .i64 x.b,.int .i64 x.c]:=(Bk.new wp _ _).grown hg (by simp;omega)
 rw[hv];exact(h.cell k).trans (an.uR (n:=x) hk)
def lZ(xs:List Int):Nat->Int
 |0=>0
 |j+1=>max (lZ xs j) ((xs.take (j+1)).count (xs.getD j 0):Nat)
def gZ(b:ao):Nat->Int×Int
 |0=>(-1,(aD b).length)
 |k+1=>let m:=lZ ((aD b).map (·.at k)) (aD b).length;if m<(gZ b k).2 then(k,m) else gZ b k
def Cu(b:ao):Int×Int:=gZ b b.pieces.length
def OW(xs:List Int):∀j,0<=lZ xs j/\lZ xs j<=j
 |0=>by simp[lZ]
 |j+1=>by
  have:=OW xs j;have h1:((xs.take (j+1)).count (xs.getD j 0))<=j+1:=Ad5 List.count_le_length (by simp;omega)
  unfold lZ;omega
def Ry(b:ao):∀k,-1<=(gZ b k).1/\(gZ b k).1<=k/\0<=(gZ b k).2/\(gZ b k).2<=(aD b).length
 |0=>by simp[gZ]
 |k+1=>by
  have h:=Ry b k;have h2:=OW ((aD b).map (·.at k)) (aD b).length
  unfold gZ;simp only;split
  ·refine⟨?_,?_,?_,?_⟩<;>simp only<;>omega
  ·refine⟨?_,?_,?_,?_⟩<;>omega
def Rz{b:ao}{k:Nat}{m p l:Int}(h:p=(gZ b k).1/\l=(gZ b k).2)(hm:m=lZ ((aD b).map (·.at k)) (aD b).length)(al:m<l):gZ b (k+1)=((k:Int),m):=by
 show(if lZ ((aD b).map (·.at k)) (aD b).length<(gZ b k).2 then((k:Int),lZ ((aD b).map (·.at k)) (aD b).length) else gZ b k)=_
 rw[<-hm,<-h.2,if_pos al]
def Rx{b:ao}{k:Nat}{m p l:Int}(h:p=(gZ b k).1/\l=(gZ b k).2)(hm:m=lZ ((aD b).map (·.at k)) (aD b).length)(al:¬m<l):gZ b (k+1)=(p,l):=by
 show(if lZ ((aD b).map (·.at k)) (aD b).length<(gZ b k).2 then((k:Int),lZ ((aD b).map (·.at k)) (aD b).length) else gZ b k)=_
 rw[<-hm,<-h.2,if_neg al,h.1,h.2]
end Go.Tw
