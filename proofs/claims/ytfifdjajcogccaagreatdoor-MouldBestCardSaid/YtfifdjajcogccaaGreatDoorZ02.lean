import Derived.Test.YtfifdjajcogccaaGreatDoorZ01
import Derived.RangeFuncCalls
import Derived.Laws.EntriesVeiled
import Derived.DeepKeys5
import Derived.Laws.CopyOwn
set_option linter.all false
set_option maxHeartbeats 0
set_option maxRecDepth 100000
open And renaming intro -> Ϗ
open Array renaming getElem?_eq_some_iff -> Ϝ, replicate_succ -> Ŧ, replicate_zero -> ŧ, getElem?_toList -> į
open Bool renaming false_eq -> Ż
open Go renaming maxLen -> ϕ, callsIn_of_wp -> Ag1, Ending -> Ŏ, grownBy_putObj' -> İ, Calls -> ύ, info_parts -> Ö, run_takeDeferred -> Ag5, bodyPost_ret -> ø, wpList_append_own -> ĝ
open Go.Addr renaming add -> Č
open Go.Fence renaming wide -> Ċ
open Go.Instr renaming index -> ģ, lookup -> Ś, mapUpdate -> ś
open Go.IntKind renaming i64 -> Ϛ
open Go.Obj renaming cells -> Ϧ
open Go.Oper renaming semAt_some -> Aha
open Go.Program renaming fieldsOf -> Ahb
open Go.Result renaming andThen -> ż
open Go.RowKit renaming intOf -> ϑ
open Go.RowKit.Below renaming heap_setCell -> å, heap_alloc -> Ahf, grown -> Ahg, setCell -> ļ, refl -> ό, alloc -> Ũ
open Go.Value renaming int -> Ϟ
open Go.World renaming putObj_heap_same -> ŏ, putObj_heap_other -> Å, setCell -> ü, size_alloc -> Ahl, cell?_alloc_lt -> ð, grownBy_alloc -> Â
open Go.World.ownsRow renaming alloc -> Ő
open List renaming range -> ϣ, size_toArray -> ũ, length_cons -> Ė, length_nil -> Ū, push_toArray -> ū, append_toArray -> ő, nil_append -> ù, cons_append -> Œ, getElem?_eq_some_iff -> Ϫ, take_append_drop -> Ahv, flatMap_append -> Ĥ, flatMap_cons -> č, length_append -> Þ, getElem?_map -> ú, mem_of_getElem? -> ϡ, flatMap_singleton -> Ah0, take_of_length_le -> Õ, append_nil -> Ah1, getElem?_append_right -> Ah2, length_take_le -> ō, mem_cons -> Ϡ, mem_flatMap -> Ah3, mem_map -> ô, mem_range -> Ď, length_filter_le -> Agg, map_append -> È, length_singleton -> ź, getElem?_eq_getElem -> Ñ, take_succ_cons -> ñ, take_zero -> þ, drop_succ_cons -> õ, drop_zero -> ö, mem_append -> ĉ, exists_of_findSome?_eq_some -> Ĵ, range_succ -> œ, getElem_of_mem -> Ah9, pairwise_iff_getElem -> Aia, getElem?_eq_none -> Aib, dropLast_concat_getLast -> Aic, getLast?_eq_some_getLast -> Aid, mem_of_getLast? -> Aie, eq_nil_of_length_eq_zero -> Ž, length_map -> ã
open Nat renaming le_refl -> ϊ, reduceAdd -> Ŕ, reduceSub -> Ŭ, zero_le -> ϛ, add_mul -> Aij, mul_le_mul_right -> ž, le_trans -> Ϥ, pow_le_pow_right -> Ail, le_of_eq -> ò, min_eq_left -> Aim, lt_succ_iff_lt_or_eq -> Ϯ, mul_one -> Ì
open Option.some renaming inj -> ϟ
open Bool renaming true -> D, false -> U
open Go renaming Value -> z, undef -> L, World -> N
open Go.Ending renaming returned -> Ω
open Go.IntKind renaming i64 -> I
open Go.Lib renaming hid -> K
open Go.Obj renaming cells -> Ξ
open Go.RowKit renaming Below -> Γ, Below -> Γ
open Go.Value renaming slice -> E, pointer -> π, tuple -> μ, agg -> η, int -> Y
open Option renaming some -> J, none -> H
variable{α:Type}{ops:Array Go.Oper}{ps:Array Go.Tmp}{lb tmps cs kE:Array z}{p:Go.Addr}{assign body:Go.Code}{fn:Go.FuncId}{rc rec:Go.Loop}{o:Go.Obj}{P:Go.Program}{x:Go.Tw.Span}{b:Go.Tw.eR}{e:Go.TypeId}{a c m d bd fr ln be from_ length:Int}{rest:List Go.Oper}{out:List Go.Tw.al}{l zs:List Int}{xs:List z}{B g n i k ψ f θ cap j q KO KM:Nat}{w W w' W' Wb W4:N}{bv pv tv v lv u sv av mv:z}
namespace Go.Tw
variable [Go.Tw.aK]
open Go Go.Proofs Go.RowKit
def AZ(f:FuncId):Ċ.fn f=True:=rfl
def AY:Ċ.depth=H:=rfl
attribute [local go_sem] AZ AY Aha
def al.set(ω:al)(i:Nat)(k:Int):al:=if i=0 then {ω with a:=k} else if i=1 then {ω with b:=k} else {ω with c:=k}
def iJ(x:Span):List Int:=(ϣ (x.hi - x.lo+1).toNat).map λ(j:Nat)=>x.lo+j
def dU(b:eR):Nat->Nat->al->List al
 |0,_,n=>if tC n b.aI then [n] else []
 |f+1,i,n=>match b.pieces[i]? with
  |some p=>(iJ p.len).flatMap λk=>dU b f (i+1) (n.set i k)
  |none=> []
def aB(b:eR):List al:=dU b b.pieces.length 0 ⟨0,0,0⟩
def al.vs(ω:al):List z:=[Y I ω.a,Y I ω.b,Y I ω.c]
structure AI(w:N)(b:eR)(pv bv tv:z)(rec:Loop)(n:al)(out:List al)(W:N):Prop where
 p:Bk W (w.heap.size+4) 117 #[Y I b.ab,pv,bv,tv]
 y:Bk W (w.heap.size+5) 182 #[.func (.yield (w.heap.size+3)) #[] #[]]
 n:Bk W (w.heap.size+6) 128 n.cs
 x:Bk W (w.heap.size+7) 158 #[.func (.func 188) #[] #[π (J ⟨w.heap.size+4,0,H⟩),π (J ⟨w.heap.size+6,0,H⟩),π (J ⟨w.heap.size+5,0,H⟩),π (J ⟨w.heap.size+7,0,H⟩)]]
 o:∃v,Bk W (w.heap.size+1) 115 #[v]/\W.ownsRow (w.heap.size+8) 128 3 v out.length (out.flatMap al.vs)
 d:W.heap[w.heap.size+2]?=J (.deferred (J []))
 l:W.heap[w.heap.size+3]?=J (.loop rec)
 below:φ w W
def si{base:Nat}{sz:Nat}(h:w.ownsRow base e sz v n xs)(hb:Γ B w w')(hB:w.heap.size<=B):w'.ownsRow base e sz v n xs:=by
 refine⟨h.1,?_⟩;rcases h.2 with h0| ⟨g,cap,cur,h1,h2,h3,h4⟩
 ·exact .inl h0
 ·exact .inr ⟨g,cap,cur,h1,h2,(hb.block g (Nat.lt_of_lt_of_le (Ϝ.1 h3).1 hB)).trans h3,h4⟩
def AI.later{n:al}(h:AI w b pv bv tv rec n out W)(hb:φ W W'):AI w b pv bv tv rec n out W':=by have h1:=h.x.lt;refine⟨h.p.below hb (by omega),h.y.below hb (by omega),h.n.below hb (by omega),h.x.below hb (by omega),?_,(hb.block _ (by omega)).trans h.d,(hb.block _ (by omega)).trans h.l,h.below.trans (hb.mono (by omega))⟩;obtain⟨v,v1,v2⟩:=h.o;exact⟨v,v1.below hb (by omega),si v2 hb (ϊ _)⟩
def aa5(w:N)(b:eR)(pv bv tv:z)(rec:Loop):Prop:=∀(m:Nat) (n:al) (out:List al) (W:N),out.length<1000->AI w b pv bv tv rec n out W->
 YieldAt Ċ m prog (w.heap.size+3) #[.agg n.cs] W λe W'=>e=Ω (.bool D)/\AI w b pv bv tv rec n (out++ [n]) W'
def amm(hB:B<=w.heap.size)(ah:aQ w B b pv bv tv)(cD:Bs b)(hY:aa5 w b pv bv tv rec){n:al}(hL:n.Ok)
 (h:AI w b pv bv tv rec n out W)(hK:out.length+(dU b 0 b.pieces.length n).length<=1000)(m:Nat):
 CallsIn Ċ m prog 188 #[Y I b.pieces.length,π (J ⟨w.heap.size+4,0,H⟩),π (J ⟨w.heap.size+6,0,H⟩),π (J ⟨w.heap.size+5,0,H⟩),π (J ⟨w.heap.size+7,0,H⟩)] W
  λe W'=>e=Ω (.bool D)/\AI w b pv bv tv rec n (out++dU b 0 b.pieces.length n) W':=by
 have HK:=K hK;clear hK;have HY:=K hY;have HI:=K h;have Ww:b.pieces.length<=9223372036854775807:=by obtain⟨A1,n1,c1,rfl,e1,h1,du,-⟩:=ah.pieces.Φ;unfold ϕ at du;omega
 obtain⟨A1,n1,c1,rfl,e1,h1,du,-⟩:=ah.pieces.Φ;have p0:=h.p.cell 0;have p1:=h.p.cell 1;have p2:=h.p.cell 2;have p3:=h.p.cell 3;have y0:=h.y.cell 0;have n0: W.cell? ⟨w.heap.size+6,0,H⟩=J (Y I n.a):=h.n.cell 0;have n1': W.cell? ⟨w.heap.size+6,1,H⟩=J (Y I n.b):=h.n.cell 1;have n2: W.cell? ⟨w.heap.size+6,2,H⟩=J (Y I n.c):=h.n.cell 2;have call:=right (w:=W) (B:=B) (ω:=n) (ah.still (Δ.aJ h.below hB)) (by have:=h.below.size;omega) cD hL
 have aG:=K call;clear hY h ah call;rw[e1] at Ww |-;have E1:=K e1;clear e1;unfold ϕ at du;cases OR:tC n b.aI with
 |false=>
  refine Ag1 func188 rfl trivial ?_;simp only[Tryz.ntmps188,ũ,Ė,Ū,Ŕ,Ŭ,Ŧ,ŧ,ū,ő,ù,Œ]
  gi_wp2_with (first
   | (gi_at_call 189;refine(callsIn_wide.2 aG.e).mono ?_;rintro e w1 ⟨rfl,ai⟩))
  go_ret;exact⟨bU rfl,by simpa [dU,OR] using HI.e.later (ai.mono (ϊ _))⟩
 |true=>
  refine Ag1 func188 rfl trivial ?_;simp only[Tryz.ntmps188,ũ,Ė,Ū,Ŕ,Ŭ,Ŧ,ŧ,ū,ő,ù,Œ]
  gi_wp2_with (first
   | (gi_at_call 189;refine(callsIn_wide.2 aG.e).mono ?_;rintro e w1 ⟨rfl,ai⟩
      have Dv:=K (HI.e.later ai);obtain⟨f1,t1,a1,b1,kC,pD⟩:=HY.e (m - 1) n out w1 (by have:=HK.e;simp[dU,OR] at this;omega) Dv.e;have Es:=K pD;have n0: w1.cell? ⟨w.heap.size+6,0,H⟩=J (Y I n.a):=Dv.e.n.cell 0;have n1': w1.cell? ⟨w.heap.size+6,1,H⟩=J (Y I n.b):=Dv.e.n.cell 1;have n2: w1.cell? ⟨w.heap.size+6,2,H⟩=J (Y I n.c):=Dv.e.n.cell 2;have y0: w1.cell? ⟨w.heap.size+5,0,H⟩=J (.func (.yield (w.heap.size+3)) #[] #[]):=Dv.e.y.cell 0;have hyy:Sem.run prog (Instr.yield (w.heap.size+3) #[η #[Y I n.a,Y I n.b,Y I n.c]]) w1=.ok (.round (w.heap.size+3) f1 t1 a1 b1) w1:=kC;clear kC pD))
  refine Es.e.mono ?_;rintro e W' ⟨rfl,h2⟩;have H2:=K h2;clear h2
  gi_wp2
  go_ret;exact⟨bU rfl,by simpa [dU,OR] using H2.e⟩
def Mj{n:al}{p:Piece}(h:b.pieces[i]?=J p):dU b (f+1) i n=(iJ p.len).flatMap λk=>dU b f (i+1) (n.set i k):=by
 conv=>lhs;unfold dU
 rw[h]
def afU{β:Type}{f:α->List β}{l:List α}{x:α}(h:l[j]?=J x):((l.take j).flatMap f).length+(f x).length<=(l.flatMap f).length:=by
 have e:l=l.take j++x::l.drop (j+1):=by obtain⟨hj,rfl⟩:=Ϫ.1 h;rw[List.getElem_cons_drop,Ahv]
 conv=>rhs;rw[e]
 simp only[Ĥ,č,Þ];omega
def Dp(i f:Nat)(n m:al):Prop:=∀q,q<3->(q<i\/i+f<=q)->n.at q=m.at q
def al.afD{n m:al}(h:∀q,q<3->n.at q=m.at q):n=m:=by have h0:=h 0 (by omega);have h1:=h 1 (by omega);have h2:=h 2 (by omega);cases n;cases m;simp[al.at] at h0 h1 h2;simp[h0,h1,h2]
def al.at_set{n:al}{k:Int}(hi:i<3)(hq:q<3):(n.set i k).at q=if q=i then k else n.at q:=by
 match i,hi,q,hq with
 |0,_,0,_=>simp[al.set,al.at]
 |0,_,1,_=>simp[al.set,al.at]
 |0,_,2,_=>simp[al.set,al.at]
 |1,_,0,_=>simp[al.set,al.at]
 |1,_,1,_=>simp[al.set,al.at]
 |1,_,2,_=>simp[al.set,al.at]
 |2,_,0,_=>simp[al.set,al.at]
 |2,_,1,_=>simp[al.set,al.at]
 |2,_,2,_=>simp[al.set,al.at]
def al.acr{n:al}(hq:2<=q):n.at q=n.c:=by unfold al.at;rw[if_neg (by omega),if_neg (by omega)]
def al.Ok.set{n:al}(h:n.Ok){i:Nat}{k:Int}(hi:i<3)(h0:0<=k)(h1:k<=1000):(n.set i k).Ok:=by
 intro q;by_cases hq:q<3
 ·rw[al.at_set hi hq];split
  ·exact⟨h0,h1⟩
  ·exact h q
 ·rw[al.acr (by omega)];have:(n.set i k).c=(n.set i k).at 2:=rfl;rw[this,al.at_set hi (by omega)];split
  ·exact⟨h0,h1⟩
  ·exact h 2
def al.aee{n:al}{k:Int}(hi:i<3):n.cs.setIfInBounds i (Y I k)=(n.set i k).cs:=by
 match i,hi with
 |0,_=>rfl
 |1,_=>rfl
 |2,_=>rfl
def al.wU{n:al}(hi:i<3):n.cs[i]?=J (Y I (n.at i)):=by
 match i,hi with
 |0,_=>rfl
 |1,_=>rfl
 |2,_=>rfl
def S5{b:eR}:∀(f i:Nat) (n m:al),i+f<=3->Dp i f n m->dU b f i n=dU b f i m
 |0,i,n,m,hi,h=>by have:n=m:=al.afD λq hq=>h q hq (by omega);rw[this]
 |f+1,i,n,m,hi,h=>by
  unfold dU;cases b.pieces[i]? with
  |none=>rfl
  |some p=>
   simp only;congr 1;funext k;refine S5 f (i+1) _ _ (by omega) λq hq qH=>?_;rw[al.at_set (by omega) hq,al.at_set (by omega) hq];split
   ·rfl
   ·exact h q hq (by omega)
def AI.aoV{n:al}(h:AI w b pv bv tv rec n out W)(hi:i<3)(k:Int):AI w b pv bv tv rec (n.set i k) out (W.setCell ⟨w.heap.size+6,i,H⟩ (Y I k)):=by
 have h1:=h.x.lt;refine⟨h.p.dV (by simp) _,h.y.dV (by simp) _,by rw[<-al.aee hi];exact h.n.set i _,h.x.dV (by simp) _,?_,(å _ _ _ _ (by simp)).trans h.d,(å _ _ _ _ (by simp)).trans h.l,h.below.setCell (by simp) _⟩;obtain⟨v,v1,v2⟩:=h.o;refine⟨v,v1.dV (by simp) _,v2.1,?_⟩;rcases v2.2 with h0| ⟨g,cap,cur,h1,h2,h3,h4⟩
 ·exact .inl h0
 ·exact .inr ⟨g,cap,cur,h1,h2,(å _ _ _ _ (by simp;omega)).trans h3,h4⟩
def QG(x:Span):(iJ x).length=(x.hi - x.lo+1).toNat:=by simp[iJ]
def YJ(h:x.lo+j<=x.hi):(iJ x)[j]?=J (x.lo+j):=by unfold iJ;rw[ú,List.getElem?_range (by omega)];rfl
def amn(hB:B<=w.heap.size)(ah:aQ w B b pv bv tv)(oP:∀p∈b.pieces,0<=p.len.lo/\p.len.hi<=1000)(eU:i+(f+1)=b.pieces.length)(h3:b.pieces.length<=3)
 (ih:∀(n:al) (out:List al) (W:N) (m:Nat),n.Ok->out.length+(dU b f (i+1) n).length<=1000->AI w b pv bv tv rec n out W->
   CallsIn Ċ m prog 188 #[Y I (i+1:Int),π (J ⟨w.heap.size+4,0,H⟩),π (J ⟨w.heap.size+6,0,H⟩),π (J ⟨w.heap.size+5,0,H⟩),π (J ⟨w.heap.size+7,0,H⟩)] W
    λe W'=>e=Ω (.bool D)/\∃n',n'.Ok/\Dp (i+1) f n' n/\AI w b pv bv tv rec n' (out++dU b f (i+1) n) W')
 {n:al}(hL:n.Ok)(hK:out.length+(dU b (f+1) i n).length<=1000)(h:AI w b pv bv tv rec n out W)(m:Nat):
 CallsIn Ċ m prog 188 #[Y I i,π (J ⟨w.heap.size+4,0,H⟩),π (J ⟨w.heap.size+6,0,H⟩),π (J ⟨w.heap.size+5,0,H⟩),π (J ⟨w.heap.size+7,0,H⟩)] W
  λe W'=>e=Ω (.bool D)/\∃n',n'.Ok/\Dp i (f+1) n' n/\AI w b pv bv tv rec n' (out++dU b (f+1) i n) W':=by
 have HI:=K h;have HK:=K hK;clear hK;obtain⟨A1,n1,c1,rfl,e1,hn,hc,T⟩:=ah.pieces.Φ;have fM:i<3:=by omega
 have dc:i<n1:=by omega
 obtain⟨ad,p,cs,rfl,aE,hp,⟨rfl,dD⟩,-,aq⟩:=T i dc;have E4:=oP p (ϡ hp);have asF:0<=p.len.lo:=E4.1;have asG:p.len.hi<=1000:=E4.2;have st:Δ B w W:=Δ.aJ h.below hB;have q1: W.cell? ⟨(ad.add (i * 4)).block,(ad.add (i * 4)).off+1,H⟩=J (Y I p.len.lo):=bj aq st aE 0 rfl;have q2: W.cell? ⟨(ad.add (i * 4)).block,(ad.add (i * 4)).off+2,H⟩=J (Y I p.len.hi):=bj aq st aE 1 rfl;have HC:=K aq;have HAD:(ad.add (i * 4)).block<w.heap.size:=by rw[b9];omega
 have p1: W.cell? ⟨w.heap.size+4,1,H⟩=J (E (J ad) n1 c1):=h.p.cell 1;have rU:((i:Int)==(n1:Int))=U:=by simp;omega
 have HE:=K e1;have HP:=K hp;have XH:=K eU;have XJ:=K ih;unfold ϕ at hc;clear ah h T oP hp aq st dD ih e1 eU E4;refine Ag1 func188 rfl trivial ?_
 simp only[Tryz.ntmps188,ũ,Ė,Ū,Ŕ,Ŭ,Ŧ,ŧ,ū,ő,ù,Œ]
 gi_wp2
 gi_loopw [7] (λk wr=>∃(j:Nat) (n':al),j<=(iJ p.len).length/\k=Y I (p.len.lo+j)/\n'.Ok/\Dp i (f+1) n' n/\Hid (AI w b (E (J ad) n1 c1) bv tv rec n' (out++((iJ p.len).take j).flatMap λk=>dU b f (i+1) (n.set i k)) wr)) (λk _=>(p.len.hi+1 - ϑ k).toNat)
 case atStart=>exact⟨0,n,ϛ _,by simp,hL,λ_ _ _=>rfl,by simpa using HI⟩
 case round=>
  obtain⟨j,n',hj,rfl,UM,Nb,hI⟩:=hrel;have st:Δ B w wr:=Δ.aJ hI.e.below hB;have q1: wr.cell? ⟨(ad.add (i * 4)).block,(ad.add (i * 4)).off+1,H⟩=J (Y I p.len.lo):=bj HC.e st aE 0 rfl;have q2: wr.cell? ⟨(ad.add (i * 4)).block,(ad.add (i * 4)).off+2,H⟩=J (Y I p.len.hi):=bj HC.e st aE 1 rfl;have p1: wr.cell? ⟨w.heap.size+4,1,H⟩=J (E (J ad) n1 c1):=hI.e.p.cell 1;have K9:=K Nb;have HJ:Hid (j<=(iJ p.len).length):=K hj;clear st Nb hj;by_cases ao:p.len.lo+j<=p.len.hi
  ·have g6: wr.cell? ⟨w.heap.size+6,i,H⟩=J (Y I (n'.at i)):=(hI.e.n.cell i).trans (al.wU fM);have z6: wr.frozen? ⟨w.heap.size+6,i,H⟩=U:=hI.e.n.frozen i;have x7: wr.cell? ⟨w.heap.size+7,0,H⟩=J (.func (.func 188) #[] #[π (J ⟨w.heap.size+4,0,H⟩),π (J ⟨w.heap.size+6,0,H⟩),π (J ⟨w.heap.size+5,0,H⟩),π (J ⟨w.heap.size+7,0,H⟩)]):=hI.e.x.cell 0;have HS:=K (hI.e.aoV fM (p.len.lo+j));have iY:dU b f (i+1) (n'.set i (p.len.lo+j))=dU b f (i+1) (n.set i (p.len.lo+j)):=by
    refine S5 _ _ _ _ (by have:=XH.e;omega) λq hq qH=>?_;rw[al.at_set fM hq,al.at_set fM hq];split
    ·rfl
    ·exact K9.e q hq (by omega)
   have R9:=K iY;clear iY;have U5:(out++((iJ p.len).take j).flatMap λk=>dU b f (i+1) (n.set i k)).length+(dU b f (i+1) (n'.set i (p.len.lo+j))).length<=1000:=by
    have h1:=HK.e;rw[Mj HP.e] at h1;have h2:=afU (f:=λk=>dU b f (i+1) (n.set i k)) (YJ ao)
    rw[R9.e,Þ];omega
   have aG:=K (λm=>XJ.e _ _ _ m (UM.set fM (k:=p.len.lo+j) (by omega) (by omega)) U5 HS.e);clear U5
   gi_wp2_with (first
    | (gi_at_call 188;refine(aG.e _).mono ?_;rintro e w1 ⟨rfl,n2,oG,Ik,zF⟩;have Lm:=K zF;have aa3:=K Ik;clear zF Ik))
   have hlen:j<(iJ p.len).length:=(by rw[QG];omega);have hj1:(iJ p.len)[j]?=J (p.len.lo+j):=YJ ao;refine⟨⟨j+1,n2,hlen,by go_num,oG,λq hq qH=>?_,?_⟩,by simp[ϑ];omega⟩
   ·rw[aa3.e q hq (by omega),al.at_set fM hq];split
    ·omega
    ·exact K9.e q hq (by omega)
   ·rw[pT hj1,Ĥ,Ah0,<-List.append_assoc];rw[<-R9.e];exact Lm
  ·gi_wp2
   go_ret;refine⟨bU rfl,n',UM,K9.e,?_⟩;rw[Mj HP.e];have:=hI.e;rwa[Õ (by rw[QG];omega)] at this
def XB{w:N}{b:eR}{pv bv tv:z}{rec:Loop}{B:Nat}(hB:B<=w.heap.size)(ah:aQ w B b pv bv tv)(cD:Bs b)(oP:∀p∈b.pieces,0<=p.len.lo/\p.len.hi<=1000)(h3:b.pieces.length<=3)(hY:aa5 w b pv bv tv rec):
 ∀(f i:Nat) (n:al) (out:List al) (W:N) (m:Nat),i+f=b.pieces.length->n.Ok->out.length+(dU b f i n).length<=1000->AI w b pv bv tv rec n out W->
  CallsIn Ċ m prog 188 #[Y I i,π (J ⟨w.heap.size+4,0,H⟩),π (J ⟨w.heap.size+6,0,H⟩),π (J ⟨w.heap.size+5,0,H⟩),π (J ⟨w.heap.size+7,0,H⟩)] W
    λe W'=>e=Ω (.bool D)/\∃n',n'.Ok/\Dp i f n' n/\AI w b pv bv tv rec n' (out++dU b f i n) W'
 |0,i,n,out,W,m,hi,hL,hK,h=>by
  obtain rfl:i=b.pieces.length:=by omega
  exact(amm hB ah cD hY hL h hK m).mono λe W' ⟨h1,h2⟩=>⟨h1,n,hL,λ_ _ _=>rfl,h2⟩
 |f+1,i,n,out,W,m,hi,hL,hK,h=>
  amn hB ah oP hi h3 (λn out W m hL hK h=>XB hB ah cD oP h3 hY f (i+1) n out W m (by omega) hL hK h) hL hK h m
end Go.Tw
namespace Go.Tw
variable [Go.Tw.aK]
open Go Go.Proofs Go.RowKit
attribute [local go_sem] AZ AY Aha
def wK(h:g=w.heap.size):(w.alloc o).heap[g]?=J o:=by subst h;exact heap_alloc_new w _
def nB{o':Obj}(h:w.heap[g]?=J o'):(w.alloc o).heap[g]?=J o':=(Ahf w o g (Ϝ.1 h).1).trans h
def acO(hB:B<=w.heap.size)(ah:aQ w B b pv bv tv)(cD:Bs b)(oP:∀p∈b.pieces,0<=p.len.lo/\p.len.hi<=1000)(h3:b.pieces.length<=3)(hK:(aB b).length<=1000)(hY:aa5 w b pv bv tv rec)
 (V:W.heap.size=w.heap.size+4)(hc:Bk W (w.heap.size+1) 115 #[E H 0 0])(hd:W.heap[w.heap.size+2]?=J (.deferred (J [])))(hl:W.heap[w.heap.size+3]?=J (.loop rec))(hb:φ w W)(m:Nat):
 CallsIn Ċ m prog 162 #[η #[Y I b.ab,pv,bv,tv],.func (.yield (w.heap.size+3)) #[] #[]] W
  λe W'=>(∃v,e=Ω v)/\∃n',AI w b pv bv tv rec n' (aB b) W':=by
 obtain⟨W2,ia⟩:∃W2,W2=((((W.alloc (Ξ #[Y I b.ab,pv,bv,tv] 117)).alloc (Ξ #[.func (.yield (w.heap.size+3)) #[] #[]] 182)).alloc (Ξ #[Y I 0,Y I 0,Y I 0] 128)).alloc (Ξ #[.func (.func 188) #[] #[π (J ⟨W.heap.size,0,H⟩),π (J ⟨W.heap.size+1+1,0,H⟩),π (J ⟨W.heap.size+1,0,H⟩),π (J ⟨W.heap.size+1+1+1,0,H⟩)]] 158)):=⟨_,rfl⟩
 have e4:w.heap.size+4=W.heap.size:=by omega
 have e5:w.heap.size+5=W.heap.size+1:=by omega
 have e6:w.heap.size+6=W.heap.size+1+1:=by omega
 have e7:w.heap.size+7=W.heap.size+1+1+1:=by omega
 have Il:AI w b pv bv tv rec ⟨0,0,0⟩ [] W2:=by
  subst ia;refine⟨?_,?_,?_,?_,⟨E H 0 0,?_,by simp,.inl ⟨rfl,rfl⟩⟩,?_,?_,?_⟩
  ·rw[e4];exact(((Bk.bZ rfl _ _).alloc _).alloc _).alloc _
  ·rw[e5];exact((Bk.bZ (by simp) _ _).alloc _).alloc _
  ·rw[e6];exact(Bk.bZ (by simp) _ _).alloc _
  ·rw[e4,e5,e6,e7];exact Bk.bZ (by simp) _ _
  ·exact(((hc.alloc _).alloc _).alloc _).alloc _
  ·exact nB (nB (nB (nB hd)))
  ·exact nB (nB (nB (nB hl)))
  ·exact(((hb.alloc (by omega) _).alloc (by simp;omega) _).alloc (by simp;omega) _).alloc (by simp;omega) _
 have eT:=XB hB ah cD oP h3 hY b.pieces.length 0 ⟨0,0,0⟩ [] W2 (m - 1) (by omega) (λq=>by unfold al.at;simp) (by simpa [aB] using hK) Il;rw[e4,e5,e6,e7,show((0:Nat):Int)=0 from rfl,ù] at eT;obtain⟨A1,n1,c1,A2,n2,c2,A3,n3,c3,rfl,rfl,rfl⟩:=ah.op;subst ia;have La:=K eT;clear eT ah hY hd hl hb hc V Il e4 e5 e6 e7;refine Ag1 func162 rfl trivial ?_
 simp only[Tryz.ntmps162,ũ,Ė,Ū,Ŕ,Ŭ,Ŧ,ŧ,ū,ő,ù,Œ]
 gi_wp2_with (first
  | (gi_at_call 188;refine La.e.mono ?_;rintro e w1 ⟨rfl,n2,oG,Ik,zF⟩;have Lm:=K zF;clear zF Ik))
 go_end0
 exact⟨⟨_,rfl⟩,n2,Lm.e⟩
end Go.Tw
namespace Go.Tw
variable [Go.Tw.aK]
open Go Go.Proofs Go.RowKit
def AF(fn:FuncId)(tmps:Array z)(ps:Array Tmp)(assign body:Code)(θ:Nat):Loop:={state:=.ready,pending:=H,fn,tmps,params:=ps,assign,body,defers:=θ}
def Qf{g:Operand}{Q:Exit->Act->N->Prop}{a:Act}{gf:Nat}{pre:Array z}
 (hg:a.eval g=.func (.func gf) pre lb)(eg:∀args w,(callFunc gf args).run P w=.ok (.enter gf args) w)
 (h:∀fn rc,Hid (rc=AF fn a.tmps ps assign body w.heap.size)->CallsIn Ċ (n - 1) P gf (pre++#[.func (.yield (w.heap.size+1)) #[] #[]]++lb) ((w.alloc (.deferred (J []))).alloc (.loop rc))
   (rangePost Ċ n P (w.heap.size+1) Q {a with defers:={target:=.collected w.heap.size,args:=#[]}::a.defers})):
 (Code.rangeFunc g ps assign body).wpIn Ċ n P Q a w:=by
 refine wpIn_rangeFunc λfn _=>?_;obtain⟨W1,eS⟩:∃W1,W1=(w.alloc (.deferred (J []))).alloc (.loop (AF fn a.tmps ps assign body w.heap.size)):=⟨_,rfl⟩
 have h1:=h fn _ (K rfl);rw[<-eS] at h1;have r1:(Instr.enterLoop fn a.tmps ps assign body Ċ.round).run P w=.ok (w.heap.size+1,[{target:=.collected w.heap.size,args:=#[]}]) W1:=by rw[eS];exact run_enterLoop_outer fn a.tmps ps assign body
 have r2:(resolve a.eval (rangeCall g (w.heap.size+1)) 0).run P W1=.ok {target:=.fn (.func gf) lb,args:=pre++#[.func (.yield (w.heap.size+1)) #[] #[]]} W1:=by simp only[resolve,hg];simp[go_sem]
 have r3:(invoke (.fn (.func gf) lb) (pre++#[.func (.yield (w.heap.size+1)) #[] #[]])).run P W1=.ok (.enter gf (pre++#[.func (.yield (w.heap.size+1)) #[] #[]]++lb)) W1:=by simp[invoke,go_sem,eg]
 refine⟨_,_,_,_,_,_,_,_,r1,r2,?_,r3,?_,?_⟩
 ·intro f' _;trivial
 ·intro h;cases h
 ·exact h1
def Rh{m:Nat}{l:Nat}{args:Array z}{R:Ŏ->N->Prop}
 (iD:Hid (rc=AF fn tmps ps assign body θ))(hl:W.heap[l]?=J (.loop rc))(vv:args.size=ps.size)
 (h:assign.wpIn (Ċ.inRound l) n P (Exit.then (λbJ aa=>∃au,(Instr.beginRound l).run P aa=.ok () au/\body.wpIn (Ċ.inRound l) n P (roundPost P l R) bJ au) (λ_ _ _=>False))
   {tmps:=(ps.zip args).foldl (λt (p,v)=>t.setIfInBounds p v) tmps,defers:=[]} W):YieldAt Ċ m P l args W R:=by
 rw[iD.e] at hl;refine⟨fn,_,assign,body,run_yield hl vv,?_⟩;have:=roundIn_of_wpIn (F:=Ċ) (l:=l) (f:=fn) (R:=R) trivial h;exact⟨trivial,λc cs _=>this.2 c cs (room_wide _)⟩
def Mn{l:Nat}(iD:Hid (rc=AF fn tmps ps assign body θ))(hl:W.heap[l]?=J (.loop rc)):
 (Instr.beginRound l).run P W=.ok () (W.putObj l (.loop {rc with state:=.busy})):=run_beginRound hl (by rw[iD.e];rfl)
def ang{P:Program}{l:Nat}(iD:Hid (rc=AF fn tmps ps assign body θ))(hl:W.heap[l]?=J (.loop {rc with state:=.busy})):
 (Instr.endRound l H).run P W=.ok (.bool D) (W.putObj l (.loop rc)):=by
 rw[run_endRound H hl,iD.e];rfl
def MR{l:Nat}(iD:Hid (rc=AF fn tmps ps assign body θ))(hl:W.heap[l]?=J (.loop rc)):
 (Instr.endLoop l).run P W=.ok H (W.putObj l (.loop {rc with state:=.exhausted})):=by
 rw[run_endLoop hl (by rw[iD.e];simp[AF]),iD.e];rfl
def TU{P:Program}{l:Nat}(j:Code)(hl:W.heap[l]?=J (.loop {rc with state:=.busy})):
 (Instr.endRound l (J j)).run P W=.ok (.bool U) (W.putObj l (.loop {rc with state:=.done,pending:=J j})):=run_endRound (r:={rc with state:=.busy}) (J j) hl
def TY{P:Program}{l:Nat}{j:Code}(hl:W.heap[l]?=J (.loop {rc with state:=.done,pending:=J j})):
 (Instr.endLoop l).run P W=.ok (J j) (W.putObj l (.loop {rc with state:=.exhausted,pending:=J j})):=run_endLoop (r:={rc with state:=.done,pending:=J j}) hl (by simp)
end Go.Tw
namespace Go.Tw
variable [Go.Tw.aK]
open Go Go.Proofs Go.RowKit
attribute [local go_sem] AZ AY Aha
def ajl:(prog.info? 128).map (λi=>(i.zero,i.size,i.bytes))=J (J (η #[Y I 0,Y I 0,Y I 0]),3,24):=by rw[qS];kernel_rfl
structure RB(w W Wb:N)(rc:Loop)(v:z)(n:al)(out:List al):Prop where
 size:Wb.heap.size=W.heap.size+1
 l:Wb.heap[w.heap.size+3]?=J (.loop {rc with state:=.busy})
 o:Bk Wb (w.heap.size+1) 115 #[v]
 own:Wb.ownsRow (w.heap.size+8) 128 3 v out.length (out.flatMap al.vs)
 nb:Bk Wb W.heap.size 128 n.cs
 old:∀g,g<W.heap.size->g≠w.heap.size+3->Wb.heap[g]?=W.heap[g]?
 below:φ w Wb
def RB.mk'{m n:al}(h:AI w b pv bv tv rc m out W):
 ∃v,RB w W ((W.alloc (.cells n.cs 128)).putObj (w.heap.size+3) (.loop {rc with state:=.busy})) rc v n out:=by
 obtain⟨v,v1,v2⟩:=h.o;have hx:=h.x.lt;refine⟨v,⟨by simp,ŏ (by simp;omega),?_,?_,?_,λg hg aw=>?_,?_⟩⟩
 ·exact(Å (by omega)).trans (v1.alloc _)
 ·refine⟨v2.1,?_⟩;rcases v2.2 with h0| ⟨g,cap,cur,h1,h2,h3,h4⟩
  ·exact .inl h0
  ·exact .inr ⟨g,cap,cur,h1,h2,(Å (by omega)).trans (nB h3),h4⟩
 ·exact(Å (by omega)).trans (Bk.new W _ _)
 ·exact(Å (by omega)).trans (Ahf _ _ _ hg)
 ·exact(h.below.alloc (by omega) _).grown (İ _ _ _) (by simp;omega) (λk hk=>by cases hk;omega)
def iI{base:Nat}{sz:Nat}(h:w.ownsRow base e sz v n xs):∃A m c,v=E A m c:=by
 rcases h.2 with⟨rfl,_⟩ | ⟨g,cap,cur,rfl,_⟩
 ·exact⟨_,_,_,rfl⟩
 ·exact⟨_,_,_,rfl⟩
def RB.later{n:al}(r:RB w W Wb rc v n out)(V:w.heap.size+8<=W.heap.size)(hg:(Wb.alloc o).grownBy W4 v.ownBlock):
 Bk W4 (w.heap.size+1) 115 #[v]/\W4.heap[w.heap.size+3]?=J (.loop {rc with state:=.busy}):=by
 have ob:∀k,v.ownBlock=J k->w.heap.size+8<=k:=dX r.own;have e4:∀g,g<w.heap.size+8->W4.heap[g]?=Wb.heap[g]?:=λg nJ=>(hg.block g (by simp[r.size];omega) (λe=>by have:=ob g e.symm;omega)).trans (Ahf _ _ _ (by rw[r.size];omega));exact⟨(e4 _ (by omega)).trans r.o,(e4 _ (by omega)).trans r.l⟩
def ZR{base:Nat}{sz g':Nat}(h:w.ownsRow base e sz v n xs)(hg:g'<base):(w.putObj g' o).ownsRow base e sz v n xs:=by
 refine⟨h.1,?_⟩;rcases h.2 with h0| ⟨g,cap,cur,h1,h2,h3,h4⟩
 ·exact .inl h0
 ·exact .inr ⟨g,cap,cur,h1,h2,(Å (by omega)).trans h3,h4⟩
def _root_.Go.World.ownsRow.base{w:N}{base fB:Nat}{e:TypeId}{sz n:Nat}{v:z}{xs:List z}(h:w.ownsRow base e sz v n xs)(hb:fB<=base):w.ownsRow fB e sz v n xs:=by
 refine⟨h.1,?_⟩;rcases h.2 with h0| ⟨g,cap,cur,h1,h2,h3,h4⟩
 ·exact .inl h0
 ·exact .inr ⟨g,cap,cur,h1,by omega,h3,h4⟩
def RB.done{n:al}{v':z}(h:AI w b pv bv tv rc n out W)(r:RB w W Wb rc v n out)
 (aH:W4.ownsRow (w.heap.size+8) 128 3 v' (out.length+1) (out.flatMap al.vs++n.vs))(hg:(Wb.alloc o).grownBy W4 v.ownBlock):
 AI w b pv bv tv rc n (out++ [n]) ((W4.setCell ⟨w.heap.size+1,0,H⟩ v').putObj (w.heap.size+3) (.loop rc)):=by
 have hx:=h.x.lt;have ob:∀k,v.ownBlock=J k->w.heap.size+8<=k:=dX r.own
 have ob':∀k,v'.ownBlock=J k->w.heap.size+8<=k:=dX aH;have e4:∀g,g<w.heap.size+8->W4.heap[g]?=Wb.heap[g]?:=λg nJ=>(hg.block g (by simp[r.size];omega) (λe=>by have:=ob g e.symm;omega)).trans (Ahf _ _ _ (by rw[r.size];omega));have e6:∀g,g<w.heap.size+8->g≠w.heap.size+3->g≠w.heap.size+1->((W4.setCell ⟨w.heap.size+1,0,H⟩ v').putObj (w.heap.size+3) (.loop rc)).heap[g]?=W.heap[g]?:=λg nJ h3 h1=>
  (Å h3).trans ((å _ _ _ _ (by simpa using h1)).trans ((e4 g nJ).trans (r.old g (by omega) h3)))
 have vz:w.heap.size+8<=W4.heap.size:=by have:=hg.size;simp[r.size] at this;omega
 refine⟨(e6 _ (by omega) (by omega) (by omega)).trans h.p,(e6 _ (by omega) (by omega) (by omega)).trans h.y,(e6 _ (by omega) (by omega) (by omega)).trans h.n,(e6 _ (by omega) (by omega) (by omega)).trans h.x,
  ⟨v',?_,?_⟩,(e6 _ (by omega) (by omega) (by omega)).trans h.d,ŏ (by simp[ü];omega),?_⟩
 ·have h4:Bk W4 (w.heap.size+1) 115 #[v]:=(e4 _ (by omega)).trans r.o;exact(Å (by omega)).trans (h4.set 0 v')
 ·have e:(out++ [n]).length=out.length+1:=by simp
  rw[e,Ĥ,Ah0];refine⟨aH.1,?_⟩;rcases aH.2 with h0| ⟨g,cap,cur,h1,h2,h3,h4⟩
  ·exact .inl h0
  ·exact .inr ⟨g,cap,cur,h1,h2,(Å (by omega)).trans ((å _ _ _ _ (by simp;omega)).trans h3),h4⟩
 ·refine Ahg (w:=W4.setCell ⟨w.heap.size+1,0,H⟩ v') ?_ (İ _ _ _) (by simp[ü];omega) (λk hk=>by cases hk;omega);refine ļ ?_ (by simp) _;exact Ahg (r.below.alloc (by rw[r.size];omega) _) hg (by simp[r.size];omega) (λk hk=>by have:=ob k hk;omega)
def ach(hB:B<=w.heap.size)(ah:aQ w B b pv bv tv)(cD:Bs b)(oP:∀p∈b.pieces,0<=p.len.lo/\p.len.hi<=1000)(h3:b.pieces.length<=3)(hK:(aB b).length<=1000):
 ύ prog 96 #[η #[Y I b.ab,pv,bv,tv]] w λe w'=>∃v,e=Ω v/\w'.ownsRow w.heap.size 128 3 v (aB b).length ((aB b).flatMap al.vs)/\φ w w':=by
 refine(callsIn_wide (n:=0)).1 ?_;have bD:=K ah;obtain⟨A1,n1,c1,A2,n2,c2,A3,n3,c3,rfl,rfl,rfl⟩:=ah.op;clear ah;obtain⟨i0,cJ,cK,aO,aZ⟩:=Ö ajl;have cy:=K (Ϗ cJ (Ϗ cK (Ϗ aO aZ)));clear cJ cK aO aZ;refine callsIn_of_wp_marks func96 rfl trivial ?_
 simp only[Tryz.ntmps96,ũ,Ė,Ū,Ŕ,Ŭ,Ŧ,ŧ,ū,ő,ù,Œ]
 gi_wp2
 refine Qf (gf:=162) (pre:=#[η #[Y I b.ab,E A1 n1 c1,E A2 n2 c2,E A3 n3 c3]]) (lb:=#[]) rfl call162 λfn rc iD=>?_;simp only[Ahl,Nat.add_assoc,Ŕ,ő,Œ,ù,Ah1];refine(acO (w:=w) hB bD.e cD oP h3 hK (rec:=rc) ?yround (by simp) (((Bk.bZ (by simp) _ _).alloc _).alloc _) (nB (wK (by simp))) (wK (by simp)) (((((ό _ _).alloc (ϊ _) _).alloc (by simp) _).alloc (by simp;omega) _).alloc (by simp;omega) _) _).mono ?_;case yround=>
  intro m n out W hlen hI;have HI:=K hI;refine Rh (n:=0) iD hI.l rfl ?_
  clear hI;simp only[List.zip_toArray,List.zip_cons_cons,List.zip_nil_right,List.foldl_toArray,List.foldl_cons,List.foldl_nil];obtain⟨na,nb,nc⟩:=n;simp only[al.cs]
  gi_wp2
  obtain⟨v,nP⟩:=RB.mk' (n:=⟨na,nb,nc⟩) HI.e;refine⟨_,Mn iD (nB HI.e.l),?_⟩;obtain⟨Wb,rI⟩:∃Wb,Wb=(W.alloc (Ϧ #[Ϟ Ϛ na,Ϟ Ϛ nb,Ϟ Ϛ nc] 128)).putObj (w.heap.size+3) (.loop {rc with state:=.busy}):=⟨_,rfl⟩
  replace nP:RB w W Wb rc v ⟨na,nb,nc⟩ out:=by rw[rI];exact nP
  rw[<-rI];clear rI;have HR:=K nP;have b0: Wb.cell? ⟨w.heap.size+1,0,H⟩=J v:=nP.o.cell 0;have z0:=nP.o.frozen 0;have c0: Wb.cell? ⟨W.heap.size,0,H⟩=J (Y I na):=nP.nb.cell 0;have c1: Wb.cell? ⟨W.heap.size,1,H⟩=J (Y I nb):=nP.nb.cell 1;have c2: Wb.cell? ⟨W.heap.size,2,H⟩=J (Y I nc):=nP.nb.cell 2;clear nP
  gi_wp2_with (first
   | (gi_at_builtin
      refine wpListIn_append_own _ rfl (.tmp 8) (.tmp 10) 115 rfl (w.heap.size+8) 128 i0 (η #[Y I 0,Y I 0,Y I 0]) 3 24 (χ Tryz.underlying115) cy.e.1 cy.e.2.1 cy.e.2.2.1 cy.e.2.2.2 rfl (by decide) _ out.length _ rfl (HR.e.own.alloc _) ⟨Wb.heap.size,0,H⟩ 1 1 [Y I na,Y I nb,Y I nc] rfl rfl ?c1 ?c2 ?c3 ?c4 ?c5 ?_;case c1=>(intro j u hu;match j,hu with|0,hu=>(simp at hu;subst hu;simp[go_sem,Č]) |1,hu=>(simp at hu;subst hu;simp[go_sem,Č]) |2,hu=>(simp at hu;subst hu;simp[go_sem,Č]))
      case c2=>simp[Value.oneCell']
      case c3=>(simp only[ϕ];omega)
      case c4=>omega
      case c5=>(have:=HR.e.size;have:=HI.e.x.lt;simp;omega)
      intro v' w1 b7 cW _;obtain⟨A9,m9,c9,rfl⟩:=iI b7;have HL:=K (HR.e.later (by have:=HI.e.x.lt;omega) cW)
      have s0: w1.cell? ⟨w.heap.size+1,0,H⟩=J v:=HL.e.1.cell 0;have s1:=HL.e.1.frozen 0;have gC:=K b7;have gX:=K cW;clear b7 cW))
  refine⟨_,_,ang iD ((å _ _ _ _ (by simp)).trans HL.e.2),rfl,?_⟩;exact HR.e.done HI.e gC.e gX.e
 ·rintro e W2 ⟨⟨v,rfl⟩,n',hI⟩;have HI:=K hI;refine⟨H,_,MR iD hI.l,?_⟩;clear hI;obtain⟨v2,qJ,xT⟩:=HI.e.o;obtain⟨A9,m9,c9,rfl⟩:=iI xT;have HV:=K xT;obtain⟨W3,gd⟩:∃W3,W3=W2.putObj (w.heap.size+3) (.loop {rc with state:=.exhausted}):=⟨_,rfl⟩
  have k1: W3.cell? ⟨w.heap.size+1,0,H⟩=J (E A9 m9 c9):=by rw[gd];exact Bk.cell (g:=w.heap.size+1) ((Å (by omega)).trans qJ) 0
  have HD:Hid (W3.heap[w.heap.size+2]?=J (.deferred (J []))):=K (by rw[gd];exact(Å (by omega)).trans HI.e.d);have HB:Hid (φ w W3):=K (by rw[gd];exact HI.e.below.grown (İ _ _ _) (by have:=HI.e.x.lt;omega) (λk hk=>by cases hk;omega));have HO:Hid (W3.ownsRow (w.heap.size+8) 128 3 (E A9 m9 c9) (aB b).length ((aB b).flatMap al.vs)):=K (by
   rw[gd];refine⟨HV.e.1,?_⟩;rcases HV.e.2 with h0| ⟨g,cap,cur,h1,h2,h3,h4⟩
   ·exact .inl h0
   ·exact .inr ⟨g,cap,cur,h1,h2,(Å (by omega)).trans h3,h4⟩)
  rw[<-gd];clear gd qJ xT
  gi_wp2
  refine⟨by simp,.inl ⟨_,_,rfl,Ag5 HD.e,?_⟩⟩;refine⟨_,results_tmp rfl _ _ _,_,rfl,(ZR HO.e (by omega)).base (by omega),HB.e.grown (İ _ _ _) ?_ (λk hk=>by cases hk;omega)⟩;have:=HB.e.size;omega
end Go.Tw
namespace Go.Tw
variable [Go.Tw.aK]
open Go Go.Proofs Go.RowKit
def Hr{α:Type}{f:α->List z}{sz:Nat}(hf:∀x,(f x).length=sz):∀(l:List α) (i:Nat) (x:α) (j:Nat) (u:z),l[i]?=J x->(f x)[j]?=J u->(l.flatMap f)[i * sz+j]?=J u
 | [],i,x,j,u,hi,_=>by simp at hi
 |a::l,0,x,j,u,hi,hu=>by simp at hi;subst hi;rw[č,Nat.zero_mul,Nat.zero_add,List.getElem?_append_left (Ϫ.1 hu).1];exact hu
 |a::l,i+1,x,j,u,hi,hu=>by
  rw[č,Ah2 (by rw[hf,Aij];omega),hf];have e:(i+1) * sz+j - sz=i * sz+j:=by rw[Aij];omega
  rw[e];exact Hr hf l i x j u (by simpa using hi) hu
def mZ{base:Nat}{sz:Nat}{R:α->List z->Prop}{f:α->List z}{l:List α}(h:w.ownsRow base e sz v l.length (l.flatMap f))(hf:∀x,(f x).length=sz)(hR:∀x∈l,R x (f x)):
 Row w w.heap.size sz R v l:=by
 rcases h.2 with⟨rfl,h0⟩ | ⟨g,cap,cur,rfl,h2,h3,h4,h5,h6,h7⟩
 ·have:l=[]:=List.length_eq_zero_iff.1 h0;subst this;exact Row.nil
 ·refine⟨J ⟨g,0,H⟩,cap,rfl,h4,h5,λ_=>⟨⟨g,0,H⟩,rfl,(Ϝ.1 h3).1,λi x hx=>⟨f x,hR x (ϡ hx),hf x,λj u hu=>?_⟩⟩⟩;have ao:j<sz:=by have:=(Ϫ.1 hu).1;rw[hf] at this;exact this
  have h8:=Hr hf l i x j u hx hu;rw[<-h7,List.getElem?_take] at h8;have xF:i * sz+j<l.length * sz:=by
   have xF:=(Ϫ.1 hx).1
   calc i * sz+j<i * sz+sz:=by omega
    _=(i+1) * sz:=by rw[Aij];omega
    _<=l.length * sz:=ž _ xF
  rw[if_pos xF] at h8;have e:(⟨g,0,H⟩:Addr).add (i * sz+j)=⟨g,i * sz+j,H⟩:=by
   unfold Č;split
   ·rename_i h;rw[h]
   ·simp
  rw[e];exact(cell_of_row w g (i * sz+j) cur _ (0,0) h3).trans (by rw[<-į];exact h8)
def akm{base:Nat}{l:List al}(h:w.ownsRow base 128 3 v l.length (l.flatMap al.vs)):Row w w.heap.size 3 al.R v l:=mZ h (λ_=>rfl) λ_ _=>rfl
def S6{b:eR}(hw:∀p∈b.pieces,p.len.hi - p.len.lo<3):∀(f i:Nat) (n:al),(dU b f i n).length<=3 ^ f
 |0,i,n=>by unfold dU;split<;>simp
 |f+1,i,n=>by
  unfold dU;cases h:b.pieces[i]? with
  |none=>simp
  |some p=>
   have h1:=hw p (ϡ h);have h2:(iJ p.len).length<=3:=by rw[QG];omega
   simp only;have key:∀l:List Int,(l.flatMap λk=>dU b f (i+1) (n.set i k)).length<=l.length * 3 ^ f:=by
    intro l;induction l with
    |nil=>simp|cons a l ih=>rw[č,Þ,Ė,Aij,Nat.one_mul,Nat.add_comm];exact Nat.add_le_add ih (S6 hw f (i+1) _)
   refine Ϥ (key _) ?_;rw[Nat.pow_succ,Nat.mul_comm (3 ^ f)];exact ž _ h2
def DF(hv:Valid b):(aB b).length<=27:=by refine Ϥ (S6 (λp hp=>(hv.piece p hp).wide) _ _ _) ?_;exact Ail (n:=3) (by omega) hv.np.2
def gN{base:Nat}{sz:Nat}(h:w.ownsRow base e sz v n xs)(hg:p.block<base):(w.setCell p u).ownsRow base e sz v n xs:=by
 refine⟨h.1,?_⟩;rcases h.2 with h0| ⟨g,cap,cur,h1,h2,h3,h4⟩
 ·exact .inl h0
 ·exact .inr ⟨g,cap,cur,h1,h2,(å _ _ _ _ (by omega)).trans h3,h4⟩
def fx(w:N)(base:Nat)(v:z)(l:List al):Prop:=w.ownsRow base 128 3 v l.length (l.flatMap al.vs)
def fx.row{base:Nat}{l:List al}(h:fx w base v l):Row w w.heap.size 3 al.R v l:=akm h
def fx.set{base:Nat}{l:List al}(h:fx w base v l)(hp:p.block<base):fx (w.setCell p u) base v l:=gN h hp
def fx.alloc{w:N}{base:Nat}{v:z}{l:List al}(h:fx w base v l)(o:Obj):fx (w.alloc o) base v l:=Ő h o
def fx.base{w:N}{base fB:Nat}{v:z}{l:List al}(h:fx w base v l)(hb:fB<=base):fx w fB v l:=World.ownsRow.base h hb
def all(hB:B<=w.heap.size)(ah:aQ w B b pv bv tv)(hv:Valid b):
 ύ prog 96 #[η #[Y I b.ab,pv,bv,tv]] w λe w'=>∃v,e=Ω v/\fx w' w.heap.size v (aB b)/\φ w w':=
 (ach hB ah hv.apR (λp hp=>⟨by have:=(hv.piece p hp).lo;omega,by have:=(hv.piece p hp).hi;omega⟩) hv.np.2 (by have:=DF hv;omega)).mono λ_ _ ⟨v,h1,h2,h3⟩=>⟨v,h1,h2,h3⟩
def bT(b:eR)(s:Int):Int:=if cZ b≠0 then cZ b else if s≠0 then s else if(aB b).length=0 then 9 else 0
def uB(b:eR)(pv bv tv:z)(w:N)(ψ:Nat)(lb:Array z)(s:Int):Prop:=
 (∀args w,(callFunc ψ args).run prog w=.ok (.enter ψ args) w)/\(cZ b=0->∀W:N,φ w W->ύ prog ψ (#[η #[Y I b.ab,pv,bv,tv]]++lb) W λe W'=>e=Ω (Y I s)/\φ W W')
def qj(hb:aQ w B b pv bv tv)(hB:B<=w.heap.size)(h:cZ b=0):
 ύ prog 68 #[η #[Y I b.ab,pv,bv,tv]] w λe w'=>e=Ω (Y I 0)/\φ w w':=by
 have:=MD hb hB;rwa[h] at this
def amM{g:z}(hB:B<=w.heap.size)(ah:aQ w B b pv bv tv)(h0:cZ b≠0):
 ύ prog 98 #[η #[Y I b.ab,pv,bv,tv],g] w λe w'=>e=Ω (μ #[η #[Y I 0,E H 0 0,E H 0 0,E H 0 0,E H 0 0],Y I (cZ b)])/\φ w w':=by
 have bD:=K ah;obtain⟨A1,n1,c1,A2,n2,c2,A3,n3,c3,rfl,rfl,rfl⟩:=ah.op;clear ah;go_enter func98,Tryz.ntmps98;go_wp2_with (first
  | (go_at_call 68;refine(MD (bD.e.still ((((Δ.refl w).alloc hB _).alloc (by simp;omega) _))) (by simp;omega)).mono ?_;rintro e w1 ⟨rfl,ai⟩;obtain⟨fU,iz⟩:=gG ai rfl;have aW:=K ai;clear ai))
 refine ø (v:=μ #[η #[Y I 0,E H 0 0,E H 0 0,E H 0 0,E H 0 0],Y I (cZ b)]) (by simp[results,Tryz.results98,go_sem,fU,iz]) rfl ⟨rfl,?_⟩;repeat refine ļ ?_ (by simp) _
 exact(((ό _ _).alloc (ϊ _) _).alloc (by simp) _).trans (aW.e.mono (by simp;omega))
def amN{s:Int}(hB:B<=w.heap.size)(ah:aQ w B b pv bv tv)(hK:uB b pv bv tv w ψ lb s)(h0:cZ b=0)(V:s≠0):
 ύ prog 98 #[η #[Y I b.ab,pv,bv,tv],fv ψ lb] w λe w'=>e=Ω (μ #[η #[Y I 0,E H 0 0,E H 0 0,E H 0 0,E H 0 0],Y I s])/\φ w w':=by
 obtain⟨eg,hK⟩:=hK;have HK:=K (hK h0);have bD:=K ah;have H0:=K h0;obtain⟨A1,n1,c1,A2,n2,c2,A3,n3,c3,rfl,rfl,rfl⟩:=ah.op;clear ah hK h0;go_enter func98,Tryz.ntmps98;go_wp2_with (first
  | (go_at_call 68;refine(qj (bD.e.still ((((Δ.refl w).alloc hB _).alloc (by simp;omega) _))) (by simp;omega) H0.e).mono ?_;rintro e w1 ⟨rfl,ai⟩
     have aO:w.heap.size+2<=w1.heap.size:=(by have:=ai.size;simpa using this);have k1:Hid (Bk w1 (w.heap.size+1) 122 #[Y I 0,E H 0 0,E H 0 0,E H 0 0,E H 0 0]):=K ((Bk.bZ (by simp) _ _).below ai (by simp));have kb:Bk w1 w.heap.size 26 #[Y I b.ab,E A1 n1 c1,E A2 n2 c2,E A3 n3 c3]:=((Bk.new w _ _).alloc _).below ai (by simp;omega);have b0:=kb.cell 0;have b1:=kb.cell 1;have b2:=kb.cell 2;have b3:=kb.cell 3;clear kb;have aW:Hid (φ w w1):=K ((((ό _ _).alloc (ϊ _) _).alloc (by simp) _).trans (ai.mono (by simp;omega)));clear ai))
 refine(HK.e _ (aW.e.alloc (by omega) _)).mono ?_;rintro e w2 ⟨rfl,an⟩;have k2:Bk w2 (w.heap.size+1) 122 #[Y I 0,E H 0 0,E H 0 0,E H 0 0,E H 0 0]:=(k1.e.alloc _).below an (by simp;omega)
 have dj:=K (da aW.e an (by omega));have r0:=k2.cell 0;have r1:=k2.cell 1;have r2:=k2.cell 2;have r3:=k2.cell 3;have r4:=k2.cell 4;have z0:=k2.frozen 0;have z1:=k2.frozen 1;have z2:=k2.frozen 2;have z3:=k2.frozen 3;have z4:=k2.frozen 4;clear an k2;go_wp2;refine ø (v:=μ #[η #[Y I 0,E H 0 0,E H 0 0,E H 0 0,E H 0 0],Y I s]) (by simp[results,Tryz.results98,go_sem,r0,r1,r2,r3,r4]) rfl ⟨rfl,?_⟩
 repeat refine ļ ?_ (by simp) _
 exact dj.e
def amO(hB:B<=w.heap.size)(ah:aQ w B b pv bv tv)(hK:uB b pv bv tv w ψ lb 0)(h0:cZ b=0)(ha:(aB b).length=0):
 ύ prog 98 #[η #[Y I b.ab,pv,bv,tv],fv ψ lb] w λe w'=>e=Ω (μ #[η #[Y I 0,E H 0 0,E H 0 0,E H 0 0,E H 0 0],Y I 9])/\φ w w':=by
 obtain⟨eg,hK⟩:=hK;have HK:=K (hK h0);have bD:=K ah;have H0:=K h0;have HA:=K ha;obtain⟨A1,n1,c1,A2,n2,c2,A3,n3,c3,rfl,rfl,rfl⟩:=ah.op;clear ah hK h0 ha;go_enter func98,Tryz.ntmps98;go_wp2_with (first
  | (go_at_call 68;refine(qj (bD.e.still ((((Δ.refl w).alloc hB _).alloc (by simp;omega) _))) (by simp;omega) H0.e).mono ?_;rintro e w1 ⟨rfl,ai⟩
     have aO:w.heap.size+2<=w1.heap.size:=(by have:=ai.size;simpa using this);have k1:Hid (Bk w1 (w.heap.size+1) 122 #[Y I 0,E H 0 0,E H 0 0,E H 0 0,E H 0 0]):=K ((Bk.bZ (by simp) _ _).below ai (by simp));have kb:Bk w1 w.heap.size 26 #[Y I b.ab,E A1 n1 c1,E A2 n2 c2,E A3 n3 c3]:=((Bk.new w _ _).alloc _).below ai (by simp;omega);have b0:=kb.cell 0;have b1:=kb.cell 1;have b2:=kb.cell 2;have b3:=kb.cell 3;clear kb;have aW:Hid (φ w w1):=K ((((ό _ _).alloc (ϊ _) _).alloc (by simp) _).trans (ai.mono (by simp;omega)));clear ai))
 refine(HK.e _ (aW.e.alloc (by omega) _)).mono ?_;rintro e w2 ⟨rfl,an⟩;have k2:Hid (Bk w2 (w.heap.size+1) 122 #[Y I 0,E H 0 0,E H 0 0,E H 0 0,E H 0 0]):=K ((k1.e.alloc _).below an (by simp;omega))
 have l2:Hid (Bk w2 w1.heap.size 117 #[Y I b.ab,E A1 n1 c1,E A2 n2 c2,E A3 n3 c3]):=K ((Bk.new w1 _ _).below an (by simp));have aZ:w1.heap.size+1<=w2.heap.size:=by have:=an.size;simpa using this
 have dj:=K (da aW.e an (by omega));have q0:=l2.e.cell 0;have q1:=l2.e.cell 1;have q2:=l2.e.cell 2;have q3:=l2.e.cell 3;clear an b0 b1 b2 b3;go_wp2_with (first
  | (go_at_call 96;refine(all (B:=B) (by omega) (bD.e.still (Δ.aJ dj.e hB)) (fG H0.e)).mono ?_;rintro e w3 ⟨v,rfl,dE,bK⟩
     have HR:=K dE;obtain⟨A9,n9,c9,rfl,dh,-⟩:=dE.row.Φ;have h9:((n9:Int)==0)=D:=(by have:=HA.e;simp;omega)
     have k3:Bk w3 (w.heap.size+1) 122 #[Y I 0,E H 0 0,E H 0 0,E H 0 0,E H 0 0]:=k2.e.below bK (by omega);have l3:Bk w3 w1.heap.size 117 #[Y I b.ab,E A1 n1 c1,E A2 n2 c2,E A3 n3 c3]:=l2.e.below bK (by omega);have dR:=K (chain dj.e bK (by omega));have q0:=l3.cell 0;have q1:=l3.cell 1;have q2:=l3.cell 2;have q3:=l3.cell 3;have r0:=k3.cell 0;have r1:=k3.cell 1;have r2:=k3.cell 2;have r3:=k3.cell 3;have r4:=k3.cell 4;have z0:=k3.frozen 0;have z1:=k3.frozen 1;have z2:=k3.frozen 2;have z3:=k3.frozen 3;have z4:=k3.frozen 4;have gw:Hid (w1.heap.size<=w3.heap.size):=K (by have:=bK.size;omega)
     clear bK k3 l3 dE dh))
 refine ø (v:=μ #[η #[Y I 0,E H 0 0,E H 0 0,E H 0 0,E H 0 0],Y I 9]) (by simp[results,Tryz.results98,go_sem,r0,r1,r2,r3,r4]) rfl ⟨rfl,?_⟩;repeat refine ļ ?_ (by simp) _
 exact dR.e
def amP(hB:B<=w.heap.size)(ah:aQ w B b pv bv tv)(hK:uB b pv bv tv w ψ lb 0)(h0:cZ b=0)(ha:(aB b).length≠0):
 ύ prog 98 #[η #[Y I b.ab,pv,bv,tv],fv ψ lb] w λe w'=>∃sv,e=Ω (μ #[η #[Y I b.ab,pv,bv,tv,sv],Y I 0])/\fx w' w.heap.size sv (aB b)/\φ w w':=by
 obtain⟨eg,hK⟩:=hK;have HK:=K (hK h0);have bD:=K ah;have H0:=K h0;have HA:=K ha;obtain⟨A1,n1,c1,A2,n2,c2,A3,n3,c3,rfl,rfl,rfl⟩:=ah.op;clear ah hK h0 ha;go_enter func98,Tryz.ntmps98;go_wp2_with (first
  | (go_at_call 68;refine(qj (bD.e.still ((((Δ.refl w).alloc hB _).alloc (by simp;omega) _))) (by simp;omega) H0.e).mono ?_;rintro e w1 ⟨rfl,ai⟩
     have aO:w.heap.size+2<=w1.heap.size:=(by have:=ai.size;simpa using this);have k1:Hid (Bk w1 (w.heap.size+1) 122 #[Y I 0,E H 0 0,E H 0 0,E H 0 0,E H 0 0]):=K ((Bk.bZ (by simp) _ _).below ai (by simp));have kb:Bk w1 w.heap.size 26 #[Y I b.ab,E A1 n1 c1,E A2 n2 c2,E A3 n3 c3]:=((Bk.new w _ _).alloc _).below ai (by simp;omega);have b0:=kb.cell 0;have b1:=kb.cell 1;have b2:=kb.cell 2;have b3:=kb.cell 3;clear kb;have aW:Hid (φ w w1):=K ((((ό _ _).alloc (ϊ _) _).alloc (by simp) _).trans (ai.mono (by simp;omega)));clear ai))
 refine(HK.e _ (aW.e.alloc (by omega) _)).mono ?_;rintro e w2 ⟨rfl,an⟩;have k2:Hid (Bk w2 (w.heap.size+1) 122 #[Y I 0,E H 0 0,E H 0 0,E H 0 0,E H 0 0]):=K ((k1.e.alloc _).below an (by simp;omega))
 have l2:Hid (Bk w2 w1.heap.size 117 #[Y I b.ab,E A1 n1 c1,E A2 n2 c2,E A3 n3 c3]):=K ((Bk.new w1 _ _).below an (by simp));have aZ:w1.heap.size+1<=w2.heap.size:=by have:=an.size;simpa using this
 have dj:=K (da aW.e an (by omega));have q0:=l2.e.cell 0;have q1:=l2.e.cell 1;have q2:=l2.e.cell 2;have q3:=l2.e.cell 3;clear an b0 b1 b2 b3;go_wp2_with (first
  | (go_at_call 96;refine(all (B:=B) (by omega) (bD.e.still (Δ.aJ dj.e hB)) (fG H0.e)).mono ?_;rintro e w3 ⟨v,rfl,dE,bK⟩
     have HR:=K dE;obtain⟨A9,n9,c9,rfl,dh,-⟩:=dE.row.Φ;have h9:((n9:Int)==0)=U:=(by have:=HA.e;simp;omega)
     have k3:Bk w3 (w.heap.size+1) 122 #[Y I 0,E H 0 0,E H 0 0,E H 0 0,E H 0 0]:=k2.e.below bK (by omega);have l3:Bk w3 w1.heap.size 117 #[Y I b.ab,E A1 n1 c1,E A2 n2 c2,E A3 n3 c3]:=l2.e.below bK (by omega);have dR:=K (chain dj.e bK (by omega));have q0:=l3.cell 0;have q1:=l3.cell 1;have q2:=l3.cell 2;have q3:=l3.cell 3;have r0:=k3.cell 0;have r1:=k3.cell 1;have r2:=k3.cell 2;have r3:=k3.cell 3;have r4:=k3.cell 4;have z0:=k3.frozen 0;have z1:=k3.frozen 1;have z2:=k3.frozen 2;have z3:=k3.frozen 3;have z4:=k3.frozen 4;have gw:Hid (w1.heap.size<=w3.heap.size):=K (by have:=bK.size;omega)
     clear bK k3 l3 dE dh))
 refine ø (v:=μ #[η #[Y I b.ab,E A1 n1 c1,E A2 n2 c2,E A3 n3 c3,E A9 n9 c9],Y I 0]) (by simp[results,Tryz.results98,go_sem,r0,r1,r2,r3,r4]) rfl ⟨_,rfl,?_,?_⟩
 ·refine fx.base (base:=w2.heap.size) ?_ (by omega);repeat refine fx.set ?_ (by simp;omega)
  exact HR.e
 ·repeat refine ļ ?_ (by simp) _
  exact dR.e
def mX{s:Int}(h:bT b s=0):cZ b=0/\s=0/\(aB b).length≠0:=by
 unfold bT at h;split at h
 ·contradiction
 ·rename_i h1;split at h
  ·contradiction
  ·rename_i h2;split at h
   ·omega
   ·rename_i h3;exact⟨by simpa using h1,by simpa using h2,h3⟩
def XS{s:Int}(hB:B<=w.heap.size)(ah:aQ w B b pv bv tv)(hK:uB b pv bv tv w ψ lb s)(h:bT b s≠0):
 ύ prog 98 #[η #[Y I b.ab,pv,bv,tv],fv ψ lb] w λe w'=>e=Ω (μ #[η #[Y I 0,E H 0 0,E H 0 0,E H 0 0,E H 0 0],Y I (bT b s)])/\φ w w':=by
 by_cases h1:cZ b=0
 ·by_cases h2:s=0
  ·subst h2;have h3:(aB b).length=0:=by
    apply Classical.byContradiction;intro h3;exact h (by unfold bT;rw[if_neg (by simpa using h1),if_neg (by simp),if_neg h3])
   have e:bT b 0=9:=(by unfold bT;rw[if_neg (by simpa using h1),if_neg (by simp),if_pos h3]);rw[e];exact amO hB ah hK h1 h3
  ·have e:bT b s=s:=by unfold bT;rw[if_neg (by simpa using h1),if_pos h2]
   rw[e];exact amN hB ah hK h1 h2
 ·have e:bT b s=cZ b:=by unfold bT;rw[if_pos h1]
  rw[e];exact amM hB ah h1
def ym{s:Int}(hB:B<=w.heap.size)(ah:aQ w B b pv bv tv)(hK:uB b pv bv tv w ψ lb s)(h:bT b s=0):
 ύ prog 98 #[η #[Y I b.ab,pv,bv,tv],fv ψ lb] w λe w'=>∃sv,e=Ω (μ #[η #[Y I b.ab,pv,bv,tv,sv],Y I 0])/\fx w' w.heap.size sv (aB b)/\φ w w':=by
 obtain⟨h1,rfl,h3⟩:=mX h;exact amP hB ah hK h1 h3
def JP{b:Int}(h:a=c)(k:b=d):Ending.returned (μ #[Y I a,Y I b])=Ω (μ #[Y I c,Y I d]):=by rw[h,k]
def aaG{a b:z}(h:a=b)(k:c=d):Ending.returned (μ #[a,Y I c])=Ω (μ #[b,Y I d]):=by rw[h,k]
def uP(b:eR):Int:=if cZ b≠0 then 0 else(aB b).length
def Mh(hB:B<=w.heap.size)(ah:aQ w B b pv bv tv):
 ύ prog 22 #[η #[Y I b.ab,pv,bv,tv]] w λe w'=>e=Ω (μ #[Y I (uP b),Y I (cZ b)])/\φ w w':=by
 have bD:=K ah;obtain⟨A1,n1,c1,A2,n2,c2,A3,n3,c3,rfl,rfl,rfl⟩:=ah.op;clear ah;by_cases h0:cZ b=0
 ·have H0:=K h0;clear h0;go_enter func22,Tryz.ntmps22;go_wp2_with (first
   | (go_at_call 68;refine(qj (bD.e.still ((Δ.refl w).alloc hB _)) (by simp;omega) H0.e).mono ?_;rintro e w1 ⟨rfl,ai⟩
      have kb:Bk w1 w.heap.size 26 #[Y I b.ab,E A1 n1 c1,E A2 n2 c2,E A3 n3 c3]:=(Bk.new w _ _).below ai (by simp);have b0:=kb.cell 0;have b1:=kb.cell 1;have b2:=kb.cell 2;have b3:=kb.cell 3;have aW:=K (da (ό _ _) ai (ϊ _));clear kb ai)
   | (go_at_call 96;refine(all (B:=B) (by have:=aW.e.size;omega) (bD.e.still (Δ.aJ aW.e hB)) (fG H0.e)).mono ?_;rintro e w2 ⟨v,rfl,dE,an⟩
      obtain⟨A9,n9,c9,rfl,dh,-⟩:=dE.row.Φ;have HL:=K dh;have dj:=K (chain aW.e an aW.e.size);clear an dE dh))
  go_ret2
  exact⟨JP (by unfold uP;rw[if_neg (by simpa using H0.e),HL.e]) (by rw[H0.e]),dj.e⟩
 ·go_enter func22,Tryz.ntmps22;go_wp2_with (first
   | (go_at_call 68;refine(MD (bD.e.still ((Δ.refl w).alloc hB _)) (by simp;omega)).mono ?_;rintro e w1 ⟨rfl,ai⟩;have aW:=K (da (ό _ _) ai (ϊ _));clear ai))
  go_ret2
  exact⟨JP (by unfold uP;rw[if_pos h0]) rfl,aW.e⟩
def oS(n lo hi:Int)(w:N):ύ prog 62 #[Y I n,Y I lo,Y I hi] w λe w'=>e=Ω (.bool (cj n lo hi))/\w=w':=by
 go_enter func62,Tryz.ntmps62;go_wp2;all_goals go_ret
 all_goals (refine⟨bU ?_,rfl⟩;unfold cj;first| (simp;done) | (simp;omega))
def vg(a b lo hi:Int):Bool:=decide (lo<=a) && (decide (a<=b) && decide (b<=hi))
def within{b lo hi:Int}(w:N):ύ prog 49 #[η #[Y I a,Y I b],Y I lo,Y I hi] w λe w'=>e=Ω (.bool (vg a b lo hi))/\φ w w':=by
 go_enter func49,Tryz.ntmps49;go_wp2;all_goals go_ret
 all_goals (refine⟨bU ?_,(ό _ _).alloc (ϊ _) _⟩;unfold vg;first| (simp;done) | (simp;omega) | (simp[*];done) | (simp[*];omega))
def QD(b:Bool)(s:Int)(w:N):ύ prog 104 #[.bool b,Y I s] w λe w'=>e=Ω (Y I (if b then 0 else s))/\w=w':=by
 cases b;all_goals
  go_enter func104,Tryz.ntmps104;go_wp2;go_ret;exact⟨bm rfl,rfl⟩
def aiJ{s n:Int}{c d:Cut}{A1 A2 A3:Option Addr}{n1 c1 n2 c2 n3 c3:Nat}(h1:0<=s)(du:s<=1000)(h2:0<=n)(ei:n<=1000)(h3:0<=m)(xd:m<=1000)(h4:0<=c.from_)(h4':c.from_<=1000)(h5:0<=d.from_)(H9:d.from_<=1000):
 ύ prog 168 #[η #[Y I s,E A1 n1 c1,E A2 n2 c2,E A3 n3 c3],η #[Y I c.bt,Y I c.from_],η #[Y I d.bt,Y I d.from_],Y I n,Y I m] w λe w'=>e=Ω (.bool (nA s c d n m))/\φ w w':=by
 by_cases h:c.bt=d.bt
 ·have hb:(c.bt !=d.bt)=U:=by simp[h]
  have ν:=K h;clear h;go_enter func168,Tryz.ntmps168;go_wp2;all_goals go_ret
  all_goals refine⟨bU ?_,(((ό _ _).alloc (ϊ _) _).alloc (by simp) _).alloc (by simp;omega) _⟩
  all_goals (unfold nA;simp[ν.e];try omega)
 ·have hb:(c.bt !=d.bt)=D:=by simp[h]
  have ν:=K h;clear h;go_enter func168,Tryz.ntmps168;go_wp2;go_ret;exact⟨bU (by unfold nA;simp[ν.e]),(((ό _ _).alloc (ϊ _) _).alloc (by simp) _).alloc (by simp;omega) _⟩
def arF{nm:ByteArray}{aL f g:Int}{ks:List Span}{kv:z}(hk:Row w B 2 Span.R kv ks)(hB:B<=w.heap.size)(hf:0<=f)(Iz:f<=100000)(hg:0<=g)(nJ:g<=100000):
 ύ prog 148 #[η #[.string nm,Y I aL,kv],Y I f,Y I g] w λe w'=>e=Ω (Y I (lG ks f (f+g - 1)))/\φ w w':=by
 obtain⟨A,n,c,rfl,hl,ey,hc,T⟩:=hk.Φ;unfold ϕ at hc;have ν:=K hl;have H2:=K T;clear hl T hk;go_enter func148,Tryz.ntmps148;go_wp2
 go_loop [7,8] (λm k=>∃i:Nat,i<=n/\k=Y I i/\m=Y I (lG (ks.take i) f (f+g - 1))) (λ_ k=>n - (ϑ k).toNat)
 case atStart=>exact⟨0,ϛ _,rfl,rfl⟩
 case round=>
  obtain⟨i,hi,rfl,rfl⟩:=hrel;have hm:=alo (ks.take i) f (f+g - 1);have Wx:(ks.take i).length<=i:=ō _ _;by_cases ao:i<n
  ·obtain⟨ad,x,cs,rfl,aE,hx,rfl,-,aq⟩:=H2.e i ao;have st:=Δ.refl (B:=B) w;have h0:=cA aq st aE rfl;have h1:=bj aq st aE 0 rfl;have q0:(ad.add (i * 2)).block<w.heap.size:=by rw[b9];omega
   have HX:=K hx;clear hx aq st;go_wp2;all_goals
    go_round
    case rel=>
     refine⟨i+1,by omega,by go_num,?_⟩;rw[pT HX.e,alp];have e:ye f (f+g - 1) x=(decide (x.lo<=f+g - 1) && decide (f<=x.hi)):=rfl
     first
      | (rw[if_pos (by rw[e];simp;omega)])
      | (rw[if_neg (by rw[e];simp;omega)];go_num)
    case measure=>simp[ϑ];omega
  ·obtain rfl:i=n:=by omega
   go_wp2;go_ret;refine⟨bm ?_,(ό _ _).alloc (ϊ _) _⟩;simp[Õ (ò ν.e)]
def lR(w:N)(s:Int)(p q r:z)(k f:Int)(nm:ByteArray)(aL:Int)(kv:z):N:=
 ((w.alloc (Ϧ #[Y I s,p,q,r] 26)).alloc (Ϧ #[Y I k,Y I f] 56)).alloc (Ϧ #[.string nm,Y I aL,kv] 59)
section
variable (w:N)(s:Int)(p q r:z)(k f:Int)(nm:ByteArray)(aL:Int)(kv:z)
def aq2:(lR w s p q r k f nm aL kv).heap.size=w.heap.size+3:=by simp[lR]
def aq1:φ w (lR w s p q r k f nm aL kv):=(((ό _ _).alloc (ϊ _) _).alloc (by simp) _).alloc (by simp;omega) _
def aqa:(lR w s p q r k f nm aL kv).cell? ⟨w.heap.size,1,H⟩=J p:=by simp[lR,go_sem]
def aqj:(lR w s p q r k f nm aL kv).cell? ⟨w.heap.size+1,1,H⟩=J (Y I f):=by simp[lR,go_sem]
def aqN:(lR w s p q r k f nm aL kv).cell? ⟨w.heap.size+1+1,0,H⟩=J (.string nm):=by simp[lR,go_sem]
def aqZ:(lR w s p q r k f nm aL kv).cell? ⟨w.heap.size+1+1,1,H⟩=J (Y I aL):=by simp[lR,go_sem]
def aq0:(lR w s p q r k f nm aL kv).cell? ⟨w.heap.size+1+1,2,H⟩=J kv:=by simp[lR,go_sem]
end
def arc{p:Piece}{x:bN}(hb:aQ w B b pv bv tv)(hB:B<=w.heap.size)
 (hp:b.pieces[i]?=J p)(hx:b.aC[k]?=J x)(hf:0<=from_/\from_<=1000)(hl:0<=length/\length<=1000):
 ύ prog 167 #[η #[Y I b.ab,pv,bv,tv],Y I i,Y I length,η #[Y I k,Y I from_]] w λe w'=>e=Ω (.bool (pO x p.bears length ⟨k,from_⟩))/\φ w w':=by
 have HB:=K hb;obtain⟨A1,n1,c1,rfl,e1,h1,du,r1⟩:=hb.pieces.Φ;obtain⟨A2,n2,c2,rfl,e2,h2,ei,r2⟩:=hb.aC.Φ;obtain⟨A3,n3,c3,rfl,-⟩:=hb.aI.Φ;unfold ϕ at du ei;have hi:i<n1:=by have:=(Ϫ.1 hp).1;omega
 have hk:k<n2:=by have:=(Ϫ.1 hx).1;omega
 obtain⟨er,p',wT,rfl,K5,E0,⟨rfl,VZ⟩,-,fU⟩:=r1 i hi;obtain⟨cR,x',ju,rfl,gT,ij,⟨kv,rfl,abw,dC⟩,-,eu⟩:=r2 k hk;obtain rfl:p'=p:=by rw[E0] at hp;exact ϟ hp
 obtain rfl:x'=x:=by rw[ij] at hx;exact ϟ hx
 obtain⟨A4,n4,c4,rfl,-⟩:=dC.Φ;have st:=Δ.refl (B:=B) w;have g3:=bj fU st K5 2 rfl;have b0:=cA eu st gT rfl;have b1:=bj eu st gT 0 rfl;have b2:=bj eu st gT 1 rfl;have uL:=K dC;obtain⟨hf,Iz⟩:=hf;obtain⟨hl,dM⟩:=hl;clear hb e1 e2 r1 r2 hp hx E0 ij fU eu dC st;have q0:(cR.add (k * 3)).block<w.heap.size:=by rw[b9];omega
 have q1:(cR.add (k * 3)).block<=w.heap.size:=by omega
 have q2:(cR.add (k * 3)).block<=w.heap.size+1:=by omega
 have s0:(er.add (i * 4)).block<w.heap.size:=by rw[b9];omega
 have s1:(er.add (i * 4)).block<=w.heap.size:=by omega
 have s2:(er.add (i * 4)).block<=w.heap.size+1:=by omega
 by_cases VD:from_+length<=x'.aL
 ·go_enter func167,Tryz.ntmps167;go_wp2;have HW:=K (aq1 w b.ab (E (J er) n1 c1) (E (J cR) n2 c2) (E A3 n3 c3) k from_ x'.name x'.aL (E A4 n4 c4));have k1:=aqa w b.ab (E (J er) n1 c1) (E (J cR) n2 c2) (E A3 n3 c3) k from_ x'.name x'.aL (E A4 n4 c4);have k2:=aqj w b.ab (E (J er) n1 c1) (E (J cR) n2 c2) (E A3 n3 c3) k from_ x'.name x'.aL (E A4 n4 c4);have Ay:=aqN w b.ab (E (J er) n1 c1) (E (J cR) n2 c2) (E A3 n3 c3) k from_ x'.name x'.aL (E A4 n4 c4);have Az:=aqZ w b.ab (E (J er) n1 c1) (E (J cR) n2 c2) (E A3 n3 c3) k from_ x'.name x'.aL (E A4 n4 c4);have Pq:=aq0 w b.ab (E (J er) n1 c1) (E (J cR) n2 c2) (E A3 n3 c3) k from_ x'.name x'.aL (E A4 n4 c4);have HS:=K (aq2 w b.ab (E (J er) n1 c1) (E (J cR) n2 c2) (E A3 n3 c3) k from_ x'.name x'.aL (E A4 n4 c4));change Code.wp _ _ _ _ (lR w b.ab (E (J er) n1 c1) (E (J cR) n2 c2) (E A3 n3 c3) k from_ x'.name x'.aL (E A4 n4 c4));generalize lR w b.ab (E (J er) n1 c1) (E (J cR) n2 c2) (E A3 n3 c3) k from_ x'.name x'.aL (E A4 n4 c4)=W3 at HW k1 k2 Ay Az Pq HS |-
  have k4: W3.cell? ⟨(er.add (i * 4)).block,(er.add (i * 4)).off+(2+1),H⟩=J (Y I p'.bears):=(HW.e.cell (p:=⟨(er.add (i * 4)).block,(er.add (i * 4)).off+(2+1),H⟩) s0).trans g3;have lx:Hid (Γ (w.heap.size+3) W3 W3.drew):=K (dT (ό _ _));have LL:Hid (Row W3.drew B 2 Span.R (E A4 n4 c4) x'.cM):=K (uL.e.still (Δ.aJ (dT HW.e) hB) λ_ _ h=>h)
  have HT:Hid (W3.drew.heap.size=w.heap.size+3):=K HS.e;have Fl:Ϛ.wrap (from_+length)=from_+length:=IntWalk.i64_in _ (by omega)
  have hd:decide (from_+length<=x'.aL)=D:=by simpa using VD
  go_region_held3 (λw'=> w'.cell? ⟨w.heap.size,1,H⟩=J (E (J er) n1 c1)/\ w'.cell? ⟨w.heap.size+1,1,H⟩=J (Y I from_)/\ w'.cell? ⟨w.heap.size+1+1,0,H⟩=J (.string x'.name)/\ w'.cell? ⟨w.heap.size+1+1,1,H⟩=J (Y I x'.aL)/\ w'.cell? ⟨w.heap.size+1+1,2,H⟩=J (E A4 n4 c4)/\ w'.cell? ⟨(er.add (i * 4)).block,(er.add (i * 4)).off+(2+1),H⟩=J (Y I p'.bears)/\Hid (Γ (w.heap.size+3) W3 w')) (first|exact⟨k1,k2,Ay,Az,Pq,k4,lx⟩ |exact⟨m1,m2,m30,m31,m32,m4,ow⟩)
   (first| (go_at_call 148;refine(arF LL.e (by rw[HT.e];omega) hf (by omega) hl (by omega)).mono ?_;rintro e w1 ⟨rfl,ai⟩
            have m1:=(ai.cell (p:=⟨w.heap.size,1,H⟩) (by rw[HT.e];simp)).trans k1;have m2:=(ai.cell (p:=⟨w.heap.size+1,1,H⟩) (by rw[HT.e];simp)).trans k2;have m30:=(ai.cell (p:=⟨w.heap.size+1+1,0,H⟩) (by rw[HT.e];simp)).trans Ay;have m31:=(ai.cell (p:=⟨w.heap.size+1+1,1,H⟩) (by rw[HT.e];simp)).trans Az;have m32:=(ai.cell (p:=⟨w.heap.size+1+1,2,H⟩) (by rw[HT.e];simp)).trans Pq;have m4:=(ai.cell (p:=⟨(er.add (i * 4)).block,(er.add (i * 4)).off+(2+1),H⟩) (by rw[HT.e];simp;omega)).trans k4;have ow:Hid (Γ (w.heap.size+3) W3 w1):=K (uN (ai.mono (by rw[HT.e];omega)))))
  go_wp2;go_ret;refine⟨bU ?_,HW.e.trans (ow.e.mono (by omega))⟩;have hq:from_+length - 1<x'.aL:=by omega
  simp[pO,hq]
 ·have hd:decide (from_+length<=x'.aL)=U:=by simpa using VD
  go_enter func167,Tryz.ntmps167;go_wp2;have Fl:Ϛ.wrap (from_+length)=from_+length:=IntWalk.i64_in _ (by omega)
  go_quiet (fail);go_wp2;go_ret;refine⟨bU ?_,jr ((((ό _ _).alloc (ϊ _) _).alloc (by simp) _).alloc (by simp;omega) _) _⟩;have hq:decide (from_+length - 1<x'.aL)=U:=by simp;omega
  simp only[pO,hq,Bool.false_and]
def ng(n m:Int):Int:=if n=0 then 2 else if n=m then 1 else 0
def Ys{α:Type}{f:α->Int}:∀(l dZ:List α),scan (λ_ x=>f x) dZ l=0->∀x∈l,f x=0
 | [],_,_,x,h=>by cases h
 |a::l,dZ,h,x,hx=>by
  unfold scan at h;by_cases h0:f a≠0
  ·rw[if_pos h0] at h;exact absurd h h0
  ·rw[if_neg h0] at h;rcases Ϡ.1 hx with rfl|hx
   ·simpa using h0
   ·exact Ys l _ h x hx
def aem{l:List Cut}(h:gZ b l=0):l.length=b.pieces.length:=by
 unfold gZ at h;split at h
 ·contradiction
 ·rename_i h1;simpa using h1
def Hn(hv:Valid b){l:List Cut}(h:gZ b l=0):aaP b l:=by
 have hlen:=aem h;refine⟨hlen,hv.np.2,λi c hc=>?_,⟨hv.ab.1,by have:=hv.ab.2;omega⟩⟩;unfold gZ at h;rw[if_neg (by simpa using hlen)] at h;have h1:=Ys (f:=mK b.aC.length) l [] h c (ϡ hc);unfold mK at h1;split at h1
 ·rename_i h2;split at h1
  ·rename_i h3;have a:=nS h2;have d:=nS h3;refine⟨⟨c.bt.toNat,by omega,by omega⟩,d⟩
  ·contradiction
 ·contradiction
def S8{b:eR}(hv:Valid b):∀(f i:Nat) (n:al),i+f=b.pieces.length->n.Ok->∀ω∈dU b f i n,ω.Ok
 |0,i,n,hi,hn,ω,hL=>by
  unfold dU at hL;split at hL
  ·simp at hL;subst hL;exact hn
  ·simp at hL
 |f+1,i,n,hi,hn,ω,hL=>by
  unfold dU at hL;cases h:b.pieces[i]? with
  |none=>rw[h] at hL;simp at hL
  |some p=>
   rw[h] at hL;simp only[Ah3] at hL;obtain⟨k,hk,hL⟩:=hL;have hp:=hv.piece p (ϡ h);have:=hv.np.2;simp only[iJ,ô,Ď] at hk;obtain⟨j,hj,rfl⟩:=hk;have:=hp.lo;have:=hp.hi;have:=hp.le
   exact S8 hv f (i+1) _ (by omega) (hn.set (by omega) (by omega) (by omega)) ω hL
def wI(hv:Valid b):∀ω∈aB b,ω.Ok:=S8 hv _ _ _ (by omega) (λq=>by unfold al.at;simp)
def aco{l:List Cut}(hB:B<=w.heap.size)(ah:aQ w B b pv bv tv)(hl:Row w B 2 Cut.R lv l)(hg:Bk w g 27 #[lv]):uB b pv bv tv w 108 #[π (J ⟨g,0,H⟩)] (gZ b l):=by
 refine⟨call108,λ_ W hW=>?_⟩;have kA:=hg.lt;have st:Δ B w (W.alloc (Ξ #[Y I b.ab,pv,bv,tv] 117)):=(Δ.aJ hW hB).alloc (by have:=hW.size;omega) _
 have g0: W.cell? ⟨g,0,H⟩=J lv:=(hg.below hW kA).cell 0;have aG:=K (MK (ah.still st) (hl.still st λ_ _ h=>h) (by have:=hW.size;simp;omega))
 have hz:g<W.heap.size:=by have:=hW.size;omega
 have WA:g<=W.heap.size:=by omega
 obtain⟨A1,n1,c1,A2,n2,c2,A3,n3,c3,rfl,rfl,rfl⟩:=ah.op;obtain⟨A,n,c,rfl,-⟩:=hl.Φ;clear ah hl hW hg st;refine app1 ?_;go_enter func108,Tryz.ntmps108;go_wp2_with (first
  | (go_at_call 109;refine aG.e.mono ?_;rintro e w1 ⟨rfl,ai⟩))
 go_ret;exact⟨bm rfl,da (ό _ _) ai (ϊ _)⟩
def fL(p:al->Bool)(l:List al):Int:=(l.filter p).length
def aed(p:al->Bool)(l:List al):0<=fL p l/\fL p l<=l.length:=by unfold fL;exact⟨by omega,by have:=Agg p l;omega⟩
def TK(p:al->Bool)(l:List al)(x:al):fL p (l++ [x])=fL p l+if p x then 1 else 0:=by unfold fL;rw[List.filter_append];cases h:p x<;>simp[List.filter_cons,h]
def Ho{l:List Cut}(hB:B<=w.heap.size)(ah:aQ w B b pv bv tv)(hl:Row w B 2 Cut.R lv l)(h:bT b (gZ b l)=0):
 ύ prog 28 #[η #[Y I b.ab,pv,bv,tv],lv] w λe w'=>e=Ω (μ #[Y I (ng (fL (λω=>db b ω l) (aB b)) (aB b).length),Y I 0])/\φ w w':=by
 have st:Δ B w ((w.alloc (Ξ #[Y I b.ab,pv,bv,tv] 26)).alloc (Ξ #[lv] 27)):=((Δ.refl w).alloc hB _).alloc (by simp;omega) _;have aG:=K (ym (w:=((w.alloc (Ξ #[Y I b.ab,pv,bv,tv] 26)).alloc (Ξ #[lv] 27))) (B:=B) (by simp;omega) (ah.still st) (aco (by simp;omega) (ah.still st) (hl.still st λ_ _ h=>h) (Bk.bZ (g:=w.heap.size+1) (by simp) _ _)) h);have hz:=mX h;have hv:=fG hz.1;have OK:=K (Ϗ (Hn hv hz.2.1) (wI hv));have bD:=K ah;have wy:=K hl;have HV:=K hv;obtain⟨A1,n1,c1,A2,n2,c2,A3,n3,c3,rfl,rfl,rfl⟩:=ah.op;obtain⟨A,n,c,rfl,-⟩:=hl.Φ;clear ah hl st hz hv h;go_enter func28,Tryz.ntmps28;go_wp2_with (first
  | (go_at_call 98;refine aG.e.mono ?_;rintro e w1 ⟨sv,rfl,aH,ai⟩
     obtain⟨A9,n9,c9,rfl,dh,kW,fg,jz⟩:=aH.row.Φ;have mz:=K jz;have ri:=K dh;have HO:=K aH;have kb:Hid (Bk w1 w.heap.size 26 #[Y I b.ab,E A1 n1 c1,E A2 n2 c2,E A3 n3 c3]):=K (((Bk.new w _ _).alloc _).below ai (by simp;omega))
     have kl:Hid (Bk w1 (w.heap.size+1) 27 #[E A n c]):=K ((Bk.bZ (by simp) _ _).below ai (by simp));have aO:w.heap.size+2<=w1.heap.size:=(by have:=ai.size;simpa using this);have aW:Hid (φ w w1):=K ((((ό _ _).alloc (ϊ _) _).alloc (by simp) _).trans (ai.mono (by simp;omega)));clear ai aH dh jz))
 unfold ϕ at fg;go_loopw [8,23] (λm k wr=>∃i:Nat,i<=n9/\k=Y I i/\m=Y I (fL (λω=>db b ω l) ((aB b).take i))/\Hid (Γ (w1.heap.size+1) (w1.alloc (Ξ #[Y I b.ab,E A1 n1 c1,E A2 n2 c2,E A3 n3 c3,E A9 n9 c9] 122)) wr)) (λ_ k _=>n9 - (ϑ k).toNat);case atStart=>exact⟨0,ϛ _,rfl,by simp[fL],K (ό _ _)⟩
 case round=>
  obtain⟨i,hi,rfl,rfl,hb⟩:=hrel;have sd:w1.heap.size+1<=wr.heap.size:=by have:=hb.e.size;simpa using this
  have wm:Hid (φ w wr):=K (aW.e.trans (((ό _ _).alloc (by omega) _).trans (hb.e.mono (by omega))));have pf:Hid (φ w1 wr):=K (((ό _ _).alloc (by omega) _).trans (hb.e.mono (by omega)));have kf:Bk wr w1.heap.size 122 #[Y I b.ab,E A1 n1 c1,E A2 n2 c2,E A3 n3 c3,E A9 n9 c9]:=(Bk.new w1 _ _).below hb.e (by omega);have Jc:Bk wr (w.heap.size+1) 27 #[E A n c]:=kl.e.below pf.e (by omega);have f0:=kf.cell 0;have f1:=kf.cell 1;have f2:=kf.cell 2;have f3:=kf.cell 3;have f4:=kf.cell 4;have l0:=Jc.cell 0;have Lq:=ri.e;have dA:=aed (λω=>db b ω l) ((aB b).take i)
  have gJ:((aB b).take i).length<=i:=ō _ _;have ahl:0<=fL (λω=>db b ω l) ((aB b).take i):=dA.1
  have ahm:fL (λω=>db b ω l) ((aB b).take i)<=i:=by have:=dA.2;omega
  clear kf Jc Lq dA gJ;by_cases ao:i<n9
  ·obtain⟨ad,x,cs,lZ,aE,hx,rfl,-,aq⟩:=mz.e i ao;subst lZ;have st:Δ w1.heap.size w1 wr:=Δ.aJ pf.e (ϊ _);have g0:=cA aq st aE rfl;have g1:=bj aq st aE 0 rfl;have g2:=bj aq st aE 1 rfl;have rK:(ad.add (i * 3)).block<wr.heap.size:=by rw[b9];omega
   have HX:=K hx;have vT:Δ B w (wr.alloc (Ξ #[Y I x.a,Y I x.b,Y I x.c] 128)):=(Δ.aJ wm.e hB).alloc (by omega) _
   have wh:=K (MN (w:=wr.alloc (Ξ #[Y I x.a,Y I x.b,Y I x.c] 128)) (B:=B) (ω:=x) (bD.e.still vT) (wy.e.still vT λ_ _ h=>h) (by simp;omega) OK.e.1.len OK.e.1.three OK.e.1.lC (OK.e.2 x (ϡ hx)) OK.e.1.ab);have a1:w.heap.size+1<wr.heap.size:=(by omega);have a2:w.heap.size+1<=wr.heap.size:=(by omega);have a3:w1.heap.size<wr.heap.size:=(by omega);have a4:w1.heap.size<=wr.heap.size:=(by omega);clear hx aq st vT;cases hd:db b x l with
   |false=>
    have NX:Hid (fL (λω=>db b ω l) ((aB b).take i)=fL (λω=>db b ω l) ((aB b).take (i+1))):=K (by rw[pT HX.e,TK,hd];simp);go_wp2_with (first
     | (go_at_call 110;refine wh.e.mono ?_;rintro e w2 ⟨rfl,an⟩;have dj:=K (da hb.e an (by omega));clear an))
    go_roundw;case rel=>exact⟨i+1,by omega,by go_num,by rw[NX.e],dj⟩
    case measure=>simp[ϑ];omega
   |true=>
    have NX:Hid (fL (λω=>db b ω l) ((aB b).take i)+1=fL (λω=>db b ω l) ((aB b).take (i+1))):=K (by rw[pT HX.e,TK,hd];simp);go_wp2_with (first
     | (go_at_call 110;refine wh.e.mono ?_;rintro e w2 ⟨rfl,an⟩;have dj:=K (da hb.e an (by omega));clear an))
    go_roundw;case rel=>exact⟨i+1,by omega,by go_num,by rw[<-NX.e],dj⟩
    case measure=>simp[ϑ];omega
  ·obtain rfl:i=n9:=by omega
   obtain⟨q,hq⟩:∃q,q=fL (λω=>db b ω l) ((aB b).take i):=⟨_,rfl⟩
   have HQ:Hid (q=fL (λω=>db b ω l) (aB b)):=K (by rw[hq,Õ (ò ri.e)]);rw[<-hq] at ahl ahm |-;clear hq;go_wp2;all_goals go_ret2
   all_goals (refine⟨JP ?_ rfl,wm.e⟩;simp only[beq_iff_eq,beq_eq_false_iff_ne,ne_eq] at *;rw[<-HQ.e,ri.e];unfold ng;first| (rw[if_pos (by omega)];done) | (rw[if_neg (by omega),if_pos (by omega)];done) | (rw[if_neg (by omega),if_neg (by omega)];done))
def yv(b:eR)(k:Int):Int:=if cj k 0 (b.pieces.length - 1) then 0 else 6
def acp{k:Int}(hB:B<=w.heap.size)(ah:aQ w B b pv bv tv)(hg:Bk w g 3 #[Y I k]):uB b pv bv tv w 99 #[π (J ⟨g,0,H⟩)] (yv b k):=by
 refine⟨call99,λ_ W hW=>?_⟩;have kA:=hg.lt;have g0: W.cell? ⟨g,0,H⟩=J (Y I k):=(hg.below hW kA).cell 0;have hz:g<W.heap.size:=by have:=hW.size;omega
 have WA:g<=W.heap.size:=by omega
 obtain⟨A1,n1,c1,rfl,e1,h1,du,-⟩:=ah.pieces.Φ;obtain⟨A2,n2,c2,rfl,-⟩:=ah.aC.Φ;obtain⟨A3,n3,c3,rfl,-⟩:=ah.aI.Φ;unfold ϕ at du;have call:∀w:N,ύ prog 100 #[Y I k,Y I n1] w λe w'=>e=Ω (Y I (yv b k))/\w=w':=λw=>by have:=there k n1 (by omega) w (by omega);unfold yv;rw[e1];exact this
 have aG:=K call;clear ah hW hg e1 call;refine app1 ?_;go_enter func99,Tryz.ntmps99;go_wp2_with (first
  | (go_at_call 100;refine(aG.e _).mono ?_;rintro e w1 ⟨rfl,rfl⟩))
 go_ret;exact⟨bm rfl,(ό _ _).alloc (ϊ _) _⟩
def Bw(ah:aQ w B b pv bv tv):uB b pv bv tv w 107 #[] 0:=by refine⟨call107,λ_ W hW=>?_⟩;obtain⟨A1,n1,c1,rfl,e1,h1,du,-⟩:=ah.pieces.Φ;obtain⟨A2,n2,c2,rfl,-⟩:=ah.aC.Φ;obtain⟨A3,n3,c3,rfl,-⟩:=ah.aI.Φ;exact nothing W
def oT(b:eR)(k:Nat):List Int:=Lib.compact (fQ ((aB b).map (·.at k)))
def anM(h:a=c):Ending.returned (μ #[v,Y I a])=Ω (μ #[v,Y I c]):=by rw[h]
def PD(hB:B<=w.heap.size)(ah:aQ w B b pv bv tv)(h:bT b (yv b k)=0):
 ύ prog 24 #[η #[Y I b.ab,pv,bv,tv],Y I k] w λe w'=>∃v,e=Ω (μ #[v,Y I 0])/\w'.ownsRow w.heap.size 3 1 v (oT b k).length ((oT b k).map (Y I))/\φ w w':=by
 have st:Δ B w ((w.alloc (Ξ #[Y I b.ab,pv,bv,tv] 26)).alloc (Ξ #[Y I k] 3)):=((Δ.refl w).alloc hB _).alloc (by simp;omega) _;have aG:=K (ym (w:=((w.alloc (Ξ #[Y I b.ab,pv,bv,tv] 26)).alloc (Ξ #[Y I k] 3))) (B:=B) (by simp;omega) (ah.still st) (acp (by simp;omega) (ah.still st) (Bk.bZ (g:=w.heap.size+1) (by simp) _ _)) h);have hz:=mX h;have hv:=fG hz.1;have jx:k<3:=by
  have h1:=hz.2.1;unfold yv at h1;split at h1
  ·rename_i h2;have:=nS h2;have:=hv.np;omega
  ·contradiction
 have ah8:=DF hv;obtain⟨i0,cJ,cK,aO,aZ⟩:=Ö Pd;have cy:=K (Ϗ cJ (Ϗ cK (Ϗ aO aZ)));obtain⟨A1,n1,c1,A2,n2,c2,A3,n3,c3,rfl,rfl,rfl⟩:=ah.op;clear ah st hz hv h cJ cK aO aZ;go_enter func24,Tryz.ntmps24;go_wp2_with (first
  | (go_at_call 98;refine aG.e.mono ?_;rintro e w1 ⟨sv,rfl,aH,ai⟩
     obtain⟨A9,n9,c9,rfl,dh,kW,fg,jz⟩:=aH.row.Φ;have mz:=K jz;have ri:=K dh;have kk:Hid (Bk w1 (w.heap.size+1) 3 #[Y I k]):=K ((Bk.bZ (by simp) _ _).below ai (by simp))
     have aO:w.heap.size+2<=w1.heap.size:=(by have:=ai.size;simpa using this);have aif:n9<=27:=(by omega);have aW:Hid (φ w w1):=K ((((ό _ _).alloc (ϊ _) _).alloc (by simp) _).trans (ai.mono (by simp;omega)));clear ai aH dh jz))
 unfold ϕ at fg;go_loopw [8,23] (λo u wr=>∃i:Nat,i<=n9/\u=Y I i/\Hid (wr.ownsRow (w1.heap.size+1) 3 1 o i (((aB b).take i).map λω=>Y I (ω.at k)))/\Hid (Γ (w1.heap.size+1) (w1.alloc (Ξ #[Y I b.ab,E A1 n1 c1,E A2 n2 c2,E A3 n3 c3,E A9 n9 c9] 122)) wr)) (λ_ u _=>n9 - (ϑ u).toNat);case atStart=>exact⟨0,ϛ _,rfl,K ⟨by simp,.inl ⟨rfl,rfl⟩⟩,K (ό _ _)⟩
 case round=>
  obtain⟨i,hi,rfl,HO,hb⟩:=hrel;have sd:w1.heap.size+1<=wr.heap.size:=by have:=hb.e.size;simpa using this
  have pf:Hid (φ w1 wr):=K (((ό _ _).alloc (by omega) _).trans (hb.e.mono (by omega)));have W9:Bk wr (w.heap.size+1) 3 #[Y I k]:=kk.e.below pf.e (by omega);have k0:=W9.cell 0;clear W9;by_cases ao:i<n9
  ·obtain⟨ad,x,cs,lZ,aE,hx,rfl,-,aq⟩:=mz.e i ao;subst lZ;have st:Δ w1.heap.size w1 wr:=Δ.aJ pf.e (ϊ _);have g0:=cA aq st aE rfl;have g1:=bj aq st aE 0 rfl;have g2:=bj aq st aE 1 rfl;have rK:(ad.add (i * 3)).block<wr.heap.size:=by rw[b9];omega
   have HX:=K hx;have a1:w.heap.size+1<wr.heap.size:=by omega
   have a2:w.heap.size+1<=wr.heap.size:=(by omega);have ahV:(k:Int)<3:=(by omega);have gk:(wr.alloc (Ξ #[Y I x.a,Y I x.b,Y I x.c] 128)).cell? ⟨wr.heap.size,k,H⟩=J (Y I (x.at k)):=(Bk.new wr _ _).cell k|>.trans (al.wU (n:=x) jx);clear hx aq st;go_wp2_with (first
    | (at_builtin
       refine ĝ _ rfl (.tmp 27) (.tmp 31) 33 rfl (w1.heap.size+1) 3 i0 (Y I 0) 1 8 (χ Tryz.underlying33) cy.e.1 cy.e.2.1 cy.e.2.2.1 cy.e.2.2.2 rfl (by decide) _ i _ rfl ((HO.e.alloc _).alloc _) ⟨wr.heap.size+1,0,H⟩ 1 1 [Y I (x.at k)] rfl rfl ?c1 ?c2 ?c3 ?c4 ?c5 ?_;case c1=>(intro j u hu;match j,hu with|0,hu=>(simp at hu;subst hu;simp[go_sem,Č]))
       case c2=>simp[Value.oneCell']
       case c3=>(simp only[ϕ];omega)
       case c4=>omega
       case c5=>(simp;omega)
       intro v' w2 b7 cW _;have gC:=K b7;have gX:=K cW;clear b7 cW))
   go_roundw;case rel=>exact⟨i+1,by omega,by go_num,K (by rw[pT HX.e,È];exact gC.e),
    K ((hb.e.trans (((ό _ _).alloc sd _).alloc (by simp;omega) _)).grown gX.e (by simp;omega) (λk hk=>dX HO.e k hk))⟩
   case measure=>simp[ϑ];omega
  ·obtain rfl:i=n9:=by omega
   have xJ:(((aB b).take i).map λω=>Y I (ω.at k))=((aB b).map (·.at k)).map (Y I):=(by rw[Õ (ò ri.e),List.map_map];rfl);have sB:Hid (wr.ownsRow (w1.heap.size+1) 3 1 u8 i (((aB b).map (·.at k)).map (Y I))):=K (xJ▸HO.e);have wm:Hid (φ w wr):=K (aW.e.trans (pf.e.mono (by omega)));clear xJ HO;go_wp2_with (first
    | (go_at_call 101;refine(QE sB.e (by omega) sd).mono ?_;rintro e w2 ⟨rfl,b7,an⟩;have wA:=K b7;have dR:=K an;clear b7 an)
    | (go_at_call 102;refine(TF wA.e (by omega)).mono ?_;rintro e w3 ⟨u,rfl,gv,bK⟩;have yU:=K gv;have jK:=K bK;clear gv bK))
   go_ret2
   exact⟨_,anM rfl,yU.e.base (by omega),wm.e.trans ((dR.e.trans jK.e).mono (by omega))⟩
def al.sum(ω:al):Int:=ω.a+ω.b+ω.c
def C8(s:Span)(ω:al):Span:=⟨min s.lo ω.sum,max s.hi ω.sum⟩
def pV:List al->Span
 | []=>⟨0,0⟩
 |x::l=>l.foldl C8 ⟨x.sum,x.sum⟩
def ap0{l:List al}(h:l≠ [])(x:al):pV (l++ [x])=C8 (pV l) x:=by
 cases l with
 |nil=>exact absurd rfl h
 |cons a l=>simp[pV]
def apZ(x:al):pV [x]=C8 ⟨x.sum,x.sum⟩ x:=by simp[pV,C8]
def ap1(hB:B<=w.heap.size)(ah:aQ w B b pv bv tv)(h:bT b 0=0):
 ύ prog 26 #[η #[Y I b.ab,pv,bv,tv]] w λe w'=>e=Ω (μ #[η #[Y I (pV (aB b)).lo,Y I (pV (aB b)).hi],Y I 0])/\φ w w':=by
 have st:Δ B w ((w.alloc (Ξ #[Y I b.ab,pv,bv,tv] 26)).alloc (Ξ #[Y I 0,Y I 0] 37)):=((Δ.refl w).alloc hB _).alloc (by simp;omega) _;have aG:=K (ym (w:=((w.alloc (Ξ #[Y I b.ab,pv,bv,tv] 26)).alloc (Ξ #[Y I 0,Y I 0] 37))) (B:=B) (by simp;omega) (ah.still st) (Bw (ah.still st)) h);have hz:=mX h;have hv:=fG hz.1;have OK:=K (wI hv);have HNE:=K hz.2.2;obtain⟨A1,n1,c1,A2,n2,c2,A3,n3,c3,rfl,rfl,rfl⟩:=ah.op;clear ah st hz hv h;go_enter func26,Tryz.ntmps26;go_wp2_with (first
  | (go_at_call 98;refine aG.e.mono ?_;rintro e w1 ⟨sv,rfl,aH,ai⟩
     obtain⟨A9,n9,c9,rfl,dh,kW,fg,jz⟩:=aH.row.Φ;have mz:=K jz;have ri:=K dh;have k2:Hid (Bk w1 (w.heap.size+1) 37 #[Y I 0,Y I 0]):=K ((Bk.bZ (by simp) _ _).below ai (by simp))
     have aO:w.heap.size+2<=w1.heap.size:=(by have:=ai.size;simpa using this);have aW:Hid (φ w w1):=K ((((ό _ _).alloc (ϊ _) _).alloc (by simp) _).trans (ai.mono (by simp;omega)));clear ai aH dh jz))
 unfold ϕ at fg;go_loopw [24] (λu wr=>∃i:Nat,i<=n9/\u=Y I i/\Hid (Bk wr (w1.heap.size+1) 37 #[Y I (pV ((aB b).take i)).lo,Y I (pV ((aB b).take i)).hi])/\Hid (φ w1 wr)) (λu _=>n9 - (ϑ u).toNat);case atStart=>exact⟨0,ϛ _,rfl,K (by simpa [pV] using Bk.bZ (by simp) _ _),K (((ό _ _).alloc (ϊ _) _).alloc (by simp) _)⟩
 case round=>
  obtain⟨i,hi,rfl,hk,hb⟩:=hrel;have sd:w1.heap.size+1<wr.heap.size:=hk.e.lt;have wm:Hid (φ w wr):=K (aW.e.trans (hb.e.mono (by omega)))
  obtain⟨hr,hT⟩:∃hr,hr=pV ((aB b).take i):=⟨_,rfl⟩
  rw[<-hT] at hk;have HT:=K hT;clear hT;have t0: wr.cell? ⟨w1.heap.size+1,0,H⟩=J (Y I hr.lo):=hk.e.cell 0;have t1: wr.cell? ⟨w1.heap.size+1,1,H⟩=J (Y I hr.hi):=hk.e.cell 1;have z0:=hk.e.frozen 0;have z1:=hk.e.frozen 1;by_cases ao:i<n9
  ·obtain⟨ad,x,cs,lZ,aE,hx,rfl,-,aq⟩:=mz.e i ao;subst lZ;have st:Δ w1.heap.size w1 wr:=Δ.aJ hb.e (ϊ _);have g0:=cA aq st aE rfl;have g1:=bj aq st aE 0 rfl;have g2:=bj aq st aE 1 rfl;have rK:(ad.add (i * 3)).block<wr.heap.size:=by rw[b9];omega
   have HX:=K hx;have JD:=OK.e x (ϡ hx);have oka:0<=x.a/\x.a<=1000:=JD 0;have okb:0<=x.b/\x.b<=1000:=JD 1;have JC:0<=x.c/\x.c<=1000:=JD 2;have i0:∀w:N,(ģ 128 (η #[Y I x.a,Y I x.b,Y I x.c]) (Y I 0)).run prog w=.ok (Y I x.a) w:=λw=>by simp[ģ,go_sem]
   have i1:∀w:N,(ģ 128 (η #[Y I x.a,Y I x.b,Y I x.c]) (Y I 1)).run prog w=.ok (Y I x.b) w:=λw=>by simp[ģ,go_sem]
   have i2:∀w:N,(ģ 128 (η #[Y I x.a,Y I x.b,Y I x.c]) (Y I 2)).run prog w=.ok (Y I x.c) w:=λw=>by simp[ģ,go_sem]
   clear hx aq st JD;go_wp2;go_loopw [9,30] (λs υ W=>∃j:Nat,j<=3/\υ=Y I j/\s=Y I (if j=0 then 0 else if j=1 then x.a else if j=2 then x.a+x.b else x.a+x.b+x.c)/\W=wr.alloc (Ξ #[Y I x.a,Y I x.b,Y I x.c] 128)) (λ_ υ _=>3 - (ϑ υ).toNat);case atStart=>exact⟨0,by omega,rfl,rfl,rfl⟩
   case round=>
    obtain⟨j,hj,rfl,rfl,rfl⟩:=hrel;match j,hj with
    |0,_=>
     go_wp2;go_roundw;case rel=>exact⟨1,by omega,rfl,by simp,trivial⟩
     case measure=>simp[ϑ]
    |1,_=>
     go_wp2;go_roundw;case rel=>exact⟨2,by omega,rfl,by simp,trivial⟩
     case measure=>simp[ϑ]
    |2,_=>
     go_wp2;go_roundw;case rel=>exact⟨3,by omega,rfl,by simp,trivial⟩
     case measure=>simp[ϑ]
    |3,_=>
     obtain⟨S,hS⟩:∃S,S=x.a+x.b+x.c:=⟨_,rfl⟩
     have HS:Hid (S=x.sum):=K hS;have e3:(if 3=0 then 0 else if 3=1 then x.a else if 3=2 then x.a+x.b else x.a+x.b+x.c)=S:=by simp[hS]
     rw[e3];clear hS e3;have q1:w1.heap.size+1<wr.heap.size+1:=by omega
     have eD:=hk.e.alloc (Ξ #[Y I x.a,Y I x.b,Y I x.c] 128);by_cases h0:i=0
     ·subst h0;go_wp2;go_roundw;case rel=>exact⟨1,by omega,by simp,K (by
           have e:(aB b).take 1=[x]:=(by have:=pT HX.e;simpa using this);rw[e,apZ];have:=(((hk.e.set 0 (Y I S)).set 1 (Y I S)).set 0 (Y I S)).set 1 (Y I S);simpa [C8,HS.e] using this.alloc (Ξ #[Y I x.a,Y I x.b,Y I x.c] 128)),
          K (Ũ (by(repeat refine ļ ?_ (by simp) _);exact hb.e) (by simp[ü];omega) _)⟩
      case measure=>simp[ϑ];omega
     ·have aw:((i:Int)==0)=U:=by simp;omega
      go_wp2;go_roundw;case rel=>exact⟨i+1,by omega,by go_num,K (by
           have hn:(aB b).take i≠ []:=by
            intro e;have h1:((aB b).take i).length=i:=by rw[List.length_take,ri.e];omega
            rw[e] at h1;simp at h1;omega
           rw[pT HX.e,ap0 hn,<-HT.e];have:=(hk.e.set 0 (Y I (min hr.lo S))).set 1 (Y I (max hr.hi S));simpa [C8,HS.e] using this.alloc (Ξ #[Y I x.a,Y I x.b,Y I x.c] 128)),
          K (Ũ (by(repeat refine ļ ?_ (by simp) _);exact hb.e) (by simp[ü];omega) _)⟩
      case measure=>simp[ϑ];omega
  ·obtain rfl:i=n9:=by omega
   have ZP:Hid (hr=pV (aB b)):=K (by rw[HT.e,Õ (ò ri.e)]);have kr:=k2.e.below hb.e (by omega);have r0: wr.cell? ⟨w.heap.size+1,0,H⟩=J (Y I 0):=kr.cell 0;have r1: wr.cell? ⟨w.heap.size+1,1,H⟩=J (Y I 0):=kr.cell 1;have y0:=kr.frozen 0;have y1:=kr.frozen 1;have e1:w.heap.size+1<w1.heap.size+1:=by omega
   clear kr;go_wp2;refine ø (v:=μ #[η #[Y I hr.lo,Y I hr.hi],Y I 0]) (by simp[results,Tryz.results26,go_sem,r0,r1]) rfl ⟨by rw[ZP.e],?_⟩;repeat refine ļ ?_ (by simp) _
   exact wm.e
def ajI:prog.keyTypeAt 10 225=D:=by kernel_rfl
def apW:prog.tiled 10 225=D:=by kernel_rfl
def small:10+1<=10000:=by omega
def FL:Maps.Keyed prog 225:=Maps.Keyed.of_law (deep_law small ajI apW (by kernel_rfl))
def kt:prog.keyType 225=D:=by kernel_rfl
def sz:prog.types.size=260:=by kernel_rfl
def Tj:prog.cellsOf 225=4:=by kernel_rfl
def c3:prog.cellsOf 3=1:=by kernel_rfl
def fm(a b c d:Int):(Value.agg #[.int .i64 a,.int .i64 b,.int .i64 c,.int .i64 d]).formed prog 225=D:=by have u:=χ Tryz.underlying225;simp only[Value.formed,u,Tj];rfl
def ajG(n:Nat)(a b c d:Int)(ha:(Lit.int .i64 a).wf=D)(hb:(Lit.int .i64 b).wf=D)(hc:(Lit.int .i64 c).wf=D)(hd:(Lit.int .i64 d).wf=D):
 prog.keyLits (n+1+1) 225 [.int .i64 a,.int .i64 b,.int .i64 c,.int .i64 d]=J [.int .i64 a,.int .i64 b,.int .i64 c,.int .i64 d]:=by
 have u:=χ Tryz.underlying225;have u3:=χ Tryz.underlying3;simp[Program.keyLits,u,u3,Tj,c3,ha,hb,hc,hd]
def ajD(a b c d:Int)(ha:(Lit.int .i64 a).wf=D)(hb:(Lit.int .i64 b).wf=D)(hc:(Lit.int .i64 c).wf=D)(hd:(Lit.int .i64 d).wf=D):∃l,keyOf prog 225 (η #[.int .i64 a,.int .i64 b,.int .i64 c,.int .i64 d])=J l:=by
 have u:=χ Tryz.underlying225;refine⟨.string (keyBytes [.int .i64 a,.int .i64 b,.int .i64 c,.int .i64 d]),?_⟩;unfold keyOf;simp only[u,kt,fm,Bool.and_self,if_true];rw[sz];have:=ajG 259 a b c d ha hb hc hd;simp only[Value.cells,Array.toList] at this |-
 rw[this];rfl
def kv(bd fr ln be:Int):z:=η #[.int .i64 bd,.int .i64 fr,.int .i64 ln,.int .i64 be]
def mC(a:Int):Prop:= -9223372036854775808<=a/\a<=9223372036854775807
def Dd(h:mC a):(Lit.int .i64 a).wf=D:=WalkArith.wf_i64 h
def qN(b:eR)(bd fr ln be:Int):Bool:=match b.aC[bd.toNat]? with
 |some x=>pO x be ln ⟨bd,fr⟩
 |none=>U
structure Bm(bd fr ln be:Int):Prop where
 a:mC bd
 b:mC fr
 c:mC ln
 d:mC be
def Bm.key(h:Bm bd fr ln be):∃l,keyOf prog 225 (kv bd fr ln be)=J l:=ajD bd fr ln be (Dd h.a) (Dd h.b) (Dd h.c) (Dd h.d)
def CH(b:eR)(e:MapEntry):Prop:=∃bd fr ln be,Bm bd fr ln be/\e.key=kv bd fr ln be/\e.val=.bool (qN b bd fr ln be)
def dS(W:N)(g:Nat)(b:eR):Prop:=∃es clock,W.heap[g]?=J (.map es clock)/\∀e∈es.toList,CH b e
def dS.lt(h:dS W g b):g<W.heap.size:=by obtain⟨es,clock,h,_⟩:=h;exact(Ϝ.1 h).1
def ajJ{b a' b' c' d':Int}(h:kv a b c d=kv a' b' c' d'):a=a'/\b=b'/\c=c'/\d=d':=by simp[kv] at h;exact h
def CH.key{b:eR}{e:MapEntry}(h:CH b e):∃l,keyOf prog 225 e.key=J l:=by obtain⟨bd,fr,ln,be,h1,h2,_⟩:=h;obtain⟨l,hl⟩:=h1.key;exact⟨l,by rw[h2];exact hl⟩
def akA(h:dS W g b)(hk:Bm bd fr ln be):
 ∃v ok,(Ś 149 (.map (J g)) (kv bd fr ln be) D).run prog W=.ok (μ #[.bool v,.bool ok]) W/\(ok=D->v=qN b bd fr ln be):=by
 obtain⟨es,clock,hg,sS⟩:=h;obtain⟨l,hl⟩:=hk.key;have hc:=FL.check W es.isEmpty hl;have hz:(zeroValue 4).run prog W=.ok (.bool U) W:=by rw[QS];kernel_rfl
 have hgo:(getObj g).run prog W=.ok (.map es clock) W:=by simp[getObj,Sem.run,hg]
 rcases FL.find W hl es.toList (λe he=>(sS e he).key) with⟨hf,_⟩ | ⟨j,e,hf,hj,Oh⟩
 ·refine⟨U,U,?_,by simp⟩;unfold Ś;simp[Sem.run_bind,hgo,ż,hc,hf,hz,go_sem]
 ·obtain⟨bd',ba,ln',be',_,h2,h3⟩:=sS e (ϡ hj);rw[Oh] at h2;obtain⟨rfl,rfl,rfl,rfl⟩:=ajJ h2;refine⟨_,D,?_,λ_=>rfl⟩;unfold Ś;simp[Sem.run_bind,hgo,ż,hc,hf,h3,go_sem]
def aqo(h:dS W g b)(hk:Bm bd fr ln be):
 ∃W',(ś 149 (.map (J g)) (kv bd fr ln be) (.bool (qN b bd fr ln be))).run prog W=.ok () W'/\dS W' g b/\W.grownBy W' (J g):=by
 obtain⟨es,clock,hg,sS⟩:=h;have ao:=(Ϝ.1 hg).1
 obtain⟨l,hl⟩:=hk.key;have hc:=FL.check W U hl;have hgo:(getObj g).run prog W=.ok (.map es clock) W:=by simp[getObj,Sem.run,hg]
 have I0:∀es' DV,(setObj g (.map es' DV)).run prog W=.ok () (W.putObj g (.map es' DV)):=λes' DV=>by have e:W.heap[g]=.map es clock:=(Ϝ.1 hg).2;simp[setObj,Sem.run,World.putObj,ao,e]
 have gr:∀es' DV,W.grownBy (W.putObj g (.map es' DV)) (J g):=λ_ _=>İ _ _ _;rcases FL.find W hl es.toList (λe he=>(sS e he).key) with⟨hf,_⟩ | ⟨j,e,hf,hj,Oh⟩
 ·refine⟨W.putObj g (.map (es.push {key:=kv bd fr ln be,val:=.bool (qN b bd fr ln be),born:=clock}) (clock+1)),?_,?_,gr _ _⟩
  ·unfold ś;simp[Sem.run_bind,hgo,ż,hc,hf,go_sem,I0]
  ·refine⟨_,_,ŏ ao,λe he=>?_⟩;simp at he;rcases he with he|rfl
   ·exact sS e (by simpa using he)
   ·exact⟨bd,fr,ln,be,hk,rfl,rfl⟩
 ·have eW:=FL.stays W hl;refine⟨W.putObj g (.map (es.modify j λe=> {e with key:=kv bd fr ln be,val:=.bool (qN b bd fr ln be)}) clock),?_,?_,gr _ _⟩
  ·unfold ś;have rQ:es[j]?=J e:=(by simpa using hj);simp[Sem.run_bind,hgo,ż,hc,hf,go_sem,rQ,Oh,eW,I0]
  ·refine⟨_,_,ŏ ao,λe' he'=>?_⟩;obtain⟨i,hi⟩:=List.getElem?_of_mem he';rw[į,Array.getElem?_modify] at hi;split at hi
   ·cases h:es[i]? with
    |none=>rw[h] at hi;cases hi
    |some e0=>rw[h] at hi;cases hi;exact⟨bd,fr,ln,be,hk,rfl,rfl⟩
   ·exact sS e' (by rw[<-į] at hi;exact ϡ hi)
def ZF{o:Oper}{a:Act}{Q:Exit->Act->N->Prop}(hg:o.guard=H)(m x:Operand)(t:TypeId)(ag:o.op=Op.lookup t m x D)(r:z)
 (bh:(Ś t (a.eval m) (a.eval x) D).run P w=.ok r w)(hK:wpList P ops Q rest (a.put o.dst r) w):wpList P ops Q (o::rest) a w:=by
 refine wpList_plain hg λK' Eg=>?_;unfold Oper.wp;simp[execOp,ag,bh,ż];exact Eg _ _ hK
def aqX{o:Oper}{a:Act}{Q:Exit->Act->N->Prop}(hg:o.guard=H)(m x v:Operand)(t:TypeId)(ag:o.op=Op.mapUpdate t m x v)
 (bh:(ś t (a.eval m) (a.eval x) (a.eval v)).run P w=.ok () w')(hK:wpList P ops Q rest (a.put o.dst L) w'):wpList P ops Q (o::rest) a w:=by
 refine wpList_plain hg λK' Eg=>?_;unfold Oper.wp;simp[execOp,ag,bh,ż];exact Eg _ _ hK
def dS.grown{row:Option Nat}(h:dS W g b)(hg:W.grownBy W' row)(T:row≠J g):dS W' g b:=by have hl:=h.lt;obtain⟨es,clock,h1,h2⟩:=h;exact⟨es,clock,(hg.block g hl (λe=>T e.symm)).trans h1,h2⟩
def dS.below(h:dS W g b)(hb:Γ B W W')(hg:g<B):dS W' g b:=by obtain⟨es,clock,h1,h2⟩:=h;exact⟨es,clock,(hb.block g hg).trans h1,h2⟩
def jQ(h:Γ B w w')(hB:w.heap.size<=B)(row:Option Nat):w.grownBy w' row:=⟨h.os,h.tape,h.output,h.size,λk hk _=>h.block k (by omega)⟩
def Zl{row:Option Nat}(h:w.drew.grownBy w' row):w.grownBy w' row:=⟨h.os,h.tape,h.output,h.size,h.block⟩
def can{p:Piece}{x:bN}(ah:aQ w B b pv bv tv)(hB:B<=w.heap.size)(nQ:∃A n c,sv=E A n c)(hm:dS w g b)(hgB:B<=g)
 (hp:b.pieces[i]?=J p)(hx:b.aC[k]?=J x)(hf:0<=from_/\from_<=1000)(hl:0<=length/\length<=1000)(NG:0<=p.bears/\p.bears<=2)(jx:k<=3):
 ύ prog 176 #[η #[Y I b.ab,pv,bv,tv,sv,.map (J g)],Y I i,Y I length,η #[Y I k,Y I from_]] w λe w'=>e=Ω (.bool (qN b k from_ length p.bears))/\w.grownBy w' (J g)/\dS w' g b:=by
 obtain⟨A4,n4,c4,rfl⟩:=nQ;have bD:=K ah;have Vu:Bm k from_ length p.bears:=⟨by unfold mC;omega,by unfold mC;omega,by unfold mC;omega,by unfold mC;omega⟩
 have RQ:=K Vu;have HM:=K hm;obtain⟨A1,n1,c1,rfl,e1,h1,du,r1⟩:=ah.pieces.Φ;obtain⟨A2,n2,c2,rfl,e2,h2,ei,r2⟩:=ah.aC.Φ;obtain⟨A3,n3,c3,rfl,-⟩:=ah.aI.Φ;unfold ϕ at du ei;have hi:i<n1:=by have:=(Ϫ.1 hp).1;omega
 obtain⟨er,p',wT,rfl,K5,E0,⟨rfl,VZ⟩,-,fU⟩:=r1 i hi;obtain rfl:p'=p:=by rw[E0] at hp;exact ϟ hp
 have st:=Δ.refl (B:=B) w;have g3: w.cell? ⟨(er.add (i * 4)).block,(er.add (i * 4)).off+3,H⟩=J (Y I p'.bears):=bj fU st K5 2 rfl;have s0:(er.add (i * 4)).block<w.heap.size:=by rw[b9];omega
 have s1:(er.add (i * 4)).block<=w.heap.size:=by omega
 have s2:(er.add (i * 4)).block<=w.heap.size+1:=by omega
 have kA:=hm.lt;have aG:=λ(W:N) (eW:Δ B w W) (V:B<=W.heap.size)=>Xi (w:=W) (bD.e.still eW) V hp hx hf hl
 have eP:qN b k from_ length p'.bears=pO x p'.bears length ⟨k,from_⟩:=by unfold qN;simp[hx]
 have HC:=K aG;have uK:=K eP;clear ah e1 e2 r1 r2 hp hx E0 fU st Vu hm aG eP VZ;have gB:((w.alloc (Ϧ #[Y I b.ab,E (J er) n1 c1,E A2 n2 c2,E A3 n3 c3,E A4 n4 c4,.map (J g)] 151)).alloc (Ϧ #[Y I k,Y I from_] 56)).cell? ⟨(er.add (i * 4)).block,(er.add (i * 4)).off+3,H⟩=J (Y I p'.bears):=
  (ð _ _ _ (by simp;omega)).trans ((ð _ _ _ (by simp;omega)).trans g3)
 have gA:(((w.alloc (Ϧ #[Y I b.ab,E (J er) n1 c1,E A2 n2 c2,E A3 n3 c3,E A4 n4 c4,.map (J g)] 151)).alloc (Ϧ #[Y I k,Y I from_] 56)).alloc (Ϧ #[Y I 0,Y I 0,Y I 0,Y I 0] 225)).cell? ⟨(er.add (i * 4)).block,(er.add (i * 4)).off+3,H⟩=J (Y I p'.bears):=
  (ð _ _ _ (by simp;omega)).trans gB
 go_enter func176,Tryz.ntmps176;go_wp2;go_region;clear gA gB;obtain⟨W4,P4⟩:∃W4,W4=(((w.alloc (Ϧ #[Y I b.ab,E (J er) n1 c1,E A2 n2 c2,E A3 n3 c3,E A4 n4 c4,.map (J g)] 151)).alloc (Ϧ #[Y I k,Y I from_] 56)).alloc (Ϧ #[Y I k,Y I from_,Y I length,Y I p'.bears] 225)).drew:=⟨_,rfl⟩
 rw[<-P4];have b4:Bk W4 w.heap.size 151 #[Y I b.ab,E (J er) n1 c1,E A2 n2 c2,E A3 n3 c3,E A4 n4 c4,.map (J g)]:=by rw[P4];exact((Bk.new w _ _).alloc _).alloc _
 have Hd:Bk W4 (w.heap.size+1) 56 #[Y I k,Y I from_]:=by rw[P4];exact(Bk.bZ (by simp) _ _).alloc _
 have k4:Bk W4 (w.heap.size+1+1) 225 #[Y I k,Y I from_,Y I length,Y I p'.bears]:=by rw[P4];exact Bk.bZ (by simp) _ _
 have B4:φ w W4:=by rw[P4];exact dT ((((ό _ _).alloc (ϊ _) _).alloc (by simp) _).alloc (by simp;omega) _)
 have jK:=K (Ϗ b4 (Ϗ Hd (Ϗ k4 B4)));have Lv:=K (HM.e.below B4 kA);have sc:w.heap.size+1+1<W4.heap.size:=k4.lt;have m0:=b4.cell 0;have m1:=b4.cell 1;have m2:=b4.cell 2;have m3:=b4.cell 3;have m5: W4.cell? ⟨w.heap.size,5,H⟩=J (.map (J g)):=b4.cell 5;have Mw:=Hd.cell 0;have Mx:=Hd.cell 1;have q0: W4.cell? ⟨w.heap.size+1+1,0,H⟩=J (Y I k):=k4.cell 0;have q1: W4.cell? ⟨w.heap.size+1+1,1,H⟩=J (Y I from_):=k4.cell 1;have q2: W4.cell? ⟨w.heap.size+1+1,2,H⟩=J (Y I length):=k4.cell 2;have q3: W4.cell? ⟨w.heap.size+1+1,3,H⟩=J (Y I p'.bears):=k4.cell 3;obtain⟨v,ok,VK,cD⟩:=akA Lv.e RQ.e;have RV:=K VK;have aG:=K (HC.e W4 (Δ.aJ B4 hB) (by have:=B4.size;omega))
 clear P4 b4 Hd k4 B4 VK;cases ok with
 |true=>
  obtain rfl:=cD rfl;clear cD;go_wp2_with (first
   | (at_lookup;refine ZF rfl (.tmp 29) (.tmp 30) 149 rfl _ RV.e ?_))
  go_ret;exact⟨bU rfl,jQ jK.e.2.2.2 (ϊ _) _,Lv.e⟩
 |false=>
  clear cD;go_wp2_with (first
   | (at_lookup;refine ZF rfl (.tmp 29) (.tmp 30) 149 rfl _ RV.e ?_)
   | (go_at_call 165;refine aG.e.mono ?_;rintro e w1 ⟨rfl,ai⟩
      have m5: w1.cell? ⟨w.heap.size,5,H⟩=J (.map (J g)):=(jK.e.1.below ai (by omega)).cell 5;have q0: w1.cell? ⟨w.heap.size+1+1,0,H⟩=J (Y I k):=(jK.e.2.2.1.below ai (by omega)).cell 0;have q1: w1.cell? ⟨w.heap.size+1+1,1,H⟩=J (Y I from_):=(jK.e.2.2.1.below ai (by omega)).cell 1;have q2: w1.cell? ⟨w.heap.size+1+1,2,H⟩=J (Y I length):=(jK.e.2.2.1.below ai (by omega)).cell 2;have q3: w1.cell? ⟨w.heap.size+1+1,3,H⟩=J (Y I p'.bears):=(jK.e.2.2.1.below ai (by omega)).cell 3;obtain⟨w2,O2,eD,oK⟩:=aqo (Lv.e.below ai (by omega)) RQ.e;rw[uK.e] at O2;have ZQ:=K O2;have HE:=K (Ϗ eD oK);have fS:=K (chain jK.e.2.2.2 ai (by omega))
      clear ai O2 eD oK)
   | (at_mapUpdate;refine aqX rfl (.tmp 44) (.tmp 45) (.tmp 46) 149 rfl ZQ.e ?_))
  go_ret;exact⟨bU (by rw[uK.e]),(jQ fS.e (ϊ _) _).trans HE.e.2,HE.e.1⟩
def kF(b:eR)(k:Nat):Nat:=match b.aC[k]? with
 |some x=>x.aL.toNat
 |none=>0
def nX(b:eR)(n:al)(cs:List Cut)(c:Cut):Bool:=pN b cs.length (n.at cs.length) c && (ϣ cs.length).all (sg b n cs cs.length c)
def jY(b:eR)(n:al)(S:List Cut->Option (List Cut))(cs:List Cut)(k fr:Nat):Option (List Cut):=if nX b n cs ⟨k,fr⟩ then S (cs++ [⟨k,fr⟩]) else H
def jM(b:eR)(n:al)(out:Nat->Bool)(S:List Cut->Option (List Cut))(cs:List Cut)(k:Nat):Option (List Cut):=
 if out k then H else(ϣ (kF b k)).findSome? (jY b n S cs k)
def search(b:eR)(n:al)(out:Nat->Bool):Nat->List Cut->Option (List Cut)
 |0,cs=>J cs
 |f+1,cs=>(ϣ b.aC.length).findSome? (jM b n out (search b n out f) cs)
def zq{F:Nat->Option α}:(ϣ n).findSome? F=H↔∀i,i<n->F i=H:=by simp
def Ur{F:Nat->Option α}{x:α}(hk:k<n)(h0:∀i,i<k->F i=H)(h:F k=J x):(ϣ n).findSome? F=J x:=by
 have e:ϣ n=ϣ k++k::(ϣ n).drop (k+1):=by
  have h1:(ϣ n).take k=ϣ k:=by rw[List.take_range,Aim (by omega)]
  have h2:=Ahv k (ϣ n);rw[h1,List.drop_eq_getElem_cons (by simpa using hk)] at h2;rw[List.getElem_range] at h2;exact h2.symm
 rw[e,List.findSome?_append,zq.2 h0,List.findSome?_cons,h];rfl
def Cut.vs(c:Cut):List z:=[Y I c.bt,Y I c.from_]
structure cY where
 w:N
 b:eR
 pv:z
 bv:z
 tv:z
 sv:z
 n:al
 gs:Nat
 go:Nat
 gn:Nat
 gm:Nat
 KO:Nat
 kE:Array z
 e:Nat->Bool
 l:Nat
def cY.s(X:cY):Nat:=X.w.heap.size
def cY.np(X:cY):Nat:=X.b.pieces.length
def cY.args(X:cY):Array z:=#[π (J ⟨X.s+2,0,H⟩),π (J ⟨X.gs,0,H⟩),π (J ⟨X.s,0,H⟩),π (J ⟨X.go,0,H⟩),π (J ⟨X.gn,0,H⟩),π (J ⟨X.s+3,0,H⟩)]
structure cY.Ok(X:cY)(B:Nat):Prop where
 book:aQ X.w B X.b X.pv X.bv X.tv
 valid:Valid X.b
 lens:X.n.Ok
 sv:∃A n c,X.sv=E A n c
 B:B<=X.gm
 s:X.gs<X.s
 o:X.go<X.s
 gn:X.gn<X.s
 gm:X.gm<X.s
 ns:X.gs≠X.gm
 no:X.go≠X.gm
 nn:X.gn≠X.gm
 cs:Bk X.w X.gs 151 #[Y I X.b.ab,X.pv,X.bv,X.tv,X.sv,.map (J X.gm)]
 co:Bk X.w X.go 158 #[fv X.KO X.kE]
 cn:Bk X.w X.gn 128 X.n.cs
 eg:∀args w,(callFunc X.KO args).run prog w=.ok (.enter X.KO args) w
 e:∀(k:Nat) (W:N),k<X.b.aC.length->X.w.grownBy W (J X.gm)->ύ prog X.KO (#[Y I k]++X.kE) W λe W'=>e=Ω (.bool (X.e k))/\φ W W'
structure DI(X:cY)(cs:List Cut)(W:N):Prop where
 y:Bk W X.s 139 #[.func (.yield X.l) #[] #[]]
 arr:W.ownsRow (X.s+1) 56 2 (E (J ⟨X.s+1,0,H⟩) cs.length X.np) cs.length (cs.flatMap Cut.vs)
 lv:Bk W (X.s+2) 27 #[E (J ⟨X.s+1,0,H⟩) cs.length X.np]
 nx:Bk W (X.s+3) 29 #[.func (.func 175) #[] X.args]
 gr:X.w.grownBy W (J X.gm)
 known:dS W X.gm X.b
def Bk.grown{t:TypeId}{row:Option Nat}(h:Bk W g t cs)(hg:W.grownBy W' row)(T:J g≠row):Bk W' g t cs:=(hg.block g h.lt T).trans h
def amW{base:Nat}{sz:Nat}{row:Option Nat}(h:w.ownsRow base e sz v n xs)(hg:w.grownBy w' row)(T:∀k,row=J k->k<base):w'.ownsRow base e sz v n xs:=by
 refine⟨h.1,?_⟩;rcases h.2 with h0| ⟨g,cap,cur,h1,h2,h3,h4⟩
 ·exact .inl h0
 ·exact .inr ⟨g,cap,cur,h1,h2,(hg.block g (Ϝ.1 h3).1 (λe=>by have:=T g e.symm;omega)).trans h3,h4⟩
def DI.grown{X:cY}{B:Nat}{cs:List Cut}{W W':N}(ok:X.Ok B)(h:DI X cs W)(hg:W.grownBy W' (J X.gm))(hk:dS W' X.gm X.b):DI X cs W':=by have:=ok.gm;exact⟨h.y.grown hg (by simp;omega),amW h.arr hg (λk e=>by cases e;omega),h.lv.grown hg (by simp;omega),h.nx.grown hg (by simp;omega),h.gr.trans hg,hk⟩
def DI.below{X:cY}{B:Nat}{cs:List Cut}{W W':N}(ok:X.Ok B)(h:DI X cs W)(hb:φ W W'):DI X cs W':=
 h.grown ok (jQ hb (ϊ _) _) (h.known.below hb h.known.lt)
def Gj(h:w.grownBy W (J g))(hg:B<=g)(hB:B<=w.heap.size):Δ B w W:=λp hp=>World.cell?_of_block (h.block p.block (by omega) (by simp;omega))
def amX{base:Nat}{sz:Nat}(h:w.ownsRow base e sz (E (J ⟨g,0,H⟩) n cap) n xs){m:Nat}(hm:m<=n):w.ownsRow base e sz (E (J ⟨g,0,H⟩) m cap) m (xs.take (m * sz)):=by
 have IM:m * sz<=n * sz:=ž _ hm;refine⟨by rw[List.length_take,h.1];omega,?_⟩;rcases h.2 with⟨h0,_⟩ | ⟨g',ze,cur,h1,h2,h3,h4,h5,h6,h7⟩
 ·cases h0
 ·cases h1;exact .inr ⟨g,cap,cur,rfl,h2,h3,by omega,h5,h6,by rw[<-h7,List.take_take,Aim IM]⟩
def afW(l:List Cut)(c:Cut):((l++ [c]).flatMap Cut.vs).take (l.length * 2)=l.flatMap Cut.vs:=by
 have hl:∀l:List Cut,(l.flatMap Cut.vs).length=l.length * 2:=by
  intro l;induction l with
  |nil=>rfl|cons a l ih=>rw[č,Þ,ih];simp[Cut.vs];omega
 rw[Ĥ,<-hl l,List.take_left]
def zu{row:Option Nat}(h:w.grownBy W row)(hp:w.heap.size<=p.block):w.grownBy (W.setCell p u) row:=
 ⟨h.os,h.tape,h.output,by simp[ü];exact h.size,λk hk aw=>(å _ _ _ _ (by omega)).trans (h.block k hk aw)⟩
def zt{row X9:Option Nat}(h:w.grownBy W row)(k:W.grownBy W' X9)(T:∀g,X9=J g->w.heap.size<=g):w.grownBy W' row:=
 ⟨k.os.trans h.os,k.tape.trans h.tape,k.output.trans h.output,Ϥ h.size k.size,λi hi aw=>(k.block i (Nat.lt_of_lt_of_le hi h.size) (λe=>by have:=T i e.symm;omega)).trans (h.block i hi aw)⟩
def DI.back{X:cY}{cs:List Cut}{c:Cut}(ok:X.Ok B)(h:DI X (cs++ [c]) W):DI X cs (W.setCell ⟨X.s+2,0,H⟩ (E (J ⟨X.s+1,0,H⟩) cs.length X.np)):=by
 have Ce:=ok.gm;have hx:=h.nx.lt;have V:X.w.heap.size=X.s:=rfl;have ha:W.ownsRow (X.s+1) 56 2 (E (J ⟨X.s+1,0,H⟩) cs.length X.np) cs.length (cs.flatMap Cut.vs):=by have:=amX (m:=cs.length) (by have:=h.arr;rwa[Þ,ź] at this) (by omega);rwa[afW] at this
 refine⟨h.y.dV (by simp) _,?_,h.lv.set 0 _,h.nx.dV (by simp) _,zu h.gr (by simp[cY.s]),?_⟩
 ·refine⟨ha.1,?_⟩;rcases ha.2 with⟨h0,_⟩ | ⟨g,cap,cur,h1,h2,h3,h4⟩
  ·cases h0
  ·cases h1;exact .inr ⟨_,_,cur,rfl,h2,(å _ _ _ _ (by simp)).trans h3,h4⟩
 ·obtain⟨es,clock,h1,h2⟩:=h.known;exact⟨es,clock,(å _ _ _ _ (by simp;omega)).trans h1,h2⟩
def DI.push{X:cY}{cs:List Cut}{c:Cut}{W1:N}(ok:X.Ok B)(h:DI X cs W)
 (aH:W1.ownsRow (X.s+1) 56 2 (E (J ⟨X.s+1,0,H⟩) (cs.length+1) X.np) (cs.length+1) (cs.flatMap Cut.vs++c.vs))(hg:(W.alloc o).grownBy W1 (J (X.s+1))):
 DI X (cs++ [c]) (W1.setCell ⟨X.s+2,0,H⟩ (E (J ⟨X.s+1,0,H⟩) (cs.length+1) X.np)):=by
 have Ce:=ok.gm;have hx:=h.nx.lt;have hl:(cs++ [c]).length=cs.length+1:=by simp
 have fD:W.grownBy W1 (J (X.s+1)):=(Â W o _).trans hg;have hz:=fD.size;refine⟨(h.y.grown fD (by simp)).dV (by simp) _,?_,?_,(h.nx.grown fD (by simp)).dV (by simp) _,zu (zt h.gr fD (λg e=>by cases e;simp[cY.s])) (by simp[cY.s]),?_⟩
 ·rw[hl,Ĥ,Ah0];refine⟨aH.1,?_⟩;rcases aH.2 with⟨h0,_⟩ | ⟨g,cap,cur,h1,h2,h3,h4⟩
  ·cases h0
  ·cases h1;exact .inr ⟨_,_,cur,rfl,h2,(å _ _ _ _ (by simp)).trans h3,h4⟩
 ·rw[hl];exact(h.lv.grown fD (by simp)).set 0 _
 ·obtain⟨es,clock,h1,h2⟩:=h.known.grown fD (by simp;omega);exact⟨es,clock,(å _ _ _ _ (by simp;omega)).trans h1,h2⟩
end Go.Tw
namespace Go.Tw
variable [Go.Tw.aK]
open Go Go.Proofs Go.RowKit
attribute [local go_sem] AZ AY Aha
structure Bq(X:cY)(ρ:List Cut->N->Prop):Prop where
 lv:∀full W,ρ full W->∃i,Bk W (X.s+2) 27 #[E (J ⟨X.s+1,0,H⟩) i X.np]
 set:∀full W i,ρ full W->ρ full (W.setCell ⟨X.s+2,0,H⟩ (E (J ⟨X.s+1,0,H⟩) i X.np))
 yield:∀(m:Nat) (full:List Cut) (W:N),full.length=X.np->DI X full W->YieldAt Ċ m prog X.l #[E (J ⟨X.s+1,0,H⟩) X.np X.np] W λe W'=>e=Ω (.bool U)/\ρ full W'
def GY(X:cY)(ρ:List Cut->N->Prop)(cs:List Cut)(r:Option (List Cut))(e:Ŏ)(W':N):Prop:=
 (∃full,r=J full/\e=Ω (.bool U)/\ρ full W')\/(r=H/\e=Ω (.bool D)/\DI X cs W')
def aoJ{X:cY}(ok:X.Ok B){ρ:List Cut->N->Prop}(hZ:Bq X ρ){cs:List Cut}(hc:cs.length=X.np)(h:DI X cs W):
 ύ prog 175 X.args W (GY X ρ cs (J cs)):=by
 refine(callsIn_wide (n:=0)).1 ?_;have HZ:=K hZ;have HI:=K h;have HC:=K hc;obtain⟨n,hn⟩:∃n,n=X.np:=⟨_,rfl⟩
 have asv:n<=9223372036854775807:=by have:=ok.valid.np.2;rw[hn];unfold cY.np;omega
 obtain⟨A1,n1,c1,qG,e1,h1,du,-⟩:=ok.book.pieces.Φ;have ks:Bk W X.gs 151 #[Y I X.b.ab,E A1 n1 c1,X.bv,X.tv,X.sv,.map (J X.gm)]:=by have:=ok.cs.grown h.gr (by simpa using ok.ns);rwa[qG] at this
 have e1':n1=n:=by rw[hn];unfold cY.np;omega
 have s1: W.cell? ⟨X.gs,1,H⟩=J (E A1 n1 c1):=ks.cell 1;have v0: W.cell? ⟨X.s+2,0,H⟩=J (E (J ⟨X.s+1,0,H⟩) n n):=by rw[hn];have:=h.lv.cell 0;rw[hc] at this;exact this
 have y0: W.cell? ⟨X.s,0,H⟩=J (.func (.yield X.l) #[] #[]):=h.y.cell 0;obtain⟨f1,t1,a1,b1,kC,pD⟩:=hZ.yield (0 - 1) cs W hc h;rw[<-hn] at kC;have Es:=K pD;subst e1';clear hZ h hc hn ks qG e1 pD;unfold cY.args;refine Ag1 func175 rfl trivial ?_
 simp only[Tryz.ntmps175,ũ,Ė,Ū,Ŕ,Ŭ,Ŧ,ŧ,ū,ő,ù,Œ]
 gi_wp2
 refine Es.e.mono ?_;rintro e W' ⟨rfl,hz⟩
 gi_wp2
 go_ret;exact .inl ⟨cs,rfl,bU rfl,hz⟩
end Go.Tw
namespace Go.Tw
variable [Go.Tw.aK]
open Go Go.Proofs Go.RowKit
def kP(g n:Nat):(⟨g,0,H⟩:Addr).add n=⟨g,n,H⟩:=by
 unfold Č;split
 ·rename_i h;rw[h]
 ·simp
def rH(w:N)(o:Obj)(row:Option Nat):w.grownBy (w.alloc o).drew row:=let h:=Â w o row;⟨h.os,h.tape,h.output,h.size,h.block⟩
def ajm:∃i0,prog.info? 56=J i0/\i0.size=2:=by
 have h:(prog.info? 56).map (λi=>i.size)=J 2:=by rw[qS];kernel_rfl
 cases e: prog.info? 56 with
 |none=>rw[e] at h;cases h
 |some i=>rw[e] at h;exact⟨i,rfl,by simpa using h⟩
def afY{X:cY}{cs:List Cut}{fr:Nat}{full:List Cut}(hk:k<X.b.aC.length)(h0:∀j,j<k->jM X.b X.n X.e (search X.b X.n X.e f) cs j=H)(ho:X.e k=U)
 (hf:fr<kF X.b k)(h1:∀j,j<fr->jY X.b X.n (search X.b X.n X.e f) cs k j=H)(h2:jY X.b X.n (search X.b X.n X.e f) cs k fr=J full):search X.b X.n X.e (f+1) cs=J full:=by
 unfold search;refine Ur hk h0 ?_;unfold jM;rw[ho];exact Ur hf h1 h2
def aoK{X:cY}(ok:X.Ok B)(hB:B<=X.s){ρ:List Cut->N->Prop}(hZ:Bq X ρ)
 (ih:∀(cs:List Cut) (W:N),cs.length+f=X.np->(∀c∈cs,q9 X.b c)->DI X cs W->ύ prog 175 X.args W (GY X ρ cs (search X.b X.n X.e f cs)))
 {cs:List Cut}(hc:cs.length+(f+1)=X.np)(fh:∀c∈cs,q9 X.b c)(h:DI X cs W):
 ύ prog 175 X.args W (GY X ρ cs (search X.b X.n X.e (f+1) cs)):=by
 obtain⟨i,hi⟩:∃i,i=cs.length:=⟨_,rfl⟩
 obtain⟨i56,Vl,Vm⟩:=ajm;have GL:=K (Ϗ Vl Vm);clear Vl Vm;obtain⟨A1,n1,c1,qG,e1,h1,du,-⟩:=ok.book.pieces.Φ;obtain⟨A2,nb,c2,Ex,e2,h2,ei,kY⟩:=ok.book.aC.Φ;obtain⟨A3,n3,c3,OZ,-⟩:=ok.book.aI.Φ;obtain⟨A4,n4,c4,nQ⟩:=ok.sv;have dc:i<n1:=by unfold cY.np at hc;omega
 have iW:n1<=3:=by have:=ok.valid.np.2;omega
 have VV:nb<=3:=by have:=ok.valid.nb;omega
 have rU:((i:Int)==(n1:Int))=U:=by simp;omega
 unfold ϕ at du ei;have nV:X.np=n1:=by unfold cY.np;exact e1
 have ks:Bk W X.gs 151 #[Y I X.b.ab,E A1 n1 c1,E A2 nb c2,E A3 n3 c3,E A4 n4 c4,.map (J X.gm)]:=by have:=ok.cs.grown h.gr (by simpa using ok.ns);rwa[qG,Ex,OZ,nQ] at this
 have s1: W.cell? ⟨X.gs,1,H⟩=J (E A1 n1 c1):=ks.cell 1;have s2: W.cell? ⟨X.gs,2,H⟩=J (E A2 nb c2):=ks.cell 2;have v0: W.cell? ⟨X.s+2,0,H⟩=J (E (J ⟨X.s+1,0,H⟩) i n1):=by rw[hi,<-nV];exact h.lv.cell 0
 have HI:=K h;have OK:=K ok;have kN:=K (Ϗ hi (Ϗ hc fh));have my:=K (Ϗ qG (Ϗ Ex (Ϗ OZ (Ϗ nQ (Ϗ e1 e2)))));have ZK:=K kY;have IH:=K ih;have HZ:=K hZ;have NP:=K nV;clear ks h ok hi hc fh qG Ex OZ nQ e1 e2 kY ih hZ nV;have zJ:X.args=#[π (J ⟨X.s+2,0,H⟩),π (J ⟨X.gs,0,H⟩),π (J ⟨X.s,0,H⟩),π (J ⟨X.go,0,H⟩),π (J ⟨X.gn,0,H⟩),π (J ⟨X.s+3,0,H⟩)]:=rfl;rw[zJ];have GJ:=K zJ;clear zJ;go_enter func175,Tryz.ntmps175;go_wp2;go_loopw [34] (λu wr=>∃k:Nat,k<=nb/\u=Y I k/\(Hid (∀j,j<k->jM X.b X.n X.e (search X.b X.n X.e f) cs j=H))/\Hid (DI X cs wr)) (λu _=>nb - (ϑ u).toNat)
 case atStart=>exact⟨0,ϛ _,rfl,K (λj hj=>by omega),HI⟩
 case round=>
  obtain⟨wo,rfl⟩:∃wo:N,wo=wr:=⟨_,rfl⟩
  obtain⟨k,hk,rfl,br,hD⟩:=hrel;by_cases ao:k<nb
  ·obtain⟨ad,x,ju,lZ,aE,hx,⟨kvv,rfl,dD,cP⟩,-,aq⟩:=ZK.e k ao;subst lZ;obtain⟨A5,n5,c5,rfl,-⟩:=cP.Φ;have st:Δ B X.w wo:=Gj hD.e.gr OK.e.B hB;have g0:=cA aq st aE rfl;have g1:=bj aq st aE 0 rfl;have g2:=bj aq st aE 1 rfl;have hzw:X.s+3<wo.heap.size:=hD.e.nx.lt;have rK:(ad.add (k * 3)).block<wo.heap.size:=by rw[b9];omega
   have HX:=K hx;have ko:Bk wo X.go 158 #[fv X.KO X.kE]:=OK.e.co.grown hD.e.gr (by simpa using OK.e.no)
   have hgo:=OK.e.o;have o0:(wo.alloc (Ξ #[.string x.name,Y I x.aL,E A5 n5 c5] 59)).cell? ⟨X.go,0,H⟩=J (.func (.func X.KO) #[] X.kE):=(ko.alloc _).cell 0;have a1:X.go<wo.heap.size:=by omega
   have a2:X.go<=wo.heap.size:=(by omega);have eg:=OK.e.eg;have Ry:=K (OK.e.e k (wo.alloc (Ξ #[.string x.name,Y I x.aL,E A5 n5 c5] 59)) (by have:=my.e.2.2.2.2.2;omega) (hD.e.gr.trans (Â _ _ _)))
   have Cx:1<=x.aL/\x.aL<=40:=(OK.e.valid.bt x (ϡ hx)).aL;clear hx aq st ko dD cP;go_wp2
   go_step3
   go_wp2;refine Ry.e.mono ?_;rintro e w1 ⟨rfl,ai⟩;have UJ:=K (hD.e.grown OK.e (Â wo (Ξ #[.string x.name,Y I x.aL,E A5 n5 c5] 59) _) (hD.e.known.grown (Â wo (Ξ #[.string x.name,Y I x.aL,E A5 n5 c5] 59) H) (by simp)))
   have UK:=K (UJ.e.below OK.e ai);have kx:Hid (Bk w1 wo.heap.size 59 #[.string x.name,Y I x.aL,E A5 n5 c5]):=K ((Bk.new wo _ _).below ai (by simp))
   have x1: w1.cell? ⟨wo.heap.size,1,H⟩=J (Y I x.aL):=kx.e.cell 1;clear ai;cases ho:X.e k with
   |true=>
    go_wp2;rw[Exit.noGoto_exit];go_wp2;go_roundw;case rel=>exact⟨k+1,by omega,by go_num,K (λj hj=>by
     rcases Ϯ.1 hj with h|rfl
     ·exact br.e j h
     ·unfold jM;rw[ho];rfl),UK⟩
    case measure=>simp[ϑ];omega
   |false=>
    go_wp2
    go_step3
    go_wp2;have sY:kF X.b k=x.aL.toNat:=by unfold kF;rw[HX.e]
    have RU:=K sY;have hp:∃p,X.b.pieces[i]?=J p:=⟨_,Ñ (by have:=my.e.2.2.2.2.1;omega)⟩
    obtain⟨p,hp⟩:=hp;have oP:=OK.e.valid.piece p (ϡ hp);have HP:=K (Ϗ hp oP.bears);obtain⟨ln,sV⟩:∃ln,ln=X.n.at i:=⟨_,rfl⟩
    have VJ:0<=ln/\ln<=1000:=(by rw[sV];exact OK.e.lens i);have ox:=K sV;have fM:i<3:=by omega
    have Vk:(i:Int)<3:=(by omega);have hgs:=OK.e.s;have xz:=OK.e.gn;clear sY hp oP sV hD UJ Ry o0 x1 g0 g1 g2 s1 s2 v0;go_loopw [44] (λu W2=>∃fr:Nat,(fr:Int)<=x.aL/\u=Y I fr/\(Hid (∀j,j<fr->jY X.b X.n (search X.b X.n X.e f) cs k j=H))/\Hid (DI X cs W2)) (λu _=>(x.aL - ϑ u).toNat)
    case atStart=>exact⟨0,by omega,rfl,K (λj hj=>by omega),UK⟩
    case round=>
     obtain⟨fr,cq,rfl,EV,hE⟩:=hrel;obtain⟨wp,rfl⟩:∃wp:N,wp=wr:=⟨_,rfl⟩
     by_cases hf:(fr:Int)<x.aL
     ·have WD:X.s+3<wp.heap.size:=hE.e.nx.lt;have ks:Bk wp X.gs 151 #[Y I X.b.ab,E A1 n1 c1,E (J ad) nb c2,E A3 n3 c3,E A4 n4 c4,.map (J X.gm)]:=by
          have:=OK.e.cs.grown hE.e.gr (by simpa using OK.e.ns);rwa[my.e.1,my.e.2.1,my.e.2.2.1,my.e.2.2.2.1] at this
      have k0:=ks.cell 0;have k1:=ks.cell 1;have k2:=ks.cell 2;have k3:=ks.cell 3;have k4:=ks.cell 4;have k5:=ks.cell 5;have gi: wp.cell? ⟨X.gn,i,H⟩=J (Y I ln):=by have:=(OK.e.cn.grown hE.e.gr (by simpa using OK.e.nn)).cell i;rw[al.wU fM,<-ox.e] at this;exact this
      have b1:X.gs<wp.heap.size:=(by omega);have b2:X.gs<=wp.heap.size:=(by omega);have b3:X.gn<wp.heap.size:=(by omega);have b4:X.gn<=wp.heap.size:=(by omega);have xt:(fr:Int)<=1000:=(by omega);have ie:0<=(fr:Int):=(by omega);clear ks;go_wp2;refine tA 6 (by kernel_rfl) (by kernel_rfl) ?_;simp only[ñ,þ,õ,ö];repeat still_step
      refine wpStill_nil ?_;have bS:X.w.grownBy (wp.alloc (Ϧ #[Ϟ Ϛ ↑k,Ϟ Ϛ ↑fr] 56)).drew (J X.gm):=hE.e.gr.trans (rH wp _ _);have xG:dS (wp.alloc (Ϧ #[Ϟ Ϛ ↑k,Ϟ Ϛ ↑fr] 56)).drew X.gm X.b:=hE.e.known.grown (rH wp (Ϧ #[Ϟ Ϛ ↑k,Ϟ Ϛ ↑fr] 56) H) (by simp)
      have call:ύ prog 176 #[η #[Y I X.b.ab,E A1 n1 c1,E (J ad) nb c2,E A3 n3 c3,E A4 n4 c4,.map (J X.gm)],Y I i,Y I ln,η #[Y I k,Y I fr]] (wp.alloc (Ϧ #[Ϟ Ϛ ↑k,Ϟ Ϛ ↑fr] 56)).drew
           λe w'=>e=Ω (.bool (qN X.b k fr ln p.bears))/\(wp.alloc (Ϧ #[Ϟ Ϛ ↑k,Ϟ Ϛ ↑fr] 56)).drew.grownBy w' (J X.gm)/\dS w' X.gm X.b:=by
          have ah:=OK.e.book.still (Gj bS OK.e.B hB);rw[my.e.1,my.e.2.1,my.e.2.2.1] at ah;exact can (B:=B) ah (by have:=bS.size;have:X.w.heap.size=X.s:=rfl;omega) ⟨_,_,_,rfl⟩ xG OK.e.B HP.e.1 HX.e ⟨ie,xt⟩ VJ HP.e.2 (by omega)
      have aG:=K call;have VG:pN X.b i (X.n.at i) ⟨k,fr⟩=qN X.b k fr ln p.bears:=by unfold pN qN;rw[<-ox.e];simp[HP.e.1,HX.e]
      have RS:=K VG;have aO:Hid (wp.heap.size<(wp.alloc (Ϧ #[Ϟ Ϛ ↑k,Ϟ Ϛ ↑fr] 56)).drew.heap.size):=K (by simp)
      have Le:Hid (Bk (wp.alloc (Ϧ #[Ϟ Ϛ ↑k,Ϟ Ϛ ↑fr] 56)).drew wp.heap.size 56 #[Y I k,Y I fr]):=K (Bk.new wp _ _);clear call VG bS xG;cases Cg:qN X.b k fr ln p.bears with
      |false=>
       have NX:Hid (jY X.b X.n (search X.b X.n X.e f) cs k fr=H):=K (by unfold jY nX;rw[<-kN.e.1,RS.e,Cg];rfl);go_wp2_with (first
           | (go_at_call 176;refine aG.e.mono ?_;rintro e w1 ⟨rfl,fD,fj⟩
              have GK:=K (hE.e.grown OK.e ((Â wp _ _).trans (Zl fD)) fj);clear fD fj))
       go_roundw;case rel=>exact⟨fr+1,by omega,by go_num,K (λj hj=>by
           rcases Ϯ.1 hj with h|rfl
           ·exact EV.e j h
           ·exact NX.e),GK⟩
       case measure=>simp[ϑ];omega
      |true=>
       go_wp2_with (first
           | (go_at_call 176;refine aG.e.mono ?_;rintro e w3 ⟨rfl,fD,fj⟩
              have GK:=K (hE.e.grown OK.e ((Â wp _ _).trans (Zl fD)) fj);have Bg:=K (Le.e.grown fD (by have:=hE.e.known.lt;simp;omega))
              have v0: w3.cell? ⟨X.s+2,0,H⟩=J (E (J ⟨X.s+1,0,H⟩) i n1):=(by rw[kN.e.1,<-NP.e];exact GK.e.lv.cell 0);clear fD fj))
       have gw:wp.heap.size<w3.heap.size:=Bg.e.lt;clear k0 k1 k2 k3 k4 k5 gi;go_loopw [60] (λu wr=>∃j:Nat,j<=i/\u=Y I j/\(Hid (∀q,q<j->sg X.b X.n cs i ⟨k,fr⟩ q=D))/\Hid (DI X cs wr)/\Hid (Bk wr wp.heap.size 56 #[Y I k,Y I fr])) (λu _=>i - (ϑ u).toNat);case atStart=>exact⟨0,ϛ _,rfl,K (λj hj=>by omega),GK,Bg⟩
       case round=>
           obtain⟨j,hj,rfl,KG,hF,dg⟩:=hrel;have sd:X.s+3<wr.heap.size:=hF.e.nx.lt;have hzc:wp.heap.size<wr.heap.size:=dg.e.lt;have asW:wp.heap.size<=wr.heap.size:=by omega
           have b1:X.gs<wr.heap.size:=(by omega);have b2:X.gs<=wr.heap.size:=(by omega);have b3:X.gn<wr.heap.size:=(by omega);have b4:X.gn<=wr.heap.size:=(by omega);have Mw: wr.cell? ⟨wp.heap.size,0,H⟩=J (Y I k):=dg.e.cell 0;have Mx: wr.cell? ⟨wp.heap.size,1,H⟩=J (Y I fr):=dg.e.cell 1;by_cases qv:j<i
           ·have ks:Bk wr X.gs 151 #[Y I X.b.ab,E A1 n1 c1,E (J ad) nb c2,E A3 n3 c3,E A4 n4 c4,.map (J X.gm)]:=by
             have:=OK.e.cs.grown hF.e.gr (by simpa using OK.e.ns);rwa[my.e.1,my.e.2.1,my.e.2.2.1,my.e.2.2.2.1] at this
            have k0:=ks.cell 0;have k1:=ks.cell 1;have k2:=ks.cell 2;have k3:=ks.cell 3;have RF:j<3:=by omega
            have Vo:(j:Int)<3:=(by omega);have kn:=OK.e.cn.grown hF.e.gr (by simpa using OK.e.nn);have gi: wr.cell? ⟨X.gn,i,H⟩=J (Y I ln):=by have:=kn.cell i;rw[al.wU fM,<-ox.e] at this;exact this
            have gj: wr.cell? ⟨X.gn,j,H⟩=J (Y I (X.n.at j)):=(by have:=kn.cell j;rw[al.wU RF] at this;exact this);have dE:=mZ (R:=Cut.R) hF.e.arr (λ_=>rfl) (λ_ _=>rfl);obtain⟨A8,n8,c8,e8,hl8,-,-,Am⟩:=dE.Φ;cases e8;obtain⟨ad8,d,cs8,aeP,arW,hd,rfl,-,NU⟩:=Am j (by rw[<-kN.e.1];exact qv);cases aeP;obtain⟨nC,jv⟩:=d;have XO:=kN.e.2.2 _ (ϡ hd);have h0: wr.cell? ⟨X.s+1,j * 2,H⟩=J (Y I nC):=by have:=NU 0 _ rfl;rwa[kP] at this
            have h1: wr.cell? ⟨X.s+1,j * 2+1,H⟩=J (Y I jv):=(by have:=NU 1 _ rfl;rwa[kP] at this);have nI:0<=jv/\jv<=40:=XO.from_;have HD:=K hd;clear ks kn dE hl8 Am hd NU XO;have e1:X.s+1<wr.heap.size:=by omega
            go_wp2;refine tA 11 (by kernel_rfl) (by kernel_rfl) ?_;simp only[ñ,þ,õ,ö];repeat still_step
            refine wpStill_nil ?_;have US:sg X.b X.n cs i ⟨k,fr⟩ j=nA X.b.ab ⟨k,fr⟩ ⟨nC,jv⟩ ln (X.n.at j):=(by unfold sg;rw[HD.e,ox.e]);have Dt:=K US;have call:∀W:N,ύ prog 166 #[η #[Y I X.b.ab,E A1 n1 c1,E (J ad) nb c2,E A3 n3 c3],η #[Y I k,Y I fr],η #[Y I nC,Y I jv],Y I ln,Y I (X.n.at j)] W
             λe w'=>e=Ω (.bool (nA X.b.ab ⟨k,fr⟩ ⟨nC,jv⟩ ln (X.n.at j)))/\φ W w':=λW=>
             apart (c:=⟨k,fr⟩) (d:=⟨nC,jv⟩) ⟨OK.e.valid.ab.1,by have:=OK.e.valid.ab.2;omega⟩ VJ (OK.e.lens j) ⟨ie,xt⟩ ⟨nI.1,by have:=nI.2;show jv<=1000;omega⟩ ⟨_,_,_,rfl⟩ ⟨_,_,_,rfl⟩ ⟨_,_,_,rfl⟩
            have wh:=K call;clear US call;cases EP:nA X.b.ab ⟨k,fr⟩ ⟨nC,jv⟩ ln (X.n.at j) with
            |false=>
             have NX:Hid (jY X.b X.n (search X.b X.n X.e f) cs k fr=H):=K (by
              unfold jY;rw[if_neg];unfold nX;rw[<-kN.e.1,Mg qv (by rw[Dt.e,EP])];simp)
             go_wp2_with (first
              | (go_at_call 166;refine(wh.e _).mono ?_;rintro e w4 ⟨rfl,cU⟩
                 have Lj:=K ((hF.e.grown OK.e (rH wr _ _) (hF.e.known.grown (rH wr (Ξ #[Y I nC,Y I jv] 56) H) (by simp))).below OK.e cU);clear cU))
             go_roundw;case rel=>exact⟨fr+1,by omega,by go_num,K (λj hj=>by
              rcases Ϯ.1 hj with h|rfl
              ·exact EV.e j h
              ·exact NX.e),Lj⟩
             case measure=>simp[ϑ];omega
            |true=>
             go_wp2_with (first
              | (go_at_call 166;refine(wh.e _).mono ?_;rintro e w4 ⟨rfl,cU⟩
                 have Lj:=K ((hF.e.grown OK.e (rH wr _ _) (hF.e.known.grown (rH wr (Ξ #[Y I nC,Y I jv] 56) H) (by simp))).below OK.e cU);have HC4:=K ((dg.e.grown (rH wr (Ξ #[Y I nC,Y I jv] 56) H) (by simp)).below cU (by simp;omega));clear cU))
             go_roundw;case rel=>exact⟨j+1,by omega,by go_num,K (λq hq=>by
              rcases Ϯ.1 hq with h|rfl
              ·exact KG.e q h
              ·rw[Dt.e,EP]),Lj,HC4⟩
             case measure=>simp[ϑ];omega
           ·obtain rfl:j=i:=by omega
            have T4:Hid (nX X.b X.n cs ⟨k,fr⟩=D):=K (by
             unfold nX;rw[<-kN.e.1,RS.e,Cg,j7.2 KG.e];rfl)
            have v0: wr.cell? ⟨X.s+2,0,H⟩=J (E (J ⟨X.s+1,0,H⟩) j n1):=(by rw[kN.e.1,<-NP.e];exact hF.e.lv.cell 0);have e2:X.s+2<wr.heap.size:=(by omega);have TV:X.s+2<=wr.heap.size:=(by omega);have R7:Hid (wr.ownsRow (X.s+1) 56 2 (E (J ⟨X.s+1,0,H⟩) j n1) j (cs.flatMap Cut.vs)):=K (by rw[kN.e.1,<-NP.e];exact hF.e.arr);have acU:Hid (∀c∈cs++ [(⟨k,fr⟩:Cut)],q9 X.b c):=K (λc hc=>by
             rcases ĉ.1 hc with hc|hc
             ·exact kN.e.2.2 c hc
             ·simp at hc;subst hc;exact⟨⟨k,rfl,by have:=my.e.2.2.2.2.2;omega⟩,by show 0<=(fr:Int)/\(fr:Int)<=40;omega⟩)
            clear KG;cases V:search X.b X.n X.e f (cs++ [⟨k,fr⟩]) with
            |none=>
             have NX:Hid (jY X.b X.n (search X.b X.n X.e f) cs k fr=H):=K (by unfold jY;rw[T4.e,if_pos rfl,V]);go_wp2_with (first
              | (at_builtin
                 refine wpList_append_fits _ rfl (.tmp 79) (.tmp 81) 27 rfl (X.s+1) 56 i56 2 (χ Tryz.underlying27) GL.e.1 GL.e.2 (X.s+1) j n1 _ rfl (R7.e.alloc _) ⟨wr.heap.size,0,H⟩ 1 1 [Y I k,Y I fr] rfl rfl ?c1 ?c2 ?c3 ?_;case c1=>(intro q u hu;match q,hu with|0,hu=>(simp at hu;subst hu;simp[go_sem,Č]) |1,hu=>(simp at hu;subst hu;simp[go_sem,Č]))
                 case c2=>simp[Value.oneCell']
                 case c3=>omega
                 intro W1 b7 fD;have Lz:Hid (DI X (cs++ [⟨k,fr⟩]) (W1.setCell ⟨X.s+2,0,H⟩ (E (J ⟨X.s+1,0,H⟩) (j+1) n1))):=K (by
                  have:=DI.push (c:=⟨k,fr⟩) OK.e hF.e (by rw[<-kN.e.1,NP.e];exact b7) fD;rwa[<-kN.e.1,NP.e] at this)
                 have xu:=(Â wr (Ξ #[Y I k,Y I fr] 56) (J (X.s+1))).trans fD;have pI:=hF.e.lv.grown xu (by simp)
                 have EY:=hF.e.nx.grown xu (by simp);have v0: W1.cell? ⟨X.s+2,0,H⟩=J (E (J ⟨X.s+1,0,H⟩) j n1):=(by rw[kN.e.1,<-NP.e];exact pI.cell 0);have v1:=pI.frozen 0;have x0: W1.cell? ⟨X.s+3,0,H⟩=J (.func (.func 175) #[] #[π (J ⟨X.s+2,0,H⟩),π (J ⟨X.gs,0,H⟩),π (J ⟨X.s,0,H⟩),π (J ⟨X.go,0,H⟩),π (J ⟨X.gn,0,H⟩),π (J ⟨X.s+3,0,H⟩)]):=by rw[<-GJ.e];exact EY.cell 0
                 have Ds:=K (IH.e (cs++ [⟨k,fr⟩]) _ (by have:=kN.e.2.1;simp;omega) acU.e Lz.e);rw[GJ.e,V] at Ds;clear b7 fD xu pI EY)
              | (go_at_call 175;refine Ds.e.mono ?_;rintro e w6 (⟨full,T,-,-⟩ | ⟨-,rfl,hd⟩)
                 ·cases T
                 have v0: w6.cell? ⟨X.s+2,0,H⟩=J (E (J ⟨X.s+1,0,H⟩) (j+1) n1):=(by have:=hd.lv.cell 0;rw[Þ,ź,<-kN.e.1,NP.e] at this;exact this);have v1:=hd.lv.frozen 0;have dG:=K (hd.back OK.e);rw[<-kN.e.1,NP.e] at dG;clear hd))
             go_roundw;case rel=>exact⟨fr+1,by omega,by go_num,K (λq hq=>by
              rcases Ϯ.1 hq with h|rfl
              ·exact EV.e q h
              ·exact NX.e),dG⟩
             case measure=>simp[ϑ];omega
            |some full=>
             have aaY:Hid (search X.b X.n X.e (f+1) cs=J full):=K (afY (k:=k) (fr:=fr) (by have:=my.e.2.2.2.2.2;omega) br.e ho (by rw[RU.e];omega) EV.e (by unfold jY;rw[T4.e,if_pos rfl,V]));go_wp2_with (first
              | (at_builtin
                 refine wpList_append_fits _ rfl (.tmp 79) (.tmp 81) 27 rfl (X.s+1) 56 i56 2 (χ Tryz.underlying27) GL.e.1 GL.e.2 (X.s+1) j n1 _ rfl (R7.e.alloc _) ⟨wr.heap.size,0,H⟩ 1 1 [Y I k,Y I fr] rfl rfl ?c1 ?c2 ?c3 ?_;case c1=>(intro q u hu;match q,hu with|0,hu=>(simp at hu;subst hu;simp[go_sem,Č]) |1,hu=>(simp at hu;subst hu;simp[go_sem,Č]))
                 case c2=>simp[Value.oneCell']
                 case c3=>omega
                 intro W1 b7 fD;have Lz:Hid (DI X (cs++ [⟨k,fr⟩]) (W1.setCell ⟨X.s+2,0,H⟩ (E (J ⟨X.s+1,0,H⟩) (j+1) n1))):=K (by
                  have:=DI.push (c:=⟨k,fr⟩) OK.e hF.e (by rw[<-kN.e.1,NP.e];exact b7) fD;rwa[<-kN.e.1,NP.e] at this)
                 have xu:=(Â wr (Ξ #[Y I k,Y I fr] 56) (J (X.s+1))).trans fD;have pI:=hF.e.lv.grown xu (by simp)
                 have EY:=hF.e.nx.grown xu (by simp);have v0: W1.cell? ⟨X.s+2,0,H⟩=J (E (J ⟨X.s+1,0,H⟩) j n1):=(by rw[kN.e.1,<-NP.e];exact pI.cell 0);have v1:=pI.frozen 0;have x0: W1.cell? ⟨X.s+3,0,H⟩=J (.func (.func 175) #[] #[π (J ⟨X.s+2,0,H⟩),π (J ⟨X.gs,0,H⟩),π (J ⟨X.s,0,H⟩),π (J ⟨X.go,0,H⟩),π (J ⟨X.gn,0,H⟩),π (J ⟨X.s+3,0,H⟩)]):=by rw[<-GJ.e];exact EY.cell 0
                 have Ds:=K (IH.e (cs++ [⟨k,fr⟩]) _ (by have:=kN.e.2.1;simp;omega) acU.e Lz.e);rw[GJ.e,V] at Ds;clear b7 fD xu pI EY)
              | (go_at_call 175;refine Ds.e.mono ?_;rintro e w6 (⟨Ut,T,rfl,hz⟩ | ⟨T,-,-⟩)
                 rotate_left
                 ·cases T
                 cases T;obtain⟨i6,Ow⟩:=HZ.e.lv _ _ hz;have v0: w6.cell? ⟨X.s+2,0,H⟩=J (E (J ⟨X.s+1,0,H⟩) i6 n1):=by have:=Ow.cell 0;rw[NP.e] at this;exact this
                 have v1:=Ow.frozen 0;have Sd:=K (HZ.e.set full w6 j hz);rw[NP.e] at Sd;clear hz Ow))
             rw[Exit.noGoto_ret];go_ret;exact .inl ⟨full,aaY.e,bU rfl,Sd.e⟩
     ·have sT:(fr:Int)=x.aL:=by omega
      have NX:Hid (jM X.b X.n X.e (search X.b X.n X.e f) cs k=H):=K (by
          unfold jM;rw[ho,if_neg (by simp)];exact zq.2 (λj hj=>EV.e j (by rw[RU.e] at hj;omega)))
      clear sT;go_wp2;go_roundw;case rel=>exact⟨k+1,by omega,by go_num,K (λq hq=>by
          rcases Ϯ.1 hq with h|rfl
          ·exact br.e q h
          ·exact NX.e),hE⟩
      case measure=>simp[ϑ];omega
  ·obtain rfl:k=nb:=by omega
   go_wp2;go_ret;exact .inr ⟨by unfold search;rw[my.e.2.2.2.2.2];exact zq.2 br.e,bU rfl,hD.e⟩
def Yw{X:cY}{B:Nat}(ok:X.Ok B)(hB:B<=X.s){ρ:List Cut->N->Prop}(hZ:Bq X ρ):∀(f:Nat) (cs:List Cut) (W:N),cs.length+f=X.np->(∀c∈cs,q9 X.b c)->DI X cs W->ύ prog 175 X.args W (GY X ρ cs (search X.b X.n X.e f cs))
 |0,cs,W,hc,_,h=>aoJ ok hZ (by omega) h
 |f+1,cs,W,hc,fh,h=>aoK ok hB hZ (Yw ok hB hZ f) hc fh h
def ajn:(prog.info? 56).map (λi=>(i.zero,i.size,i.bytes))=J (J (η #[Y I 0,Y I 0]),2,16):=by rw[qS];kernel_rfl
def TQ{X:cY}(ok:X.Ok B)(hB:B<=X.s){ρ:List Cut->N->Prop}(hZ:Bq X ρ)(hk:dS X.w X.gm X.b):
 ύ prog 174 #[.func (.yield X.l) #[] #[],π (J ⟨X.gs,0,H⟩),π (J ⟨X.go,0,H⟩),π (J ⟨X.gn,0,H⟩)] X.w λe W'=>
  (∃v,e=Ω v)/\((∃full,search X.b X.n X.e X.np []=J full/\ρ full W')\/(search X.b X.n X.e X.np []=H/\DI X [] W')):=by
 obtain⟨A1,n1,c1,qG,e1,h1,du,-⟩:=ok.book.pieces.Φ;have hn:=ok.valid.np;have ks:=ok.cs;rw[qG] at ks;have s1: X.w.cell? ⟨X.gs,1,H⟩=J (E A1 n1 c1):=ks.cell 1;have hgs:=ok.s;have Ce:=ok.gm;have V:X.w.heap.size=X.s:=rfl;have b1:X.gs<X.w.heap.size:=by omega
 have b2:X.gs<=X.w.heap.size:=by omega
 obtain⟨i0,cJ,cK,aO,aZ⟩:=Ö ajn;have ass:1<=n1/\n1<=3:=by omega
 have Cj:∀w:N,(Instr.makeSlice 27 (Y I 0) (Y I n1)).run prog w=.ok (E (J ⟨w.heap.size,0,H⟩) 0 n1) (w.alloc (.cells (madeCells [Y I 0,Y I 0].toArray (n1 * 2)) 56)):=λw=>by have T:=run_makeSlice (P:=prog) w 27 56 i0 _ (χ Tryz.underlying27) cJ cK .i64 .i64 0 n1 (Int.le_refl _) (by omega) (by rw[aO];omega) (by rw[aZ];omega) (by omega);rw[aO] at T;simpa [Value.cells] using T
 obtain⟨mc,Oy⟩:∃mc,mc=madeCells [Y I 0,Y I 0].toArray (n1 * 2):=⟨_,rfl⟩
 rw[<-Oy] at Cj;have VS:mc.size=n1 * 2:=by rw[Oy];exact size_madeCells _ _
 have nV:X.np=n1:=by unfold cY.np;exact e1
 have U9:DI X [] ((((X.w.alloc (Ξ #[.func (.yield X.l) #[] #[]] 139)).alloc (.cells mc 56)).alloc (Ξ #[E (J ⟨X.w.heap.size+1,0,H⟩) 0 n1] 27)).alloc (Ξ #[.func (.func 175) #[] #[π (J ⟨X.w.heap.size+1+1,0,H⟩),π (J ⟨X.gs,0,H⟩),π (J ⟨X.w.heap.size,0,H⟩),π (J ⟨X.go,0,H⟩),π (J ⟨X.gn,0,H⟩),π (J ⟨X.w.heap.size+1+1+1,0,H⟩)]] 29)):=by
  refine⟨(((Bk.bZ rfl _ _).alloc _).alloc _).alloc _,?_,?_,Bk.bZ (by simp[cY.s]) _ _,?_,?_⟩
  ·refine⟨rfl,.inr ⟨X.s+1,n1,mc,(by rw[nV];try rfl),ϊ _,nB (nB (wK (by simp[cY.s]))),ϛ _,by unfold ϕ;omega,VS,by simp⟩⟩
  ·rw[nV];exact(Bk.bZ (by simp[cY.s]) _ _).alloc _
  ·exact((((Â _ _ _).trans (Â _ _ _)).trans (Â _ _ _)).trans (Â _ _ _))
  ·have:=hk;exact(((this.grown (Â _ _ H) (by simp)).grown (Â _ _ H) (by simp)).grown (Â _ _ H) (by simp)).grown (Â _ _ H) (by simp)
 have call:=Yw ok hB hZ X.np [] _ (by simp) (by simp) U9;have zJ:X.args=#[π (J ⟨X.w.heap.size+1+1,0,H⟩),π (J ⟨X.gs,0,H⟩),π (J ⟨X.w.heap.size,0,H⟩),π (J ⟨X.go,0,H⟩),π (J ⟨X.gn,0,H⟩),π (J ⟨X.w.heap.size+1+1+1,0,H⟩)]:=rfl;rw[zJ] at call;have call2:=call.mono (R':=λe W'=>(∃bb:Bool,e=Ω (.bool bb))/\Hid ((∃full,search X.b X.n X.e X.np []=J full/\ρ full W')\/(search X.b X.n X.e X.np []=H/\DI X [] W'))) (by
  rintro e W' (⟨full,h1,h2,h3⟩ | ⟨h1,h2,h3⟩)
  ·exact⟨⟨_,h2⟩,K (.inl ⟨full,h1,h3⟩)⟩
  ·exact⟨⟨_,h2⟩,K (.inr ⟨h1,h3⟩)⟩)
 have aG:=K call2;clear Oy VS nV U9 call call2 zJ;have OK:=K ok;have HZ:=K hZ;have HK:=K hk;have E1:=K e1;clear ok hZ hk e1 qG ks cJ cK aO aZ V hn;go_enter func174,Tryz.ntmps174;go_wp2_with (first
  | (go_at_call 175;refine aG.e.mono ?_;rintro e w1 ⟨⟨bb,rfl⟩,Ai⟩))
 go_end0
 exact⟨⟨_,rfl⟩,Ai.e⟩
def WQ:(prog.info? 56).map (λi=>(i.zero,i.size,i.bytes))=J (J (η #[Y I 0,Y I 0]),2,16):=by rw[qS];kernel_rfl
def adK{ad:Addr}{c:Nat}{news:List z}(hl:news.length=n * 2)(hc:∀j u,news[j]?=J u-> w.cell? (ad.add j)=J u)(h1:∀u∈news,u.oneCell'=D)(hn:n<=1000000)(aE:ad.block<w.heap.size):
 ύ prog 201 #[E (J ad) n c] w λe w'=>∃v,e=Ω v/\w'.ownsRow w.heap.size 56 2 v n news/\φ w w':=by
 obtain⟨i0,cJ,cK,aO,aZ⟩:=Ö WQ;have cy:=K (Ϗ cJ (Ϗ cK (Ϗ aO aZ)));have HC:Hid (∀j u,news[j]?=J u->(w.alloc (Ξ #[] 56)).cell? (ad.add j)=J u):=K (λj u hu=>(ð w _ _ (by rw[b9];exact aE)).trans (hc j u hu))
 have HL:=K (Ϗ hl h1);have HO:Hid ((w.alloc (Ξ #[] 56)).ownsRow w.heap.size 56 2 (E (J ⟨w.heap.size,0,H⟩) 0 0) 0 []):=K ⟨rfl,.inr ⟨w.heap.size,0,#[],rfl,ϊ _,heap_alloc_new w _,ϊ _,by unfold ϕ;omega,rfl,rfl⟩⟩
 clear hl hc h1 cJ cK aO aZ;have q:∀(w:N) (a:Option Addr) (n c n' c':Nat),(binOp .eql 27 (E a n c) (E H n' c')).run prog w=.ok (.bool a.isNone) w:=λw a n c n' c'=>Lib.run_eql_slice_nil w _ _ a n c n' c' (χ Tryz.underlying27)
 go_enter func201,Tryz.ntmps201;go_wp2_with (first
  | (at_builtin
     refine ĝ _ rfl (.tmp 5) (.tmp 6) 27 rfl w.heap.size 56 i0 (η #[Y I 0,Y I 0]) 2 16 (χ Tryz.underlying27) cy.e.1 cy.e.2.1 cy.e.2.2.1 cy.e.2.2.2 rfl (by decide) _ 0 _ rfl HO.e ad n c news rfl HL.e.1 HC.e HL.e.2 ?c3 ?c4 ?c5 ?_;case c3=>(simp only[ϕ];omega)
     case c4=>omega
     case c5=>simp
     intro v' w1 b7 cW _;have gC:=K b7;have gX:=K cW;clear b7 cW))
 go_ret;refine⟨_,rfl,by have:=gC.e;rwa[Nat.zero_add,ù] at this,((ό _ _).alloc (ϊ _) _).grown gX.e (by simp) (λk hk=>dX HO.e k hk)⟩
def cY.Ok.alloc{X:cY}{B:Nat}(ok:X.Ok B)(hB:B<=X.w.heap.size)(o:Obj):cY.Ok {X with w:=X.w.alloc o} B where
 book:=ok.book.still ((Δ.refl _).alloc hB o)
 valid:=ok.valid
 lens:=ok.lens
 sv:=ok.sv
 B:=ok.B
 s:=by have:=ok.s;simp[cY.s] at this |-;omega
 o:=by have:=ok.o;simp[cY.s] at this |-;omega
 gn:=by have:=ok.gn;simp[cY.s] at this |-;omega
 gm:=by have:=ok.gm;simp[cY.s] at this |-;omega
 ns:=ok.ns
 no:=ok.no
 nn:=ok.nn
 cs:=ok.cs.alloc o
 co:=ok.co.alloc o
 cn:=ok.cn.alloc o
 eg:=ok.eg
 e:=λk W hk hg=>ok.e k W hk ((Â X.w o _).trans hg)
def cY.Ok.SK{X:cY}(ok:X.Ok B)(l:Nat):cY.Ok {X with l:=l} B:=⟨ok.book,ok.valid,ok.lens,ok.sv,ok.B,ok.s,ok.o,ok.gn,ok.gm,ok.ns,ok.no,ok.nn,ok.cs,ok.co,ok.cn,ok.eg,ok.e⟩
end Go.Tw
namespace Go.Tw
variable [Go.Tw.aK]
open Go Go.Proofs Go.RowKit
attribute [local go_sem] AZ AY Aha
structure FZ(w0:N)(gm:Nat)(b:eR)(rc:Loop)(np:Nat)(full:List Cut)(W:N):Prop where
 r0:∃v,Bk W w0.heap.size 27 #[v]/\W.ownsRow (w0.heap.size+8) 56 2 v np (full.flatMap Cut.vs)
 r1:Bk W (w0.heap.size+1) 4 #[.bool D]
 d:W.heap[w0.heap.size+2]?=J (.deferred (J []))
 l:W.heap[w0.heap.size+3]?=J (.loop {rc with state:=.done,pending:=J .ret})
 lv:∃i,Bk W (w0.heap.size+4+2) 27 #[E (J ⟨w0.heap.size+4+1,0,H⟩) i np]
 gr:w0.grownBy W (J gm)
 known:dS W gm b
def FJ(h:dS W g b)(hp:g≠p.block):dS (W.setCell p u) g b:=by obtain⟨es,clock,h1,h2⟩:=h;exact⟨es,clock,(å _ _ _ _ hp).trans h1,h2⟩
def FZ.set{w0:N}{gm:Nat}{b:eR}{rc:Loop}{np:Nat}{full:List Cut}{W:N}(h:FZ w0 gm b rc np full W)(Ce:gm<w0.heap.size)(i:Nat):FZ w0 gm b rc np full (W.setCell ⟨w0.heap.size+4+2,0,H⟩ (E (J ⟨w0.heap.size+4+1,0,H⟩) i np)):=by obtain⟨v,v1,v2⟩:=h.r0;obtain⟨i',hi⟩:=h.lv;exact⟨⟨v,v1.dV (by simp;omega) _,gN v2 (by simp)⟩,h.r1.dV (by simp) _,(å _ _ _ _ (by simp)).trans h.d,(å _ _ _ _ (by simp)).trans h.l,⟨i,hi.set 0 _⟩,zu h.gr (by simp;omega),FJ h.known (by simp;omega)⟩
def aa1(X:cY)(e:Ŏ)(W':N):Prop:=
 ((∃full v,search X.b X.n X.e X.np []=J full/\e=Ω (μ #[v,.bool D])/\W'.ownsRow X.w.heap.size 56 2 v X.np (full.flatMap Cut.vs))\/(search X.b X.n X.e X.np []=H/\e=Ω (μ #[E H 0 0,.bool U])))/\
 X.w.grownBy W' (J X.gm)/\dS W' X.gm X.b
def vK{base:Nat}{sz:Nat}(h:w.ownsRow base e sz (E (J ⟨g,0,H⟩) n cap) n xs):∀j u,xs[j]?=J u-> w.cell? ((⟨g,0,H⟩:Addr).add j)=J u:=by
 intro j u hu;rcases h.2 with⟨h0,_⟩ | ⟨g',ze,cur,h1,h2,h3,h4,h5,h6,h7⟩
 ·cases h0
 ·cases h1;rw[kP];refine(cell_of_row w g j cur _ (0,0) h3).trans ?_;rw[<-h7,List.getElem?_take] at hu;split at hu
  ·rw[<-į];exact hu
  ·cases hu
def aek(l:List Cut):∀u∈l.flatMap Cut.vs,u.oneCell'=D:=by intro u hu;simp only[Ah3,Cut.vs,Ϡ,List.not_mem_nil,or_false] at hu;obtain⟨c,_,rfl|rfl⟩:=hu<;>rfl
def Ud{X:cY}(ok:X.Ok B)(hB:B<=X.w.heap.size)(hk:dS X.w X.gm X.b):
 ύ prog 170 #[fv 174 #[π (J ⟨X.gs,0,H⟩),π (J ⟨X.go,0,H⟩),π (J ⟨X.gn,0,H⟩)]] X.w (aa1 X):=by
 refine(callsIn_wide (n:=0)).1 ?_;have Ce:=ok.gm;have V:X.s=X.w.heap.size:=rfl;have asc:X.gm<X.w.heap.size:=Ce;have OK:=K ok;have HK:=K hk;have kX:1<=X.np/\X.np<=3:=ok.valid.np;clear ok hk;refine callsIn_of_wp_marks func170 rfl trivial ?_
 simp only[Tryz.ntmps170,ũ,Ė,Ū,Ŕ,Ŭ,Ŧ,ŧ,ū,ő,ù,Œ]
 gi_wp2
 refine Qf (gf:=174) (pre:=#[]) (lb:=#[π (J ⟨X.gs,0,H⟩),π (J ⟨X.go,0,H⟩),π (J ⟨X.gn,0,H⟩)]) rfl call174 λfn rc iD=>?_;simp only[Ahl,Nat.add_assoc,Ŕ,ő,Œ,ù,Ah1];obtain⟨W1,eS⟩:∃W1,W1=(((X.w.alloc (Ϧ #[Value.slice H 0 0] 27)).alloc (Ϧ #[Value.bool U] 4)).alloc (Obj.deferred (J []))).alloc (Obj.loop rc):=⟨_,rfl⟩
 have Cl:=((((OK.e.alloc hB (Ξ #[E H 0 0] 27)).alloc (by simp;omega) (Ξ #[.bool U] 4)).alloc (by simp;omega) (.deferred (J []))).alloc (by simp;omega) (.loop rc)).SK (X.w.heap.size+3);have NA:W1.heap.size=X.w.heap.size+4:=by rw[eS];simp
 have zZ:W1.heap[X.w.heap.size+3]?=J (.loop rc):=by rw[eS];exact wK (by simp)
 have kT:W1.heap[X.w.heap.size+2]?=J (.deferred (J [])):=by rw[eS];exact nB (wK (by simp))
 have k0:Bk W1 X.w.heap.size 27 #[E H 0 0]:=by rw[eS];exact(((Bk.new _ _ _).alloc _).alloc _).alloc _
 have k1:Bk W1 (X.w.heap.size+1) 4 #[.bool U]:=by rw[eS];exact((Bk.bZ (by simp) _ _).alloc _).alloc _
 have fD:X.w.grownBy W1 (J X.gm):=by rw[eS];exact(((Â _ _ _).trans (Â _ _ _)).trans (Â _ _ _)).trans (Â _ _ _)
 have fj:dS W1 X.gm X.b:=HK.e.grown (row:=H) (by rw[eS];exact(((Â _ _ _).trans (Â _ _ _)).trans (Â _ _ _)).trans (Â _ _ _)) (by simp);rw[<-eS] at Cl |-;clear eS;obtain⟨X1,ic⟩:∃X1:cY,X1={X with w:=W1,l:=X.w.heap.size+3}:=⟨_,rfl⟩
 have cD:X1.Ok B:=by rw[ic];exact Cl
 have e0:X1.s=X.w.heap.size+4:=by rw[ic];exact NA
 have hZ:Bq X1 (FZ X.w X.gm X.b rc X.np):=by
  refine⟨λfull W hz=>?_,λfull W i hz=>?_,?yr⟩
  ·obtain⟨i,hi⟩:=hz.lv;rw[e0,show X1.np=X.np by rw[ic];rfl];exact⟨i,hi⟩
  ·rw[e0,show X1.np=X.np by rw[ic];rfl];exact hz.set (by rw[<-V];exact Ce) i
  ·intro m full W hlen hD;have Ae:X1.np=X.np:=(by rw[ic];rfl);have Od:X1.gm=X.gm:=(by rw[ic]);have OT:X1.w=W1:=(by rw[ic]);have ai:X1.b=X.b:=(by rw[ic]);have Vx:X1.l=X.w.heap.size+3:=(by rw[ic]);have ew:=hD.gr;rw[OT,Od] at ew;have pH:W.heap[X.w.heap.size+3]?=J (.loop rc):=(ew.block _ (by omega) (by simp;omega)).trans zZ
   have gh:W.heap[X.w.heap.size+2]?=J (.deferred (J [])):=(ew.block _ (by omega) (by simp;omega)).trans kT;have Yu:Bk W X.w.heap.size 27 #[E H 0 0]:=k0.grown ew (by simp;omega);have vG:Bk W (X.w.heap.size+1) 4 #[.bool U]:=k1.grown ew (by simp;omega);have pI:Bk W (X.w.heap.size+4+2) 27 #[E (J ⟨X.w.heap.size+4+1,0,H⟩) X.np X.np]:=(by have:=hD.lv;rw[e0,hlen,Ae] at this;exact this);have P7:W.ownsRow (X.w.heap.size+4+1) 56 2 (E (J ⟨X.w.heap.size+4+1,0,H⟩) X.np X.np) X.np (full.flatMap Cut.vs):=(by have:=hD.arr;rw[e0,hlen,Ae] at this;exact this);have cP:dS W X.gm X.b:=(by have:=hD.known;rw[Od,ai] at this;exact this);have oR:X.w.heap.size+4+3<W.heap.size:=(by have:=hD.nx.lt;rw[e0] at this;exact this);rw[Vx,e0,Ae];refine Rh (n:=0) iD pH rfl ?_
   gi_wp2
   refine⟨_,Mn iD pH,?_⟩;obtain⟨Wb,rI⟩:∃Wb,Wb=W.putObj (X.w.heap.size+3) (.loop {rc with state:=.busy}):=⟨_,rfl⟩
   rw[<-rI];have jy:∀g,g≠X.w.heap.size+3->Wb.heap[g]?=W.heap[g]?:=λg hg=>by rw[rI];exact Å hg
   have vp:Wb.heap[X.w.heap.size+3]?=J (.loop {rc with state:=.busy}):=(by rw[rI];exact ŏ (by omega));have E7:Wb.heap.size=W.heap.size:=(by rw[rI];simp);have Cd:X.w.grownBy Wb (J X.gm):=by rw[rI];exact zt (fD.trans ew) (İ W _ _) (λg e=>by cases e;omega)
   have eP:dS Wb X.gm X.b:=(by obtain⟨es,clock,h1,h2⟩:=cP;exact⟨es,clock,(jy _ (by omega)).trans h1,h2⟩);have WY:Bk Wb X.w.heap.size 27 #[E H 0 0]:=(jy _ (by omega)).trans Yu;have WZ:Bk Wb (X.w.heap.size+1) 4 #[.bool U]:=(jy _ (by omega)).trans vG;have U7:Wb.heap[X.w.heap.size+2]?=J (.deferred (J [])):=(jy _ (by omega)).trans gh;have VO:Bk Wb (X.w.heap.size+4+2) 27 #[E (J ⟨X.w.heap.size+4+1,0,H⟩) X.np X.np]:=(jy _ (by omega)).trans pI;have hab:Wb.ownsRow (X.w.heap.size+4+1) 56 2 (E (J ⟨X.w.heap.size+4+1,0,H⟩) X.np X.np) X.np (full.flatMap Cut.vs):=by rw[rI];exact ZR P7 (by omega)
   have VF:full.length=X.np:=hlen.trans Ae;have dE:=mZ (R:=Cut.R) (f:=Cut.vs) (l:=full) (by rw[VF];exact hab) (λ_=>rfl) (λ_ _=>rfl)
   have IP:∀j u,(full.flatMap Cut.vs)[j]?=J u-> Wb.cell? ((⟨X.w.heap.size+4+1,0,H⟩:Addr).add j)=J u:=λj u hu=>vK hab j u hu;have Cm:∀u∈full.flatMap Cut.vs,u.oneCell'=D:=aek full;have Ck:(full.flatMap Cut.vs).length=X.np * 2:=hab.1;have aG:=K (adK (n:=X.np) (c:=X.np) Ck IP Cm (by omega) (by simp;omega))
   have FR:=K (Ϗ Cd (Ϗ eP (Ϗ WY (Ϗ WZ (Ϗ U7 (Ϗ VO vp))))));clear rI jy hab dE IP Cm Ck Cd eP WY WZ U7 VO vp pH gh Yu vG pI P7 cP ew hD ic cD Cl VF hlen Ae Od OT ai Vx e0 k0 k1 fD fj zZ kT NA V
   gi_wp2_with (first
    | (gi_at_call 201;refine(callsIn_wide.2 aG.e).mono ?_;rintro e w1 ⟨v,rfl,aH,ai⟩
       obtain⟨A9,m9,c9,rfl⟩:=iI aH;have q0:Bk w1 X.w.heap.size 27 #[E H 0 0]:=FR.e.2.2.1.below ai (by omega)
       have q1:Bk w1 (X.w.heap.size+1) 4 #[.bool U]:=FR.e.2.2.2.1.below ai (by omega);have r0: w1.cell? ⟨X.w.heap.size,0,H⟩=J (E H 0 0):=q0.cell 0;have z0:=q0.frozen 0;have r1: w1.cell? ⟨X.w.heap.size+1,0,H⟩=J (.bool U):=q1.cell 0;have z1:=q1.frozen 0;have uF:=K (Ϗ aH (Ϗ ai (Ϗ q0 q1)));clear aH ai q0 q1))
   have hzb:X.w.heap.size+7<Wb.heap.size:=(by omega);have aO:=uF.e.2.1.size;refine⟨_,_,TU .ret ((å _ _ _ _ (by simp)).trans ((å _ _ _ _ (by simp)).trans ((uF.e.2.1.block _ (by omega)).trans FR.e.2.2.2.2.2.2))),rfl,?_⟩;refine⟨⟨_,(Å (by omega)).trans ((uF.e.2.2.1.set 0 _).dV (by simp) _),ZR (gN (gN (uF.e.1.base (by omega)) (by simp)) (by simp)) (by omega)⟩,
    (Å (by omega)).trans ((uF.e.2.2.2.dV (by simp) _).set 0 _),(Å (by omega)).trans ((å _ _ _ _ (by simp)).trans ((å _ _ _ _ (by simp)).trans ((uF.e.2.1.block _ (by omega)).trans FR.e.2.2.2.2.1))),
    ŏ (by simp[ü];omega),⟨_,(Å (by omega)).trans (((FR.e.2.2.2.2.2.1.below uF.e.2.1 (by omega)).dV (by simp;omega) _).dV (by simp) _)⟩,?_,?_⟩
   ·exact zt (zu (zu (FR.e.1.trans (jQ uF.e.2.1 (ϊ _) _)) (by simp)) (by simp)) (İ _ _ _) (λg e=>by cases e;omega)
   ·have jx:=FJ (u:=.bool D) (p:=⟨X.w.heap.size+1,0,H⟩) (FJ (u:=E A9 m9 c9) (p:=⟨X.w.heap.size,0,H⟩) (FR.e.2.1.below uF.e.2.1 FR.e.2.1.lt) (by simp;omega)) (by simp;omega);obtain⟨es,clock,h1,h2⟩:=jx;exact⟨es,clock,(Å (by omega)).trans h1,h2⟩
 have call:=TQ cD (by rw[e0];omega) hZ (by rw[ic];exact fj);rw[show X1.l=X.w.heap.size+3 by rw[ic],show X1.gs=X.gs by rw[ic],show X1.go=X.go by rw[ic],show X1.gn=X.gn by rw[ic],show X1.w=W1 by rw[ic],show X1.b=X.b by rw[ic],show X1.n=X.n by rw[ic],show X1.e=X.e by rw[ic],show X1.np=X.np by rw[ic];rfl] at call;refine(callsIn_wide.2 call).mono ?_;rintro e W2 ⟨⟨v,rfl⟩,(⟨full,vC,hz⟩ | ⟨vC,hD⟩)⟩
 ·have HZ:=K hz;have HS:=K vC;obtain⟨v2,v21,v22⟩:=hz.r0;obtain⟨A9,m9,c9,rfl⟩:=iI v22;refine⟨J .ret,_,TY hz.l,?_⟩;obtain⟨W3,gd⟩:∃W3,W3=W2.putObj (X.w.heap.size+3) (.loop {rc with state:=.exhausted,pending:=J .ret}):=⟨_,rfl⟩
  have q0:Bk W3 X.w.heap.size 27 #[E A9 m9 c9]:=by rw[gd];exact(Å (by omega)).trans v21
  have q1:Bk W3 (X.w.heap.size+1) 4 #[.bool D]:=by rw[gd];exact(Å (by omega)).trans hz.r1
  have Li:Hid (W3.heap[X.w.heap.size+2]?=J (.deferred (J []))):=K (by rw[gd];exact(Å (by omega)).trans hz.d);have jo:Hid (X.w.grownBy W3 (J X.gm)/\dS W3 X.gm X.b/\W3.ownsRow (X.w.heap.size+8) 56 2 (E A9 m9 c9) X.np (full.flatMap Cut.vs)):=K (by
   rw[gd];refine⟨zt hz.gr (İ _ _ _) (λg e=>by cases e;omega),?_,ZR v22 (by omega)⟩;obtain⟨es,clock,h1,h2⟩:=hz.known;exact⟨es,clock,(Å (by omega)).trans h1,h2⟩)
  have Q:=K (Ϗ q0 q1);have cK:X.w.heap.size+1<W3.heap.size:=q1.lt;rw[<-gd];clear gd hz v21 v22 vC q0 q1;show Code.wpIn Ċ 0 prog Code.ret _ _ _
  gi_wp2
  refine⟨by simp,.inl ⟨_,_,rfl,Ag5 Li.e,?_⟩⟩;have r0:(W3.putObj (X.w.heap.size+2) (.deferred H)).cell? ⟨X.w.heap.size,0,H⟩=J (E A9 m9 c9):=Bk.cell (g:=X.w.heap.size) ((Å (by omega)).trans Q.e.1) 0;have r1:(W3.putObj (X.w.heap.size+2) (.deferred H)).cell? ⟨X.w.heap.size+1,0,H⟩=J (.bool D):=Bk.cell (g:=X.w.heap.size+1) ((Å (by omega)).trans Q.e.2) 0;refine⟨μ #[E A9 m9 c9,.bool D],by simp[results,Tryz.results170,go_sem,r0,r1],.inl ⟨full,E A9 m9 c9,HS.e,rfl,(ZR jo.e.2.2 (by omega)).base (by omega)⟩,zt jo.e.1 (İ _ _ _) (λg e=>by cases e;omega),?_⟩;obtain⟨es,clock,h1,h2⟩:=jo.e.2.1;exact⟨es,clock,(Å (by omega)).trans h1,h2⟩
 ·have HS:=K vC;have ew:=hD.gr;rw[show X1.w=W1 by rw[ic],show X1.gm=X.gm by rw[ic]] at ew;have cP:dS W2 X.gm X.b:=by have:=hD.known;rw[show X1.gm=X.gm by rw[ic],show X1.b=X.b by rw[ic]] at this;exact this
  have pH:W2.heap[X.w.heap.size+3]?=J (.loop rc):=(ew.block _ (by omega) (by simp;omega)).trans zZ;have gh:W2.heap[X.w.heap.size+2]?=J (.deferred (J [])):=(ew.block _ (by omega) (by simp;omega)).trans kT;have Yu:Bk W2 X.w.heap.size 27 #[E H 0 0]:=k0.grown ew (by simp;omega);have vG:Bk W2 (X.w.heap.size+1) 4 #[.bool U]:=k1.grown ew (by simp;omega);refine⟨H,_,MR iD pH,?_⟩;obtain⟨W3,gd⟩:∃W3,W3=W2.putObj (X.w.heap.size+3) (.loop {rc with state:=.exhausted}):=⟨_,rfl⟩
  have q0:Bk W3 X.w.heap.size 27 #[E H 0 0]:=by rw[gd];exact(Å (by omega)).trans Yu
  have q1:Bk W3 (X.w.heap.size+1) 4 #[.bool U]:=by rw[gd];exact(Å (by omega)).trans vG
  have Li:Hid (W3.heap[X.w.heap.size+2]?=J (.deferred (J []))):=K (by rw[gd];exact(Å (by omega)).trans gh);have jo:Hid (X.w.grownBy W3 (J X.gm)/\dS W3 X.gm X.b):=K (by
   rw[gd];refine⟨zt (fD.trans ew) (İ _ _ _) (λg e=>by cases e;omega),?_⟩;obtain⟨es,clock,h1,h2⟩:=cP;exact⟨es,clock,(Å (by omega)).trans h1,h2⟩)
  have Q:=K (Ϗ q0 q1);have r0: W3.cell? ⟨X.w.heap.size,0,H⟩=J (E H 0 0):=q0.cell 0;have r1: W3.cell? ⟨X.w.heap.size+1,0,H⟩=J (.bool U):=q1.cell 0;have z0:=q0.frozen 0;have z1:=q1.frozen 0;have cK:X.w.heap.size+1<W3.heap.size:=q1.lt;rw[<-gd];clear gd hD vC ew cP pH gh Yu vG q0 q1 hZ call cD Cl ic e0 k0 k1 fD fj zZ kT NA V;show Exit.inBlock _ _ _ _ _
  gi_wp2
  refine⟨by simp,.inl ⟨_,_,rfl,Ag5 ((å _ _ _ _ (by simp)).trans ((å _ _ _ _ (by simp)).trans Li.e)),?_⟩⟩;have t0:(((W3.setCell ⟨X.w.heap.size,0,H⟩ (E H 0 0)).setCell ⟨X.w.heap.size+1,0,H⟩ (.bool U)).putObj (X.w.heap.size+2) (.deferred H)).cell? ⟨X.w.heap.size,0,H⟩=J (E H 0 0):=Bk.cell (g:=X.w.heap.size) (t:=27) (cs:=#[E H 0 0]) ((Å (by omega)).trans ((Q.e.1.set 0 (E H 0 0)).dV (by simp) _)) 0;have t1:(((W3.setCell ⟨X.w.heap.size,0,H⟩ (E H 0 0)).setCell ⟨X.w.heap.size+1,0,H⟩ (.bool U)).putObj (X.w.heap.size+2) (.deferred H)).cell? ⟨X.w.heap.size+1,0,H⟩=J (.bool U):=Bk.cell (g:=X.w.heap.size+1) (t:=4) (cs:=#[.bool U]) ((Å (by omega)).trans ((Q.e.2.dV (by simp) _).set 0 (.bool U))) 0;refine⟨μ #[E H 0 0,.bool U],by simp[results,Tryz.results170,go_sem,t0,t1],.inr ⟨HS.e,rfl⟩,zt (zu (zu jo.e.1 (by simp)) (by simp)) (İ _ _ _) (λg e=>by cases e;omega),?_⟩;obtain⟨es,clock,h1,h2⟩:=FJ (u:=.bool U) (p:=⟨X.w.heap.size+1,0,H⟩) (FJ (u:=E H 0 0) (p:=⟨X.w.heap.size,0,H⟩) jo.e.2 (by simp;omega)) (by simp;omega);exact⟨es,clock,(Å (by omega)).trans h1,h2⟩
end Go.Tw
namespace Go.Tw
variable [Go.Tw.aK]
open Go Go.Proofs Go.RowKit
def YF(w:N)(b:eR)(pv bv tv:z)(e:Ŏ)(w':N):Prop:=∃g,e=Ω (μ #[η #[Y I 0,E H 0 0,E H 0 0,E H 0 0,E H 0 0,.map (J g)],Y I (bT b 0)])/\φ w w'
def ao0(hB:B<=w.heap.size)(ah:aQ w B b pv bv tv)(h:bT b 0≠0):
 ύ prog 119 #[η #[Y I b.ab,pv,bv,tv]] w (YF w b pv bv tv):=by
 have st:Δ B w ((w.alloc (Ξ #[Y I b.ab,pv,bv,tv] 26)).alloc (Ξ #[Y I 0,E H 0 0,E H 0 0,E H 0 0,E H 0 0,.map H] 151)):=((Δ.refl w).alloc hB _).alloc (by simp;omega) _;have aG:=K (XS (w:=((w.alloc (Ξ #[Y I b.ab,pv,bv,tv] 26)).alloc (Ξ #[Y I 0,E H 0 0,E H 0 0,E H 0 0,E H 0 0,.map H] 151))) (B:=B) (by simp;omega) (ah.still st) (Bw (ah.still st)) h);obtain⟨s,V⟩:∃s,s=bT b 0:=⟨_,rfl⟩
 have HS:=K V;rw[<-V] at aG h;obtain⟨A1,n1,c1,A2,n2,c2,A3,n3,c3,rfl,rfl,rfl⟩:=ah.op;clear ah st V;have hmm:= @run_makeMap prog;go_enter func119,Tryz.ntmps119;go_wp2_with (first
  | (go_at_call 98;refine aG.e.mono ?_;rintro e w1 ⟨rfl,ai⟩
     have k1:Bk w1 (w.heap.size+1) 151 #[Y I 0,E H 0 0,E H 0 0,E H 0 0,E H 0 0,.map H]:=(Bk.bZ (by simp) _ _).below ai (by simp);have r0:=k1.cell 0;have z0:=k1.frozen 0;have r1:=k1.cell 1;have z1:=k1.frozen 1;have r2:=k1.cell 2;have z2:=k1.frozen 2;have r3:=k1.cell 3;have z3:=k1.frozen 3;have r4:=k1.cell 4;have z4:=k1.frozen 4;have r5:=k1.cell 5;have z5:=k1.frozen 5;have aO:w.heap.size+1<w1.heap.size:=by have:=ai.size;simp at this;omega
     have aZ:w.heap.size+1<=w1.heap.size:=(by omega);have gw:w.heap.size<w1.heap.size:=(by omega);have sc:w.heap.size<=w1.heap.size:=(by omega);have YK:=K k1;have aW:Hid (φ w w1):=K ((((ό _ _).alloc (ϊ _) _).alloc (by simp) _).trans (ai.mono (by simp;omega)))
     clear ai k1))
 refine ø (v:=μ #[η #[Y I 0,E H 0 0,E H 0 0,E H 0 0,E H 0 0,.map (J (w1.heap.size+1))],Y I s]) (by simp[results,Tryz.results119,go_sem,r0,r1,r2,r3,r4,r5,aO,aZ,gw,sc]) rfl ?_;rw[show s=bT b 0 from HS.e];refine⟨_,rfl,?_⟩
 ((refine Ũ (Ũ ?_ (by simp[ü];omega) _) (by simp[ü];omega) _);(repeat refine ļ ?_ (by simp) _);exact aW.e)
def aoZ(w:N)(b:eR)(pv bv tv:z)(e:Ŏ)(w':N):Prop:=∃sv g,e=Ω (μ #[η #[Y I b.ab,pv,bv,tv,sv,.map (J g)],Y I 0])/\fx w' w.heap.size sv (aB b)/\dS w' g b/\w.heap.size<=g/\φ w w'
def Qw(hB:B<=w.heap.size)(ah:aQ w B b pv bv tv)(h:bT b 0=0):
 ύ prog 119 #[η #[Y I b.ab,pv,bv,tv]] w (aoZ w b pv bv tv):=by
 have st:Δ B w ((w.alloc (Ξ #[Y I b.ab,pv,bv,tv] 26)).alloc (Ξ #[Y I 0,E H 0 0,E H 0 0,E H 0 0,E H 0 0,.map H] 151)):=((Δ.refl w).alloc hB _).alloc (by simp;omega) _;have aG:=K (ym (w:=((w.alloc (Ξ #[Y I b.ab,pv,bv,tv] 26)).alloc (Ξ #[Y I 0,E H 0 0,E H 0 0,E H 0 0,E H 0 0,.map H] 151))) (B:=B) (by simp;omega) (ah.still st) (Bw (ah.still st)) h);obtain⟨A1,n1,c1,A2,n2,c2,A3,n3,c3,rfl,rfl,rfl⟩:=ah.op;clear ah st h;have hmm:= @run_makeMap prog;go_enter func119,Tryz.ntmps119;go_wp2_with (first
  | (go_at_call 98;refine aG.e.mono ?_;rintro e w1 ⟨sv,rfl,aH,ai⟩
     obtain⟨A9,m9,c9,rfl⟩:=iI aH;have HO:=K aH;have k1:Bk w1 (w.heap.size+1) 151 #[Y I 0,E H 0 0,E H 0 0,E H 0 0,E H 0 0,.map H]:=(Bk.bZ (by simp) _ _).below ai (by simp)
     have r0:=k1.cell 0;have z0:=k1.frozen 0;have r1:=k1.cell 1;have z1:=k1.frozen 1;have r2:=k1.cell 2;have z2:=k1.frozen 2;have r3:=k1.cell 3;have z3:=k1.frozen 3;have r4:=k1.cell 4;have z4:=k1.frozen 4;have r5:=k1.cell 5;have z5:=k1.frozen 5;have aO:w.heap.size+1<w1.heap.size:=by have:=ai.size;simp at this;omega
     have aZ:w.heap.size+1<=w1.heap.size:=(by omega);have gw:w.heap.size<w1.heap.size:=(by omega);have sc:w.heap.size<=w1.heap.size:=(by omega);have YK:=K k1;have aW:Hid (φ w w1):=K ((((ό _ _).alloc (ϊ _) _).alloc (by simp) _).trans (ai.mono (by simp;omega)))
     clear ai k1 aH))
 refine ø (v:=μ #[η #[Y I b.ab,E A1 n1 c1,E A2 n2 c2,E A3 n3 c3,E A9 m9 c9,.map (J (w1.heap.size+1))],Y I 0]) (by simp[results,Tryz.results119,go_sem,r0,r1,r2,r3,r4,r5,aO,aZ,gw,sc]) rfl ?_;refine⟨_,_,rfl,?_,?_,?_,?_⟩
 ·refine fx.base (base:=w.heap.size+2) ?_ (by omega);have h0:fx w1 (w.heap.size+2) (E A9 m9 c9) (aB b):=by have:=HO.e;simpa using this
  first
   |exact((((((((h0.set (by simp)).set (by simp)).set (by simp)).set (by simp)).set (by simp)).set (by simp)).alloc _).alloc _)
   | (repeat(first|exact h0|refine fx.set ?_ (by simp) |refine fx.alloc ?_ _))
 ·exact⟨#[],0,wK (by simp[ü]),by simp⟩
 ·omega
 · ((refine Ũ (Ũ ?_ (by simp[ü];omega) _) (by simp[ü];omega) _);(repeat refine ļ ?_ (by simp) _);exact aW.e)
def aaU(w:N)(b:eR)(pv bv tv sv:z)(g KO:Nat)(kE:Array z)(ps:List al)(e:Ŏ)(w':N):Prop:=
 ∃gn,e=Ω (fv 174 #[π (J ⟨w.heap.size,0,H⟩),π (J ⟨w.heap.size+1,0,H⟩),π (J ⟨gn,0,H⟩)])/\Bk w' w.heap.size 151 #[Y I b.ab,pv,bv,tv,sv,.map (J g)]/\
  Bk w' (w.heap.size+1) 158 #[fv KO kE]/\Bk w' gn 128 (cB ps).cs/\w.heap.size<=gn/\φ w w'
def ML{ps:List al}(V:Row w B 3 al.R sv ps)(hB:B<=w.heap.size)(hp:∃A n c,pv=E A n c)(hb:∃A n c,bv=E A n c)(ht:∃A n c,tv=E A n c):
 ύ prog 122 #[η #[Y I b.ab,pv,bv,tv,sv,.map (J g)],fv KO kE] w (aaU w b pv bv tv sv g KO kE ps):=by
 have st:Δ B w ((w.alloc (Ξ #[Y I b.ab,pv,bv,tv,sv,.map (J g)] 151)).alloc (Ξ #[fv KO kE] 158)):=((Δ.refl w).alloc hB _).alloc (by simp;omega) _;have aG:=K (UB (s:=b.ab) (V.still st λ_ _ h=>h) (by simp;omega) hp hb ht);obtain⟨A1,n1,c1,rfl⟩:=hp;obtain⟨A2,n2,c2,rfl⟩:=hb;obtain⟨A3,n3,c3,rfl⟩:=ht;obtain⟨A4,n4,c4,rfl,-⟩:=V.Φ;obtain⟨G,hG⟩:∃G,G=cB ps:=⟨_,rfl⟩
 rw[<-hG] at aG;unfold al.cs at aG;have HG:=K hG;clear V st hG;go_enter func122,Tryz.ntmps122;go_wp2_with (first
  | (go_at_call 115;refine aG.e.mono ?_;rintro e w1 ⟨rfl,ai⟩
     have aO:w.heap.size+1<w1.heap.size:=(by have:=ai.size;simp at this;omega);have k0:=K (Bk.below (g:=w.heap.size) (t:=151) (cs:=#[Y I b.ab,E A1 n1 c1,E A2 n2 c2,E A3 n3 c3,E A4 n4 c4,.map (J g)]) ((Bk.new w _ _).alloc _) ai (by simp;omega));have k1:=K (Bk.below (g:=w.heap.size+1) (t:=158) (cs:=#[fv KO kE]) (Bk.bZ (by simp) _ _) ai (by simp));have aW:Hid (φ w w1):=K ((((ό _ _).alloc (ϊ _) _).alloc (by simp) _).trans (ai.mono (by simp;omega)));clear ai))
 go_ret;refine⟨w1.heap.size,rfl,k0.e.alloc _,k1.e.alloc _,?_,by omega,aW.e.alloc (by omega) _⟩;rw[<-HG.e];exact Bk.bZ rfl _ _
def alg{l:List Cut}(hl:Row w B 2 Cut.R lv l)(hB:B<=w.heap.size)(zx:l.length<=1000)(hp:∃A n c,pv=E A n c)(hb:∃A n c,bv=E A n c)(ht:∃A n c,tv=E A n c)(V:∃A n c,sv=E A n c):
 ύ prog 234 #[η #[Y I b.ab,pv,bv,tv,sv,.map (J g)],lv] w λe w'=>e=Ω (Y I (jX l).length)/\φ w w':=by
 have aG:=K (taken (w:=w.alloc (Ξ #[Y I b.ab,pv,bv,tv,sv,.map (J g)] 151)) (hl.still ((Δ.refl w).alloc hB _) λ_ _ h=>h) (by simp;omega) zx);obtain⟨A1,n1,c1,rfl⟩:=hp;obtain⟨A2,n2,c2,rfl⟩:=hb;obtain⟨A3,n3,c3,rfl⟩:=ht;obtain⟨A4,n4,c4,rfl⟩:=V;obtain⟨A,n,c,rfl,-⟩:=hl.Φ;clear hl;go_enter func234,Tryz.ntmps234;go_wp2_with (first
  | (go_at_call 235;refine aG.e.mono ?_;rintro e w1 ⟨u,rfl,aH,ai⟩
     obtain⟨A9,m9,c9,rfl⟩:=iI aH;have hm:Hid ((m9:Int)=(jX l).length):=K (by
      rcases aH.2 with⟨h1,h2⟩ | ⟨_,_,_,h1,_⟩
      ·cases h1;rw[h2]
      ·cases h1;rfl)
     have HB:=K (da (ό _ _) ai (ϊ _));clear ai aH))
 go_ret;exact⟨bm hm.e,HB.e⟩
def iG(m k:Nat):Bool:= !(m.testBit k)
def adh{m:Nat}(hm:m<8)(hk:k<3)(hg:Bk w g 3 #[Y I m]):
 ύ prog 171 (#[Y I k]++#[π (J ⟨g,0,H⟩)]) w λe w'=>e=Ω (.bool (iG m k))/\φ w w':=by
 refine app1 ?_;have g0: w.cell? ⟨g,0,H⟩=J (Y I m):=hg.cell 0;clear hg;go_enter func171,Tryz.ntmps171;go_wp2;go_ret;refine⟨bU ?_,ό _ _⟩
 match m,hm,k,hk with
 |0,_,0,_=>rfl
 |0,_,1,_=>rfl
 |0,_,2,_=>rfl
 |1,_,0,_=>rfl
 |1,_,1,_=>rfl
 |1,_,2,_=>rfl
 |2,_,0,_=>rfl
 |2,_,1,_=>rfl
 |2,_,2,_=>rfl
 |3,_,0,_=>rfl
 |3,_,1,_=>rfl
 |3,_,2,_=>rfl
 |4,_,0,_=>rfl
 |4,_,1,_=>rfl
 |4,_,2,_=>rfl
 |5,_,0,_=>rfl
 |5,_,1,_=>rfl
 |5,_,2,_=>rfl
 |6,_,0,_=>rfl
 |6,_,1,_=>rfl
 |6,_,2,_=>rfl
 |7,_,0,_=>rfl
 |7,_,1,_=>rfl
 |7,_,2,_=>rfl
def alm{x:Int}(h:x∈Lib.compact zs):x∈zs:=by
 unfold Lib.compact Lib.compactUpTo at h;simp only[ô,List.mem_filter,Ď] at h;obtain⟨j,⟨hj,_⟩,rfl⟩:=h;have:zs.toArray[j]! =zs[j]:=by simp[hj]
 rw[this];exact List.getElem_mem hj
def aln{l:List Cut}{x:Int}(h:x∈jX l):∃c∈l,c.bt=x:=by have h1:=alm h;unfold fQ at h1;rw[List.mem_mergeSort] at h1;simpa using h1
def AE(b:eR)(k:Int):Int:=match b.aC[k.toNat]? with
 |some x=>x.aL
 |none=>0
def mV(b:eR)(l:List Int):Int:=(l.map (AE b)).sum
def akx(b:eR)(l:List Int)(k:Int):mV b (l++ [k])=mV b l+AE b k:=by simp[mV]
def Xm{b:eR}(h:∀x∈b.aC,0<=x.aL/\x.aL<=40):∀l:List Int,0<=mV b l/\mV b l<=40 * l.length
 | []=>⟨by simp[mV],by simp[mV]⟩
 |k::l=>by
  have ih:=Xm h l;have:mV b (k::l)=AE b k+mV b l:=by simp[mV]
  rw[this];have h1:0<=AE b k/\AE b k<=40:=by
   unfold AE;cases e:b.aC[k.toNat]? with
   |none=>simp|some x=>exact h x (ϡ e)
  simp only[Ė,Int.natCast_add];omega
def ff:List Cut->List Cut->Int
 | [],[]=>0
 | [],_::_=> -1
 |_::_,[]=>1
 |a::x,c::y=>if fO a c≠0 then fO a c else ff x y
def ME:∀ {i:Nat} {l m:List Cut} {c d:Cut},l[i]?=J c->m[i]?=J d->(∀(j:Nat) (c d:Cut),j<i->l[j]?=J c->m[j]?=J d->fO c d=0)->fO c d≠0->ff l m=fO c d
 |0,a::l,b::m,c,d,hc,hd,_,h=>by simp at hc hd;subst hc;subst hd;unfold ff;rw[if_pos h]
 |i+1,a::l,b::m,c,d,hc,hd,h0,h=>by have:=h0 0 a b (by omega) rfl rfl;unfold ff;rw[if_neg (by simpa using this)];exact ME (i:=i) (by simpa using hc) (by simpa using hd) (λj c d hj hc hd=>h0 (j+1) c d (by omega) (by simpa using hc) (by simpa using hd)) h
 |0,[],_,_,_,hc,_,_,_=>by simp at hc
 |i+1,[],_,_,_,hc,_,_,_=>by simp at hc
 |0,_::_,[],_,_,_,hd,_,_=>by simp at hd
 |i+1,_::_,[],_,_,_,hd,_,_=>by simp at hd
def TE:∀ {l m:List Cut},l.length=m.length->(∀(j:Nat) (c d:Cut),l[j]?=J c->m[j]?=J d->fO c d=0)->ff l m=0
 | [],[],_,_=>rfl
 |a::l,b::m,hl,h=>by have:=h 0 a b rfl rfl;unfold ff;rw[if_neg (by simpa using this)];exact TE (by simpa using hl) λj c d hc hd=>h (j+1) c d (by simpa using hc) (by simpa using hd)
def K3(c:Cut):Prop:=0<=c.bt/\c.bt<=1000/\0<=c.from_/\c.from_<=1000
def aj4{l m:List Cut}(hl:Row w B 2 Cut.R lv l)(hm:Row w B 2 Cut.R mv m)(hB:B<=w.heap.size)(VI:l.length=m.length)(sl:∀c∈l,K3 c)(sm:∀c∈m,K3 c):
 ύ prog 172 #[lv,mv,.func (.func 173) #[] #[]] w λe w'=>e=Ω (Y I (ff l m))/\φ w w':=by
 obtain⟨A1,n1,c1,rfl,e1,h1,du,r1⟩:=hl.Φ;obtain⟨A2,n2,c2,rfl,e2,h2,ei,r2⟩:=hm.Φ;obtain rfl:n1=n2:=by omega
 unfold ϕ at du ei;have HE:=K (Ϗ e1 (Ϗ e2 (Ϗ VI (Ϗ sl sm))));have H1:=K r1;have H2:=K r2;clear hl hm e1 e2 r1 r2 VI sl sm;go_enter func172,Tryz.ntmps172;go_wp2;go_loopw [13] (λu wr=>∃i:Nat,i<=n1/\u=Y I i/\Hid (∀(j:Nat) (c d:Cut),j<i->l[j]?=J c->m[j]?=J d->fO c d=0)/\Hid (φ w wr)) (λu _=>n1 - (ϑ u).toNat)
 case atStart=>exact⟨0,ϛ _,rfl,K (λj c d hj=>by omega),K (ό _ _)⟩
 case round=>
  obtain⟨i,hi,rfl,hz,hb⟩:=hrel;have aN:=hb.e.size;by_cases ao:i<n1
  ·obtain⟨er,c,wT,aeO,K5,hc,rfl,-,NT⟩:=H1.e i ao;obtain⟨cR,d,ju,DX,gT,hd,rfl,-,fa⟩:=H2.e i ao;subst aeO;subst DX;have st:Δ B w wr:=Δ.aJ hb.e hB;have g0:=cA NT st K5 rfl;have g1:=bj NT st K5 0 rfl;have f0:=cA fa st gT rfl;have f1:=bj fa st gT 0 rfl;have b1:(er.add (i * 2)).block<wr.heap.size:=by rw[b9];omega
   have b2:(cR.add (i * 2)).block<wr.heap.size:=(by rw[b9];omega);have b2':(cR.add (i * 2)).block<=wr.heap.size:=(by omega);have fh:=HE.e.2.2.2.1 c (ϡ hc);have EA:=HE.e.2.2.2.2 d (ϡ hd);have aG:=K (λW:N=>less (c:=c) (d:=d) (w:=W) fh.1 EA.1 fh.2.2.1 EA.2.2.1 fh.2.1 EA.2.1 fh.2.2.2 EA.2.2.2)
   have HX:=K (Ϗ hc hd);have ky:decide ((i:Int)>=(n1:Int))=U:=by simp;omega
   clear hc hd NT fa st fh EA;by_cases h0:fO c d=0
   ·go_wp2_with (first
     | (go_at_call 173;refine(aG.e _).mono ?_;rintro e w1 ⟨rfl,ai⟩;have aW:=K ((hb.e.trans (((ό _ _).alloc aN _).alloc (by simp;omega) _)).trans (ai.mono (by simp;omega)));clear ai))
    go_roundw;case rel=>exact⟨i+1,by omega,by go_num,K (λj c' d' hj h1 h2=>by
     rcases Ϯ.1 hj with h|rfl
     ·exact hz.e j c' d' h h1 h2
     ·rw[HX.e.1] at h1;rw[HX.e.2] at h2;cases h1;cases h2;exact h0),aW⟩
    case measure=>simp[ϑ];omega
   ·obtain⟨q,hq⟩:∃q,q=fO c d:=⟨_,rfl⟩
    have HQ:=K hq;rw[<-hq] at h0 aG;clear hq;go_wp2_with (first
     | (go_at_call 173;refine(aG.e _).mono ?_;rintro e w1 ⟨rfl,ai⟩;have aW:=K ((hb.e.trans (((ό _ _).alloc aN _).alloc (by simp;omega) _)).trans (ai.mono (by simp;omega)));clear ai))
    go_ret;exact⟨bm (by rw[HQ.e];exact(ME HX.e.1 HX.e.2 hz.e (by rw[<-HQ.e];exact h0)).symm),aW.e⟩
  ·obtain rfl:i=n1:=by omega
   go_wp2;go_ret;exact⟨bm (TE HE.e.2.2.1 (λj c d h1 h2=>hz.e j c d (by have:=(Ϫ.1 h1).1;have:=HE.e.1;omega) h1 h2)).symm,hb.e⟩
def Ug(l:List Int):l.flatMap (λk=> [Y I k])=l.map (Y I):=by
 induction l with
 |nil=>rfl
 |cons a l ih=>rw[č,List.map_cons,ih];rfl
def CF{base:Nat}(h:w.ownsRow base e 1 v l.length (l.map (Y I))):Row w w.heap.size 1 bI v l:=
 mZ (f:=λk:Int=> [Y I k]) (by rw[Ug];exact h) (λ_=>rfl) (λ_ _=>rfl)
def alh{l:List Cut}(ah:aQ w B b pv bv tv)(hl:Row w B 2 Cut.R lv l)(hB:B<=w.heap.size)(zx:l.length<=1000)(V:∃A n c,sv=E A n c)
 (cD:∀c∈l,∃k:Nat,c.bt=k/\k<b.aC.length)(sY:∀x∈b.aC,0<=x.aL/\x.aL<=40):
 ύ prog 236 #[η #[Y I b.ab,pv,bv,tv,sv,.map (J g)],lv] w λe w'=>e=Ω (Y I (mV b (jX l)))/\φ w w':=by
 have aG:=K (taken (w:=w.alloc (Ξ #[Y I b.ab,pv,bv,tv,sv,.map (J g)] 151)) (hl.still ((Δ.refl w).alloc hB _) λ_ _ h=>h) (by simp;omega) zx);have bD:=K ah;obtain⟨A1,n1,c1,rfl,-⟩:=ah.pieces.Φ;obtain⟨A2,n2,c2,rfl,e2,h2,ei,r2⟩:=ah.aC.Φ;obtain⟨A3,n3,c3,rfl,-⟩:=ah.aI.Φ;obtain⟨A4,n4,c4,rfl⟩:=V;obtain⟨A,n,c,rfl,sV,-⟩:=hl.Φ;unfold ϕ at ei;have nR:(jX l).length<=1000:=by
  unfold jX;have:=TG (fQ (l.map (·.bt)));have h2:(fQ (l.map (·.bt))).length=l.length:=by simp[fQ]
  omega
 have E2:=K (Ϗ e2 (Ϗ cD (Ϗ sY nR)));have H2:=K r2;clear hl ah e2 r2 cD sY sV nR;go_enter func236,Tryz.ntmps236;go_wp2_with (first
  | (go_at_call 235;refine aG.e.mono ?_;rintro e w1 ⟨u,rfl,aH,ai⟩
     have dE:=CF aH;obtain⟨A9,m9,c9,rfl,dh,kW,fg,jz⟩:=dE.Φ;have mz:=K (Ϗ dh jz);have kk:=K (Bk.below (g:=w.heap.size) (t:=151) (cs:=#[Y I b.ab,E A1 n1 c1,E A2 n2 c2,E A3 n3 c3,E A4 n4 c4,.map (J g)]) (Bk.new w _ _) ai (by simp))
     have aW:=K (da (ό _ _) ai (ϊ _));clear ai aH dE dh jz))
 unfold ϕ at fg;go_loopw [5,11] (λs u wr=>∃i:Nat,i<=m9/\u=Y I i/\s=Y I (mV b ((jX l).take i))/\wr=w1) (λ_ u _=>m9 - (ϑ u).toNat);case atStart=>exact⟨0,ϛ _,rfl,by simp[mV],rfl⟩
 case round=>
  obtain⟨i,hi,rfl,rfl,rfl⟩:=hrel;have agy:((jX l).take i).length<=1000:=by have:=E2.e.2.2.2;simp;omega
  have hle:=Xm (b:=b) E2.e.2.2.1 ((jX l).take i);obtain⟨S,hS⟩:∃S,S=mV b ((jX l).take i):=⟨_,rfl⟩
  rw[<-hS] at hle |-;have HS:=K hS;have Ii:0<=S:=hle.1;have gS:S<=40000:=by have:=hle.2;omega
  clear hS hle agy;by_cases ao:i<m9
  ·obtain⟨ad,k,cs,lZ,aE,hk,rfl,-,aq⟩:=mz.e.2 i ao;subst lZ;have g0: wr.cell? (ad.add i)=J (Y I k):=by have:=cA aq (Δ.refl wr) aE (u:=Y I k) rfl;rwa[Ì] at this
   obtain⟨c0,jS,fV⟩:=aln (ϡ hk);obtain⟨kn,cP,zU⟩:=E2.e.2.1 c0 jS;obtain rfl:k=kn:=(by rw[<-fV,cP]);have qw:kn<n2:=(by have:=E2.e.1;omega);have rS:(kn:Int)<n2:=(by omega);obtain⟨cR,x,ju,DX,gT,hx,⟨kvv,rfl,dD,-⟩,-,fa⟩:=H2.e kn qw;subst DX;have st:Δ B w wr:=Δ.aJ aW.e hB;have x1: wr.cell? ⟨(cR.add (kn * 3)).block,(cR.add (kn * 3)).off+1,H⟩=J (Y I x.aL):=bj fa st gT 0 rfl;have p2: wr.cell? ⟨w.heap.size,2,H⟩=J (E (J cR) n2 c2):=kk.e.cell 2;have Cx:=E2.e.2.2.1 x (ϡ hx);have xW:0<=x.aL:=Cx.1;have O6:x.aL<=40:=Cx.2;have HK:=K (Ϗ hk hx);clear hk hx aq fa fV cP st dD Cx jS;go_wp2;go_roundw;case rel=>exact⟨i+1,by omega,by go_num,by rw[pT HK.e.1,akx,<-HS.e];unfold AE;simp[HK.e.2],trivial⟩
   case measure=>simp[ϑ];omega
  ·obtain rfl:i=m9:=by omega
   go_wp2;go_ret;exact⟨bm (by rw[HS.e,Õ (ò mz.e.1)]),aW.e⟩
def J1{b:eR}(hv:Valid b){n:al}{out:Nat->Bool}:∀(f:Nat) (cs full:List Cut),(∀c∈cs,q9 b c)->search b n out f cs=J full->full.length=cs.length+f/\∀c∈full,q9 b c
 |0,cs,full,h,V=>by unfold search at V;cases V;exact⟨rfl,h⟩
 |f+1,cs,full,h,V=>by
  unfold search at V;obtain⟨k,hk,V⟩:=Ĵ V;unfold jM at V;split at V
  ·cases V
  ·obtain⟨fr,cq,V⟩:=Ĵ V;unfold jY at V;split at V
   ·have kU:k<b.aC.length:=by simpa using hk
    have N9:fr<kF b k:=(by simpa using cq);have hc:q9 b ⟨k,fr⟩:=by
     refine⟨⟨k,rfl,kU⟩,?_⟩;unfold kF at N9;cases e:b.aC[k]? with
     |none=>simp[e] at N9
     |some x=>simp only[e] at N9;have:=(hv.bt x (ϡ e)).aL;show 0<=(fr:Int)/\(fr:Int)<=40;omega
    have:=J1 hv f (cs++ [⟨k,fr⟩]) full (λc vf=>by
     rcases ĉ.1 vf with h1|h1
     ·exact h c h1
     ·simp at h1;subst h1;exact hc) V
    refine⟨by rw[this.1];simp;omega,this.2⟩
   ·cases V
def mF(mI:List Cut->Int)(st:Option (List Cut×Int))(l:List Cut):Option (List Cut×Int):=match st with
 |none=>J (l,mI l)
 |some (c,m)=>if mI l<m\/(mI l=m/\ff l c<0) then J (l,mI l) else J (c,m)
def sH(b:eR)(n:al)(mI:List Cut->Int)(st:Option (List Cut×Int))(m:Nat):Option (List Cut×Int):=match search b n (iG m) b.pieces.length [] with
 |none=>st
 |some l=>mF mI st l
def ga(b:eR)(n:al)(mI:List Cut->Int)(M:Nat):Option (List Cut×Int):=(ϣ M).foldl (sH b n mI) H
def pn(b:eR)(n:al)(mI:List Cut->Int)(M:Nat):ga b n mI (M+1)=sH b n mI (ga b n mI M) M:=by simp[ga,œ]
def mr(b:eR)(c:List Cut):Prop:=c.length=b.pieces.length/\∀x∈c,q9 b x
def G8{b:eR}(hv:Valid b){n:al}{mI:List Cut->Int}:∀(M:Nat) (c:List Cut) (m:Int),ga b n mI M=J (c,m)->mr b c
 |0,c,m,h=>by simp[ga] at h
 |M+1,c,m,h=>by
  rw[pn] at h;unfold sH at h;split at h
  ·exact G8 hv M c m h
  ·rename_i l hl;have hg:mr b l:=by
    have:=J1 hv _ [] l (by simp) hl;exact⟨by simpa using this.1,this.2⟩
   unfold mF at h;split at h
   ·simp at h;rw[<-h.1];exact hg
   ·split at h
    ·simp at h;rw[<-h.1];exact hg
    ·rename_i c' m' heq _;simp at h;rw[<-h.1];exact G8 hv M c' m' heq
def YH(hv:Valid b){c:List Cut}(h:mr b c):∀x∈c,K3 x:=λx hx=>by obtain⟨⟨k,hk,eD⟩,h2⟩:=h.2 x hx;have:=hv.nb;exact⟨by omega,by omega,h2.1,by have:=h2.2;omega⟩
def LK(b:eR)(pv bv tv:z)(KM:Nat)(mI:List Cut->Int)(w:N)(B:Nat):Prop:=
 (∀args w,(callFunc KM args).run prog w=.ok (.enter KM args) w)/\∀(W:N) (sv lv:z) (g:Nat) (l:List Cut),Δ B w W->B<=W.heap.size->(∃A n c,sv=E A n c)->Row W W.heap.size 2 Cut.R lv l->mr b l->
   ύ prog KM #[η #[Y I b.ab,pv,bv,tv,sv,.map (J g)],lv] W λe W'=>e=Ω (Y I (mI l))/\φ W W'
def mD(W:N)(base np:Nat)(st:Option (List Cut×Int))(cv mv fv:z):Prop:=match st with
 |none=>cv=E H 0 0/\mv=Y I 0/\fv=.bool U
 |some (c,m)=>W.ownsRow base 56 2 cv np (c.flatMap Cut.vs)/\mv=Y I m/\fv=.bool D
def acz(w:N)(b:eR)(st:Option (List Cut×Int))(e:Ŏ)(w':N):Prop:=
 ∃cv mv fv,e=Ω (μ #[cv,mv,fv,Y I 0])/\mD w' w.heap.size b.pieces.length st cv mv fv/\φ w w'
def aoY(h:n<=3):wrap64 ((2:Int) ^ n)=((2 ^ n:Nat):Int):=by
 match n,h with
 |0,_=>simp[wrap64]
 |1,_=>simp[wrap64]
 |2,_=>simp[wrap64]
 |3,_=>simp[wrap64]
def SU{mI:List Cut->Int}{c l:List Cut}(h:mI l<m\/(mI l=m/\ff l c<0)):mF mI (J (c,m)) l=J (l,mI l):=by show(if mI l<m\/(mI l=m/\ff l c<0) then J (l,mI l) else J (c,m))=_;rw[if_pos h]
def SS{mI:List Cut->Int}{c l:List Cut}(h:¬ (mI l<m\/(mI l=m/\ff l c<0))):mF mI (J (c,m)) l=J (c,m):=by show(if mI l<m\/(mI l=m/\ff l c<0) then J (l,mI l) else J (c,m))=_;rw[if_neg h]
def mD.base{W:N}{base fB np:Nat}{st:Option (List Cut×Int)}{cv mv fv:z}(h:mD W base np st cv mv fv)(hb:fB<=base):mD W fB np st cv mv fv:=by
 unfold mD at h |-;cases st with
 |none=>exact h
 |some p=>exact⟨World.ownsRow.base h.1 hb,h.2⟩
def Rx{base:Nat}{sz:Nat}(h:w.ownsRow base e sz v n xs)(hk:dS w g b)(hg:w.grownBy w' (J g)):w'.ownsRow base e sz v n xs:=by
 refine⟨h.1,?_⟩;rcases h.2 with h0| ⟨q,cap,cur,h1,h2,h3,h4⟩
 ·exact .inl h0
 ·obtain⟨es,clock,k1,_⟩:=hk;exact .inr ⟨q,cap,cur,h1,h2,(hg.block q (Ϝ.1 h3).1 (λe=>by cases e;rw[k1] at h3;cases h3)).trans h3,h4⟩
def afR{X:cY}(ok:X.Ok B)(hB:B<=X.w.heap.size)(hk:dS X.w X.gm X.b)(V:search X.b X.n X.e X.np []=H):
 ύ prog 170 #[fv 174 #[π (J ⟨X.gs,0,H⟩),π (J ⟨X.go,0,H⟩),π (J ⟨X.gn,0,H⟩)]] X.w λe W'=>e=Ω (μ #[E H 0 0,.bool U])/\X.w.grownBy W' (J X.gm)/\dS W' X.gm X.b:=
 (Ud ok hB hk).mono λe W' ⟨h1,h2,h3⟩=>by
   rcases h1 with⟨full,v,k1,_,_⟩ | ⟨_,k2⟩
   ·rw[V] at k1;cases k1
   ·exact⟨k2,h2,h3⟩
def afS{X:cY}(ok:X.Ok B)(hB:B<=X.w.heap.size)(hk:dS X.w X.gm X.b){full:List Cut}(V:search X.b X.n X.e X.np []=J full):
 ύ prog 170 #[fv 174 #[π (J ⟨X.gs,0,H⟩),π (J ⟨X.go,0,H⟩),π (J ⟨X.gn,0,H⟩)]] X.w λe W'=>∃v,e=Ω (μ #[v,.bool D])/\W'.ownsRow X.w.heap.size 56 2 v X.np (full.flatMap Cut.vs)/\X.w.grownBy W' (J X.gm)/\dS W' X.gm X.b:=
 (Ud ok hB hk).mono λe W' ⟨h1,h2,h3⟩=>by
   rcases h1 with⟨Ut,v,k1,k2,k3⟩ | ⟨k1,_⟩
   ·rw[V] at k1;cases k1;exact⟨v,k2,k3,h2,h3⟩
   ·rw[V] at k1;cases k1
def UC:∀(l:List al),(∀ω∈l,ω.Ok)->(cB l).Ok:=by
 have key:∀(l:List al) (M:al),M.Ok->(∀ω∈l,ω.Ok)->(l.foldl (λM x=>iq M x 3) M).Ok:=by
  intro l;induction l with
  |nil=>intro M h _;exact h
  |cons a l ih=>
   intro M h hl;refine ih _ ?_ λω hL=>hl ω (by simp[hL]);have ha:=hl a (by simp);have a0:=ha 0;have a1:=ha 1;have a2:=ha 2
   have m0:=h 0;have m1:=h 1;have m2:=h 2
   simp only[al.at] at a0 a1 a2 m0 m1 m2;intro q;unfold al.at iq;by_cases h0:q=0
   ·subst h0;simp at *;split<;>omega
   ·by_cases h1:q=1
    ·subst h1;simp at *;split<;>omega
    ·simp[h0,h1] at *;split<;>omega
 exactλl hl=>key l _ (λq=>by unfold al.at;simp) hl
def CZ(w2:N)(b:eR)(pv bv tv sv:z)(ps:List al)(gs gn g KO:Nat)(kE:Array z)(out:Nat->Bool):cY:=
 ⟨w2,b,pv,bv,tv,sv,cB ps,gs,gs+1,gn,g,KO,kE,out,0⟩
def Qq{w2 Wa:N}{ps:List al}{gn:Nat}{out:Nat->Bool}(ah:aQ w2 B b pv bv tv)(hv:Valid b)(vv:∀ω∈ps,ω.Ok)(nQ:∃A n c,sv=E A n c)
 (Nk:B<=g)(IB:g<Wa.heap.size)(k0:Bk w2 Wa.heap.size 151 #[Y I b.ab,pv,bv,tv,sv,.map (J g)])(k1:Bk w2 (Wa.heap.size+1) 158 #[fv KO kE])(k2:Bk w2 gn 128 (cB ps).cs)(xz:Wa.heap.size<=gn)
 (eg:∀args w,(callFunc KO args).run prog w=.ok (.enter KO args) w)(ho:∀(k:Nat) (W:N),k<b.aC.length->w2.grownBy W (J g)->ύ prog KO (#[Y I k]++kE) W λe W'=>e=Ω (.bool (out k))/\φ W W'):
 (CZ w2 b pv bv tv sv ps Wa.heap.size gn g KO kE out).Ok B:=
 ⟨ah,hv,UC ps vv,nQ,Nk,k0.lt,k1.lt,k2.lt,by show g<w2.heap.size;have:=k0.lt;omega,by show Wa.heap.size≠g;omega,by show Wa.heap.size+1≠g;omega,by show gn≠g;omega,k0,k1,k2,eg,ho⟩
def SW{mI:List Cut->Int}(hB:B<=w.heap.size)(ah:aQ w B b pv bv tv)(hM:LK b pv bv tv KM mI w B)(h:bT b 0=0):
 ύ prog 117 #[η #[Y I b.ab,pv,bv,tv],η #[.func (.func KM) #[] #[]]] w (acz w b (ga b (cB (aB b)) mI (2 ^ b.aC.length))):=by
 have st:Δ B w ((w.alloc (Ξ #[Y I b.ab,pv,bv,tv] 26)).alloc (Ξ #[.func (.func KM) #[] #[]] 145)):=((Δ.refl w).alloc hB _).alloc (by simp;omega) _;have aG:=K (Qw (w:=((w.alloc (Ξ #[Y I b.ab,pv,bv,tv] 26)).alloc (Ξ #[.func (.func KM) #[] #[]] 145))) (B:=B) (by simp;omega) (ah.still st) h);have hv:=fG (mX h).1;have HV:=K hv;have bD:=K ah;have yT:=K hM.2;have egM:=hM.1;have eQ:=hv.nb;obtain⟨A1,n1,c1,rfl,-⟩:=ah.pieces.Φ;obtain⟨A2,n2,c2,rfl,e2,h2,ei,-⟩:=ah.aC.Φ;obtain⟨A3,n3,c3,rfl,-⟩:=ah.aI.Φ;have iW:n2<=3:=by omega
 have xQ:=aoY iW;obtain⟨M,Ih⟩:∃M,M=2 ^ n2:=⟨_,rfl⟩
 rw[<-Ih] at xQ;have hM8:M<=8:=by rw[Ih];exact Ail (n:=2) (by omega) iW
 have E2:=K (Ϗ e2 Ih);clear Ih;unfold ϕ at ei;clear ah hM st h hv eQ e2;go_enter func117,Tryz.ntmps117;go_wp2_with (first
  | (go_at_call 119;refine aG.e.mono ?_;rintro e w1 ⟨sv,g,rfl,aH,cP,hg,ai⟩
     obtain⟨A9,m9,c9,rfl⟩:=iI aH;have kb:=Bk.below (g:=w.heap.size) (t:=26) (cs:=#[Y I b.ab,E A1 n1 c1,E A2 n2 c2,E A3 n3 c3]) ((Bk.new w _ _).alloc _) ai (by simp;omega)
     have km:=Bk.below (g:=w.heap.size+1) (t:=145) (cs:=#[.func (.func KM) #[] #[]]) (Bk.bZ (by simp) _ _) ai (by simp);have b2: w1.cell? ⟨w.heap.size,2,H⟩=J (E A2 n2 c2):=kb.cell 2;have aO:w.heap.size+2<=w1.heap.size:=by have:=ai.size;simpa using this
     have aZ:w.heap.size<w1.heap.size:=(by omega);have gw:w.heap.size<=w1.heap.size:=(by omega);have oK:w.heap.size+2<=g:=(by simpa using hg);have aW:Hid (φ w w1):=K ((((ό _ _).alloc (ϊ _) _).alloc (by simp) _).trans (ai.mono (by simp;omega)));have FR:=K (Ϗ aH (Ϗ cP (Ϗ kb km)));clear ai aH cP kb km hg))
 obtain⟨G,UL⟩:∃G,G=cB (aB b):=⟨_,rfl⟩
 have HGD:=K UL;clear UL;rw[xQ];clear xQ;go_loopw [4,5,6,25] (λc m f u wr=>∃i:Nat,i<=M/\u=Y I i/\Hid (mD wr (w1.heap.size+1) b.pieces.length (ga b (cB (aB b)) mI i) c m f)/\Hid ((w1.alloc (Ξ #[Y I b.ab,E A1 n1 c1,E A2 n2 c2,E A3 n3 c3,E A9 m9 c9,.map (J g)] 151)).grownBy wr (J g))/\Hid (dS wr g b)) (λ_ _ _ u _=>M - (ϑ u).toNat);case atStart=>exact⟨0,ϛ _,rfl,K (by simp[ga,mD]),K (World.grownBy.refl _ _),K (FR.e.2.1.grown (Â w1 _ H) (by simp))⟩
 case round=>
  obtain⟨i,hi,rfl,eW,hG,hK⟩:=hrel;have hgw:g<w1.heap.size:=FR.e.2.1.lt;have sd:w1.heap.size+1<=wr.heap.size:=by have:=hG.e.size;simpa using this
  have AB:Bk wr w1.heap.size 151 #[Y I b.ab,E A1 n1 c1,E A2 n2 c2,E A3 n3 c3,E A9 m9 c9,.map (J g)]:=(Bk.new w1 _ _).grown hG.e (by simp;omega);have r0:=AB.cell 0;have r1:=AB.cell 1;have r2:=AB.cell 2;have r3:=AB.cell 3;have r4:=AB.cell 4;have r5:=AB.cell 5;have V4:fx wr (w.heap.size+2) (E A9 m9 c9) (aB b):=by have h0:fx w1 (w.heap.size+2) (E A9 m9 c9) (aB b):=(by have:=FR.e.1;simpa using this);have h1:=h0.alloc (Ξ #[Y I b.ab,E A1 n1 c1,E A2 n2 c2,E A3 n3 c3,E A9 m9 c9,.map (J g)] 151);exact Rx h1 (FR.e.2.1.grown (Â w1 _ H) (by simp)) hG.e
  have dE:Row (wr.alloc (Ξ #[Y I i] 3)) wr.heap.size 3 al.R (E A9 m9 c9) (aB b):=V4.row.still ((Δ.refl wr).alloc (ϊ _) _) λ_ _ h=>h;clear AB V4;by_cases ao:i<M
  ·have a1:w1.heap.size<wr.heap.size:=by omega
   have a2:w1.heap.size<=wr.heap.size:=(by omega);cases V:search b (cB (aB b)) (iG i) b.pieces.length [] with
   |none=>
    have NX:Hid (ga b (cB (aB b)) mI (i+1)=ga b (cB (aB b)) mI i):=K (by rw[pn];unfold sH;rw[V]);go_wp2_with (first
     | (go_at_call 122;refine(ML (B:=wr.heap.size) (ps:=aB b) dE (by simp) ⟨_,_,_,rfl⟩ ⟨_,_,_,rfl⟩ ⟨_,_,_,rfl⟩).mono ?_;rintro e w2 ⟨gn,rfl,k0,k1,k2,xz,an⟩
        have aZ:wr.heap.size+1<=w2.heap.size:=(by have:=an.size;simpa using this);have xy:wr.grownBy w2 (J g):=(Â wr (Ξ #[Y I i] 3) _).trans (jQ an (ϊ _) _);have eD:dS w2 g b:=hK.e.grown (row:=H) ((Â wr (Ξ #[Y I i] 3) _).trans (jQ an (ϊ _) _)) (by simp)
        have FH:Bk w2 wr.heap.size 3 #[Y I i]:=(Bk.new wr _ _).below an (by simp);have hX:=Qq (KO:=171) (kE:=#[π (J ⟨wr.heap.size,0,H⟩)]) (out:=iG i) (B:=B) (bD.e.still ((Gj ((jQ aW.e (ϊ _) _).trans ((Â w1 (Ξ #[Y I b.ab,E A1 n1 c1,E A2 n2 c2,E A3 n3 c3,E A9 m9 c9,.map (J g)] 151) _).trans (hG.e.trans xy))) (by omega) hB))) HV.e (wI HV.e) ⟨_,_,_,rfl⟩ (by omega) (by simp;omega) k0 k1 k2 xz call171 (λk W hk ew=>adh (by omega) (by have:=HV.e.nb;omega) (FH.grown ew (by simp;omega)));have zd:=afR hX (by show B<=w2.heap.size;omega) eD V;simp only[CZ,Ahl] at zd;have K0:=K zd;have wv:=K (Ϗ xy eD);clear an k0 k1 k2 xy eD FH hX zd)
     | (go_at_call 170;refine K0.e.mono ?_;rintro e w3 ⟨rfl,xx,jx⟩;have jo:=K (Ϗ xx jx);clear xx jx))
    go_roundw;case rel=>exact⟨i+1,by omega,by go_num,K (by
     have h0:=eW.e;rw[NX.e];unfold mD at h0 |-
     revert h0
     cases ga b (cB (aB b)) mI i with
     |none=>exact id
     |some p=>
      rintro⟨k1,k2,k3⟩;exact⟨Rx (Rx k1 hK.out wv.e.1) wv.e.2 jo.e.1,k2,k3⟩),
     K (hG.e.trans (wv.e.1.trans jo.e.1)),K jo.e.2⟩
    case measure=>simp[ϑ];omega
   |some l=>
    have kA:mr b l:=(by have:=J1 HV.e _ [] l (by simp) V;exact⟨by simpa using this.1,this.2⟩);have HL:=K kA;obtain⟨q,hq⟩:∃q,q=mI l:=⟨_,rfl⟩
    have HQ:=K hq;clear kA hq;have NX:Hid (ga b (cB (aB b)) mI (i+1)=mF mI (ga b (cB (aB b)) mI i) l):=K (by rw[pn];unfold sH;rw[V])
    go_wp2_with (first
     | (go_at_call 122;refine(ML (B:=wr.heap.size) (ps:=aB b) dE (by simp) ⟨_,_,_,rfl⟩ ⟨_,_,_,rfl⟩ ⟨_,_,_,rfl⟩).mono ?_;rintro e w2 ⟨gn,rfl,k0,k1,k2,xz,an⟩
        have aZ:wr.heap.size+1<=w2.heap.size:=(by have:=an.size;simpa using this);have xy:wr.grownBy w2 (J g):=(Â wr (Ξ #[Y I i] 3) _).trans (jQ an (ϊ _) _);have eD:dS w2 g b:=hK.e.grown (row:=H) ((Â wr (Ξ #[Y I i] 3) _).trans (jQ an (ϊ _) _)) (by simp)
        have FH:Bk w2 wr.heap.size 3 #[Y I i]:=(Bk.new wr _ _).below an (by simp);have hX:=Qq (KO:=171) (kE:=#[π (J ⟨wr.heap.size,0,H⟩)]) (out:=iG i) (B:=B) (bD.e.still ((Gj ((jQ aW.e (ϊ _) _).trans ((Â w1 (Ξ #[Y I b.ab,E A1 n1 c1,E A2 n2 c2,E A3 n3 c3,E A9 m9 c9,.map (J g)] 151) _).trans (hG.e.trans xy))) (by omega) hB))) HV.e (wI HV.e) ⟨_,_,_,rfl⟩ (by omega) (by simp;omega) k0 k1 k2 xz call171 (λk W hk ew=>adh (by omega) (by have:=HV.e.nb;omega) (FH.grown ew (by simp;omega)));have zd:=afS hX (by show B<=w2.heap.size;omega) eD V;simp only[CZ,Ahl] at zd;have K0:=K zd;have wv:=K (Ϗ xy eD);clear an k0 k1 k2 xy eD FH hX zd)
     | (go_at_call 170;refine K0.e.mono ?_;rintro e w3 ⟨v,rfl,vt,xx,jx⟩
        obtain⟨A8,m8,c8,rfl⟩:=iI vt;have Ie:=hG.e.trans (wv.e.1.trans xx);have AD:Bk w3 w1.heap.size 151 #[Y I b.ab,E A1 n1 c1,E A2 n2 c2,E A3 n3 c3,E A9 m9 c9,.map (J g)]:=(Bk.new w1 _ _).grown Ie (by simp;omega)
        have Xb:Bk w3 (w.heap.size+1) 145 #[.func (.func KM) #[] #[]]:=(FR.e.2.2.2.alloc (Ξ #[Y I b.ab,E A1 n1 c1,E A2 n2 c2,E A3 n3 c3,E A9 m9 c9,.map (J g)] 151)).grown Ie (by simp;omega);have s0:=AD.cell 0;have s1:=AD.cell 1;have s2:=AD.cell 2;have s3:=AD.cell 3;have s4:=AD.cell 4;have s5:=AD.cell 5;have t0: w3.cell? ⟨w.heap.size+1,0,H⟩=J (.func (.func KM) #[] #[]):=Xb.cell 0;have jo:=K (Ϗ xx (Ϗ jx (Ϗ vt Ie)));clear xx jx vt Ie AD Xb))
    have hlen:l.length=b.pieces.length:=HL.e.1;have vt:w3.ownsRow w3.heap.size.pred 56 2 (E A8 m8 c8) l.length (l.flatMap Cut.vs)\/True:=.inr trivial;have OS:Row w3 w3.heap.size 2 Cut.R (E A8 m8 c8) l:=mZ (by rw[hlen];exact jo.e.2.2.1) (λ_=>rfl) (λ_ _=>rfl)
    have Wn:Δ B w w3:=Gj ((jQ aW.e (ϊ _) _).trans ((Â w1 (Ξ #[Y I b.ab,E A1 n1 c1,E A2 n2 c2,E A3 n3 c3,E A9 m9 c9,.map (J g)] 151) _).trans jo.e.2.2.2)) (by omega) hB;have WB:w1.heap.size+1<=w3.heap.size:=(by have:=jo.e.2.2.2.size;simpa using this);have Mv:=yT.e w3 (E A9 m9 c9) (E A8 m8 c8) g l Wn (by omega) ⟨_,_,_,rfl⟩ OS HL.e;rw[<-HQ.e] at Mv;clear hlen vt Wn;refine Mv.mono ?_;rintro e w4 ⟨rfl,cU⟩;have Wd:Row w4 w3.heap.size 2 Cut.R (E A8 m8 c8) l:=OS.still (Δ.aJ cU (ϊ _)) λ_ _ h=>h
    have HF:=K (Ϗ (jo.e.2.2.2.trans (jQ cU (ϊ _) (J g))) (jo.e.2.1.below cU jo.e.2.1.lt));have V3:w4.ownsRow (w1.heap.size+1) 56 2 (E A8 m8 c8) b.pieces.length (l.flatMap Cut.vs):=(si (Rx jo.e.2.2.1 jo.e.2.1 (World.grownBy.refl _ _)) cU (ϊ _)).base (by have:=wv.e.1.size;show w1.heap.size+1<=w2.heap.size;omega)
    have yU:=K V3;have ZM:=K Wd;have sc:=cU.size;have qI:=eW.e;clear OS Wd V3 Mv;cases fC:ga b (cB (aB b)) mI i with
    |none=>
     rw[fC] at qI;obtain⟨rfl,rfl,rfl⟩:=qI;have rm:Hid (mD w4 (w1.heap.size+1) b.pieces.length (mF mI H l) (E A8 m8 c8) (Y I q) (.bool D)):=K ⟨yU.e,by rw[HQ.e],rfl⟩
     clear cU;go_wp2;go_roundw;case rel=>exact⟨i+1,by omega,by go_num,K (by rw[NX.e,fC];exact rm.e),K HF.e.1,K HF.e.2⟩
     case measure=>simp[ϑ];omega
    |some p=>
     obtain⟨c,m⟩:=p;rw[fC] at qI;obtain⟨OL,rfl,rfl⟩:=qI;obtain⟨A7,m7,c7,rfl⟩:=iI OL;have OM:w4.ownsRow (w1.heap.size+1) 56 2 (E A7 m7 c7) b.pieces.length (c.flatMap Cut.vs):=si (Rx (Rx OL hK.out wv.e.1) wv.e.2 jo.e.1) cU (ϊ _);have zT:mr b c:=G8 HV.e i c m fC;have iD:Row w4 w4.heap.size 2 Cut.R (E A7 m7 c7) c:=mZ (by rw[zT.1];exact OM) (λ_=>rfl) (λ_ _=>rfl)
     have K2:=K (aj4 (ZM.e.more sc) iD (ϊ _) (HL.e.1.trans zT.1.symm) (YH HV.e HL.e) (YH HV.e zT));have R0:=K OM;clear cU OL OM zT iD;by_cases h1:q<m
     ·have rm:Hid (mD w4 (w1.heap.size+1) b.pieces.length (mF mI (J (c,m)) l) (E A8 m8 c8) (Y I q) (.bool D)):=K (by
       rw[SU (.inl (by rw[<-HQ.e];exact h1))];exact⟨yU.e,by rw[HQ.e],rfl⟩)
      go_wp2;go_roundw;case rel=>exact⟨i+1,by omega,by go_num,K (by rw[NX.e,fC];exact rm.e),K HF.e.1,K HF.e.2⟩
      case measure=>simp[ϑ];omega
     ·by_cases h2:q=m
      ·subst h2;obtain⟨C,hC⟩:∃C,C=ff l c:=⟨_,rfl⟩
       have HC:=K hC;rw[<-hC] at K2;clear hC;by_cases h3:C<0
       ·have rm:∀w5,φ w4 w5->Hid (mD w5 (w1.heap.size+1) b.pieces.length (mF mI (J (c,q)) l) (E A8 m8 c8) (Y I q) (.bool D)):=λw5 h5=>K (by
           rw[SU (.inr ⟨HQ.e.symm,by rw[<-HC.e];exact h3⟩)];exact⟨si yU.e h5 (ϊ _),by rw[HQ.e],rfl⟩)
        have LB:=K rm;clear rm;go_wp2_with (first
           | (go_at_call 172;refine K2.e.mono ?_;rintro e w5 ⟨rfl,dB⟩;have fS:=K dB;clear dB))
        go_roundw;case rel=>exact⟨i+1,by omega,by go_num,K (by rw[NX.e,fC];exact(LB.e w5 fS.e).e),K (HF.e.1.trans (jQ fS.e (ϊ _) _)),K (HF.e.2.below fS.e HF.e.2.lt)⟩
        case measure=>simp[ϑ];omega
       ·have rm:∀w5,φ w4 w5->Hid (mD w5 (w1.heap.size+1) b.pieces.length (mF mI (J (c,q)) l) (E A7 m7 c7) (Y I q) (.bool D)):=λw5 h5=>K (by
           rw[SS (by rw[<-HQ.e,<-HC.e];omega)];exact⟨si R0.e h5 (ϊ _),rfl,rfl⟩)
        have LB:=K rm;clear rm;go_wp2_with (first
           | (go_at_call 172;refine K2.e.mono ?_;rintro e w5 ⟨rfl,dB⟩;have fS:=K dB;clear dB))
        go_roundw;case rel=>exact⟨i+1,by omega,by go_num,K (by rw[NX.e,fC];exact(LB.e w5 fS.e).e),K (HF.e.1.trans (jQ fS.e (ϊ _) _)),K (HF.e.2.below fS.e HF.e.2.lt)⟩
        case measure=>simp[ϑ];omega
      ·have h4:(q==m)=U:=by simpa using h2
       have rm:Hid (mD w4 (w1.heap.size+1) b.pieces.length (mF mI (J (c,m)) l) (E A7 m7 c7) (Y I m) (.bool D)):=K (by
        rw[SS (by rw[<-HQ.e];omega)];exact⟨R0.e,rfl,rfl⟩)
       go_wp2;go_roundw;case rel=>exact⟨i+1,by omega,by go_num,K (by rw[NX.e,fC];exact rm.e),K HF.e.1,K HF.e.2⟩
       case measure=>simp[ϑ];omega
  ·obtain rfl:i=M:=by omega
   have fS:Hid (φ w wr):=K (aW.e.trans (Ahg ((ό _ _).alloc (by omega) _) hG.e (by simp;omega) (λk e=>by cases e;omega)));go_wp2;refine ø (v:=μ #[u4,u5,u6,Y I 0]) (by simp[results,Tryz.results117,go_sem]) rfl ?_;refine⟨u4,u5,u6,rfl,?_,fS.e⟩;rw[E2.e.1,<-E2.e.2];exact eW.e.base (by omega)
def SV(hB:B<=w.heap.size)(ah:aQ w B b pv bv tv)(h:bT b 0≠0):
 ύ prog 117 #[η #[Y I b.ab,pv,bv,tv],η #[.func (.func KM) #[] #[]]] w λe w'=>e=Ω (μ #[E H 0 0,Y I 0,.bool U,Y I (bT b 0)])/\φ w w':=by
 have st:Δ B w ((w.alloc (Ξ #[Y I b.ab,pv,bv,tv] 26)).alloc (Ξ #[.func (.func KM) #[] #[]] 145)):=((Δ.refl w).alloc hB _).alloc (by simp;omega) _;have aG:=K (ao0 (w:=((w.alloc (Ξ #[Y I b.ab,pv,bv,tv] 26)).alloc (Ξ #[.func (.func KM) #[] #[]] 145))) (B:=B) (by simp;omega) (ah.still st) h);unfold YF at aG;obtain⟨s,V⟩:∃s,s=bT b 0:=⟨_,rfl⟩
 rw[<-V] at aG h |-;obtain⟨A1,n1,c1,A2,n2,c2,A3,n3,c3,rfl,rfl,rfl⟩:=ah.op;clear ah st V;go_enter func117,Tryz.ntmps117;go_wp2_with (first
  | (go_at_call 119;refine aG.e.mono ?_;rintro e w1 ⟨g,rfl,ai⟩
     have aW:Hid (φ w w1):=K ((((ό _ _).alloc (ϊ _) _).alloc (by simp) _).trans (ai.mono (by simp;omega)));clear ai))
 refine ø (v:=μ #[E H 0 0,Y I 0,.bool U,Y I s]) (by simp[results,Tryz.results117,go_sem]) rfl ⟨rfl,?_⟩;exact aW.e.alloc aW.e.size _
def gF(w:N):Prop:=∃fr,w.heap[0]?=J (Ξ #[.func (.func 234) #[] #[],.func (.func 236) #[] #[]] 146 fr)
def gF.cell{w:N}(h:gF w)(i:Nat): w.cell? ⟨0,i,H⟩=(#[.func (.func 234) #[] #[],.func (.func 236) #[] #[]]:Array z)[i]?:=by obtain⟨fr,h⟩:=h;exact cell_of_row w 0 i _ 146 fr h
def gF.lt(h:gF w):0<w.heap.size:=by obtain⟨fr,h⟩:=h;exact(Ϝ.1 h).1
def gF.below(h:gF w)(hb:Γ B w w')(hB:0<B):gF w':=by obtain⟨fr,h⟩:=h;exact⟨fr,(hb.block 0 hB).trans h⟩
def iH(l:List Cut):Int:=(jX l).length
def FO(b:eR)(l:List Cut):Int:=mV b (jX l)
def aju(ah:aQ w B b pv bv tv)(hv:Valid b):LK b pv bv tv 234 iH w B:=by refine⟨call234,λW sv lv g l hW hB V hl hg=>?_⟩;obtain⟨A1,n1,c1,e1,-⟩:=ah.pieces.Φ;obtain⟨A2,n2,c2,e2,-⟩:=ah.aC.Φ;obtain⟨A3,n3,c3,e3,-⟩:=ah.aI.Φ;exact alg (g:=g) hl (ϊ _) (by have:=hg.1;have:=hv.np;omega) ⟨_,_,_,e1⟩ ⟨_,_,_,e2⟩ ⟨_,_,_,e3⟩ V
def ajv(ah:aQ w B b pv bv tv)(hv:Valid b):LK b pv bv tv 236 (FO b) w B:=by
 refine⟨call236,λW sv lv g l hW hB V hl hg=>?_⟩;have NJ:=ah.still hW;have B8:aQ W W.heap.size b pv bv tv:=⟨NJ.pieces.more hB,(NJ.aC.more hB).still (Δ.refl _) λx cs h=>by obtain⟨kv,h1,h2,h3⟩:=h;exact⟨kv,h1,h2,h3.more hB⟩,(NJ.aI.more hB).still (Δ.refl _) λx cs h=>by obtain⟨kv,h1,h2⟩:=h;exact⟨kv,h1,h2.more hB⟩⟩
 exact alh (g:=g) B8 hl (ϊ _) (by have:=hg.1;have:=hv.np;omega) V (λc hc=>(hg.2 c hc).bt) λx hx=>by have:=(hv.bt x hx).aL;omega
def iR(b:eR)(mI:List Cut->Int):Option (List Cut×Int):=if bT b 0=0 then ga b (cB (aB b)) mI (2 ^ b.aC.length) else H
def GI(w:N)(b:eR)(mI:List Cut->Int)(e:Ŏ)(w':N):Prop:=
 ∃cv mv fv,e=Ω (μ #[cv,mv,fv,Y I (bT b 0)])/\mD w' w.heap.size b.pieces.length (iR b mI) cv mv fv/\φ w w'
def Hq(hB:B<=w.heap.size)(ah:aQ w B b pv bv tv)(hg:gF w):
 ύ prog 33 #[η #[Y I b.ab,pv,bv,tv]] w (GI w b iH):=by
 have st:Δ B w (w.alloc (Ξ #[Y I b.ab,pv,bv,tv] 26)):=(Δ.refl w).alloc hB _;have call:ύ prog 117 #[η #[Y I b.ab,pv,bv,tv],η #[.func (.func 234) #[] #[]]] (w.alloc (Ξ #[Y I b.ab,pv,bv,tv] 26)) λe w'=>
  ∃cv mv fv,e=Ω (μ #[cv,mv,fv,Y I (bT b 0)])/\Hid (mD w' w.heap.size b.pieces.length (iR b iH) cv mv fv/\φ w w'):=by
  by_cases h:bT b 0=0
  ·refine(SW (w:=w.alloc (Ξ #[Y I b.ab,pv,bv,tv] 26)) (B:=B) (KM:=234) (by simp;omega) (ah.still st) (aju (ah.still st) (fG (mX h).1)) h).mono ?_;rintro e w' ⟨cv,mv,fv,rfl,h1,h2⟩;refine⟨cv,mv,fv,by rw[h],K ⟨?_,da (ό _ _) h2 (ϊ _)⟩⟩;unfold iR;rw[if_pos h];exact h1.base (by simp)
  ·refine(SV (w:=w.alloc (Ξ #[Y I b.ab,pv,bv,tv] 26)) (B:=B) (KM:=234) (by simp;omega) (ah.still st) h).mono ?_;rintro e w' ⟨rfl,h2⟩;refine⟨_,_,_,rfl,K ⟨?_,da (ό _ _) h2 (ϊ _)⟩⟩;unfold iR;rw[if_neg h];exact⟨rfl,rfl,rfl⟩
 have aG:=K call;obtain⟨s,V⟩:∃s,s=bT b 0:=⟨_,rfl⟩
 rw[<-V] at aG;have HS:=K V;obtain⟨A1,n1,c1,A2,n2,c2,A3,n3,c3,rfl,rfl,rfl⟩:=ah.op;have g0: w.cell? ⟨0,0,H⟩=J (.func (.func 234) #[] #[]):=gF.cell hg 0;have h0:0<w.heap.size:=gF.lt hg;clear ah st hg call V;go_enter func33,Tryz.ntmps33;go_wp2_with (first
  | (go_at_call 117;refine aG.e.mono ?_;rintro e w1 ⟨cv,mv,fv,rfl,Ai⟩))
 refine ø (v:=μ #[cv,mv,fv,Y I s]) (by simp[results,Tryz.results33,go_sem]) rfl ⟨cv,mv,fv,by rw[HS.e],Ai.e.1,Ai.e.2⟩
def ao1(hB:B<=w.heap.size)(ah:aQ w B b pv bv tv)(hg:gF w):
 ύ prog 36 #[η #[Y I b.ab,pv,bv,tv]] w (GI w b (FO b)):=by
 have st:Δ B w (w.alloc (Ξ #[Y I b.ab,pv,bv,tv] 26)):=(Δ.refl w).alloc hB _;have call:ύ prog 117 #[η #[Y I b.ab,pv,bv,tv],η #[.func (.func 236) #[] #[]]] (w.alloc (Ξ #[Y I b.ab,pv,bv,tv] 26)) λe w'=>
  ∃cv mv fv,e=Ω (μ #[cv,mv,fv,Y I (bT b 0)])/\Hid (mD w' w.heap.size b.pieces.length (iR b (FO b)) cv mv fv/\φ w w'):=by
  by_cases h:bT b 0=0
  ·refine(SW (w:=w.alloc (Ξ #[Y I b.ab,pv,bv,tv] 26)) (B:=B) (KM:=236) (by simp;omega) (ah.still st) (ajv (ah.still st) (fG (mX h).1)) h).mono ?_;rintro e w' ⟨cv,mv,fv,rfl,h1,h2⟩;refine⟨cv,mv,fv,by rw[h],K ⟨?_,da (ό _ _) h2 (ϊ _)⟩⟩;unfold iR;rw[if_pos h];exact h1.base (by simp)
  ·refine(SV (w:=w.alloc (Ξ #[Y I b.ab,pv,bv,tv] 26)) (B:=B) (KM:=236) (by simp;omega) (ah.still st) h).mono ?_;rintro e w' ⟨rfl,h2⟩;refine⟨_,_,_,rfl,K ⟨?_,da (ό _ _) h2 (ϊ _)⟩⟩;unfold iR;rw[if_neg h];exact⟨rfl,rfl,rfl⟩
 have aG:=K call;obtain⟨s,V⟩:∃s,s=bT b 0:=⟨_,rfl⟩
 rw[<-V] at aG;have HS:=K V;obtain⟨A1,n1,c1,A2,n2,c2,A3,n3,c3,rfl,rfl,rfl⟩:=ah.op;have g0: w.cell? ⟨0,1,H⟩=J (.func (.func 236) #[] #[]):=gF.cell hg 1;have h0:0<w.heap.size:=gF.lt hg;clear ah st hg call V;go_enter func36,Tryz.ntmps36;go_wp2_with (first
  | (go_at_call 117;refine aG.e.mono ?_;rintro e w1 ⟨cv,mv,fv,rfl,Ai⟩))
 refine ø (v:=μ #[cv,mv,fv,Y I s]) (by simp[results,Tryz.results36,go_sem]) rfl ⟨cv,mv,fv,by rw[HS.e],Ai.e.1,Ai.e.2⟩
def ahq{b:eR}{n:al}{out:Nat->Bool}:∀(f:Nat) (cs full:List Cut),search b n out f cs=J full->full.length=cs.length+f/\∀j,j<=f->search b n out (f - j) (full.take (cs.length+j))=J full
 |0,cs,full,h=>by
  have h':=h;unfold search at h;cases h;refine⟨rfl,λj hj=>?_⟩;obtain rfl:j=0:=by omega
  simpa using h'
 |f+1,cs,full,h=>by
  have h':=h;unfold search at h;obtain⟨k,hk,h⟩:=Ĵ h;unfold jM at h;split at h
  ·cases h
  ·obtain⟨fr,cq,h⟩:=Ĵ h;unfold jY at h;split at h
   ·obtain⟨h1,h2⟩:=ahq f (cs++ [⟨k,fr⟩]) full h;have hl:full.length=cs.length+(f+1):=(by rw[h1];simp;omega);have h0:=h2 0 (ϛ _);refine⟨hl,λj hj=>?_⟩;cases j with
    |zero=>have e:full.take (cs.length+0)=cs:=(by obtain⟨g1,g2⟩:=J0 f (cs++ [⟨k,fr⟩]) full h;rw[<-g2];simp);rw[e];exact h'
    |succ j=>have:=h2 j (by omega);simp only[Þ,ź] at this;rw[show f+1 - (j+1)=f - j by omega,show cs.length+(j+1)=cs.length+1+j by omega];exact this
   ·cases h
where
 J0 {b:eR} {n:al} {out:Nat->Bool}:∀(f:Nat) (cs full:List Cut),search b n out f cs=J full->∃r,cs++r=full
  |0,cs,full,h=>by unfold search at h;cases h;exact⟨[],by simp⟩
  |f+1,cs,full,h=>by
   unfold search at h;obtain⟨k,hk,h⟩:=Ĵ h;unfold jM at h;split at h
   ·cases h
   ·obtain⟨fr,cq,h⟩:=Ĵ h;unfold jY at h;split at h
    ·obtain⟨r,T⟩:=J0 f _ full h;exact⟨⟨k,fr⟩::r,by rw[<-T];simp⟩
    ·cases h
def S7{b:eR}(hv:Valid b):∀(f i:Nat) (n:al),i+f=b.pieces.length->(∀k,k<i->1<=n.at k)->∀ω∈dU b f i n,∀k,k<b.pieces.length->1<=ω.at k
 |0,i,n,hi,hn,ω,hL=>by
  unfold dU at hL;split at hL
  ·simp at hL;subst hL;intro k hk;exact hn k (by omega)
  ·cases hL
 |f+1,i,n,hi,hn,ω,hL=>by
  unfold dU at hL;split at hL
  ·rename_i p hp;obtain⟨k,hk,hL⟩:=Ah3.1 hL;unfold iJ at hk;obtain⟨j,hj,rfl⟩:=ô.1 hk;have oP:=hv.piece p (ϡ hp);have:=oP.lo;refine S7 hv f (i+1) _ (by omega) (λq hq=>?_) ω hL
   have fM:i<3:=(by have:=hv.np.2;omega);by_cases e:q=i
   ·subst e;have:(n.set q (p.len.lo+(j:Int))).at q=p.len.lo+j:=by
     unfold al.set al.at;have:q=0\/q=1\/q=2:=by omega
     rcases this with rfl|rfl|rfl<;>simp
    rw[this];omega
   ·have oQ:=hn q (by omega);have:(n.set i (p.len.lo+(j:Int))).at q=n.at q:=by
     unfold al.set al.at;have Vk:i=0\/i=1\/i=2:=by omega
     have aix:q=0\/q=1\/q=2:=(by omega);rcases Vk with rfl|rfl|rfl<;>rcases aix with rfl|rfl|rfl<;>simp at e |-
    rw[this];exact oQ
  ·cases hL
def Bt(hv:Valid b){ω:al}(hL:ω∈aB b)(hk:k<b.pieces.length):1<=ω.at k:=S7 hv _ 0 _ (by omega) (λk hk=>absurd hk (Nat.not_lt_zero _)) ω hL k hk
def aey{b:eR}:∀(l dZ:List Cut),(∀q∈l,q9 b q)->scan (λ_ c=>mK b.aC.length c) dZ l=0
 | [],dZ,_=>rfl
 |a::l,dZ,hq=>by
  obtain⟨⟨k,fj,eD⟩,jx⟩:=hq a (by simp);have ha:mK b.aC.length a=0:=by unfold mK;rw[if_pos (by unfold cj;simp;omega),if_pos (by unfold cj;simp;omega)]
  unfold scan;rw[if_neg (by simp[ha])];exact aey l _ λq oQ=>hq q (by simp[oQ])
def abe{mI:List Cut->Int}{x:List Cut}(h:iR b mI=J (x,m)):mr b x/\gZ b x=0/\Valid b:=by
 unfold iR at h;split at h
 ·rename_i ag;have jS:cZ b=0:=by
   unfold bT at ag;split at ag
   ·exact ag
   ·rename_i hh;simpa using hh
  have hv:=fG jS;have vi:=G8 hv _ x m h;refine⟨vi,?_,hv⟩
  unfold gZ;rw[if_neg (by simpa using vi.1)];exact aey _ _ vi.2
 ·cases h
def Jh(c:Cut):fO c c=0:=by unfold fO;simp
def MF(l:List Cut):ff l l=0:=by
 induction l with
 |nil=>rfl
 |cons a l ih=>unfold ff;rw[if_neg (by simp[Jh])];exact ih
def ako{a c d:Cut}(h1:fO a c<0)(h2:fO c d<0):fO a d<0:=by unfold fO at *;split at h1<;>split at h2<;>split<;>omega
def Ji{a c:Cut}(h:fO a c=0):a=c:=by
 obtain⟨x,y⟩:=a;obtain⟨υ,t⟩:=c;unfold fO at h;simp only at h;split at h
 ·omega
 ·rename_i hn;have hn:x=υ:=by simpa using hn
  subst hn;have:y=t:=by omega
  subst this;rfl
def MG:∀ {l m k:List Cut},l.length=m.length->m.length=k.length->ff l m<0->ff m k<0->ff l k<0
 | [],[],_,_,_,h,_=>by simp[ff] at h
 |a::l,b::m,[],_,h,_,_=>by simp at h
 |a::l,b::m,c::k,h1,h2,ha,hb=>by
  unfold ff at ha hb |-;by_cases e1:fO a b=0
  ·have:=Ji e1;subst this;rw[if_neg (by simp[Jh])] at ha;by_cases e2:fO a c=0
   ·have:=Ji e2;subst this;rw[if_neg (by simp[Jh])] at hb |-;exact MG (by simpa using h1) (by simpa using h2) ha hb
   ·rw[if_pos e2] at hb |-;exact hb
  ·rw[if_pos e1] at ha;by_cases e2:fO b c=0
   ·have:=Ji e2;subst this;rw[if_pos e1];exact ha
   ·rw[if_pos e2] at hb;have:=ako ha hb;rw[if_pos (by omega)];exact this
def aqn(M x:al)(k:Nat):M.at k<=(iq M x 3).at k/\x.at k<=(iq M x 3).at k:=by
 have hu:(iq M x 3).at k=if M.at k<x.at k then x.at k else M.at k:=by
  unfold iq al.at;simp only[show 0<3 by omega,show 1<3 by omega,show 2<3 by omega,if_true];split
  ·rfl
  ·split<;>rfl
 rw[hu];split<;>omega
def Xg(k:Nat)(l:List al):∀ω∈l,ω.at k<=(cB l).at k:=by
 have key:∀(l:List al) (M:al),M.at k<=(l.foldl (λM x=>iq M x 3) M).at k/\∀ω∈l,ω.at k<=(l.foldl (λM x=>iq M x 3) M).at k:=by
  intro l;induction l with
  |nil=>intro M;exact⟨Int.le_refl _,by simp⟩
  |cons a l ih=>
   intro M;obtain⟨h1,h2⟩:=ih (iq M a 3);have:=aqn M a k;refine⟨Int.le_trans this.1 h1,λω hL=>?_⟩
   rcases Ϡ.1 hL with rfl|hL
   ·exact Int.le_trans this.2 h1
   ·exact h2 ω hL
 exact(key l _).2
def LP(l m:List Int):Prop:=l.Pairwise (· < ·)/\∀x,x∈l↔x∈m
def TH(V:zs.Pairwise (· <= ·)):LP (Lib.compact zs) zs:=by
 have key:∀m,m<=zs.length->(Lib.compactUpTo zs.toArray m).Pairwise (· < ·)/\(∀x,x∈Lib.compactUpTo zs.toArray m↔x∈zs.take m):=by
  intro m;induction m with
  |zero=>intro _;simp[Lib.compactUpTo]
  |succ m ih=>
   intro hm;obtain⟨h1,h2⟩:=ih (by omega);have ao:m<zs.length:=(by omega);have eg:zs.toArray[m]! =zs[m]:=(by simp[ao]);have et:zs.take (m+1)=zs.take m++ [zs[m]]:=(by rw[List.take_add_one,Ñ ao];rfl);rw[Lib.compactUpTo_succ,et];have le:∀x∈zs.take m,x<=zs[m]:=by
    intro x hx;obtain⟨j,hj,rfl⟩:=Ah9 hx;have Vp:j<m:=by simp at hj;omega
    rw[List.getElem_take];exact Aia.1 V j m (by omega) ao Vp
   by_cases hk:Lib.keeps zs.toArray m=D
   ·rw[if_pos hk,eg];have ne:∀x∈zs.take m,x≠zs[m]:=by
     intro x hx hxe;have sZ:m≠0:=by rintro rfl;simp at hx
     simp only[Lib.keeps,decide_eq_true_eq] at hk;rcases hk with hk|hk
     ·exact sZ hk
     ·rw[eg] at hk;have e1:zs.toArray[m - 1]! =zs[m - 1]:=(by simp[show m - 1<zs.length by omega]);rw[e1] at hk;obtain⟨j,hj,rfl⟩:=Ah9 hx;have Vp:j<m:=by simp at hj;omega
      rw[List.getElem_take] at hxe;have a1:zs[m - 1]<=zs[m]:=Aia.1 V (m - 1) m (by omega) ao (by omega)
      have a2:zs[j]<=zs[m - 1]:=by
        rcases Nat.lt_or_ge j (m - 1) with h'|h'
        ·exact Aia.1 V j (m - 1) (by omega) (by omega) h'
        ·have:j=m - 1:=by omega
         subst this;exact Int.le_refl _
      omega
    refine⟨List.pairwise_append.2 ⟨h1,List.pairwise_singleton _ _,λx hx y hy=>?_⟩,λx=>by rw[ĉ,ĉ,h2]⟩;rw[List.mem_singleton] at hy;subst hy;have ij:=(h2 x).1 hx;have:=le x ij;have:=ne x ij;omega
   ·rw[if_neg hk,Ah1];refine⟨h1,λx=>?_⟩;rw[h2,ĉ,List.mem_singleton];refine⟨.inl,?_⟩;rintro(h|rfl)
    ·exact h
    ·simp only[Lib.keeps,decide_eq_true_eq,not_or,Classical.not_not] at hk;obtain⟨sZ,hk⟩:=hk;rw[eg] at hk;have e1:zs.toArray[m - 1]! =zs[m - 1]:=by simp[show m - 1<zs.length by omega]
     rw[e1] at hk;rw[hk];exact List.mem_take_iff_getElem.2 ⟨m - 1,by omega,rfl⟩
 have:=key zs.length (ϊ _);rwa[List.take_length] at this
def Y2(l:List Cut):LP (jX l) (l.map (·.bt)):=by
 have V:(fQ (l.map (·.bt))).Pairwise (· <= ·):=by have:=List.pairwise_mergeSort (le:=λx y:Int=>decide (x<=y)) (λa b c h1 h2=>by simp at *;omega) (λa b=>by simp;omega) (l.map (·.bt));exact this.imp λh=>by simpa using h
 obtain⟨h1,h2⟩:=TH V;exact⟨h1,λx=>(h2 x).trans (by unfold fQ;exact(List.mergeSort_perm _ _).mem_iff)⟩
def JQ:∀ {l m:List Int},l.Pairwise (· < ·)->m.Pairwise (· < ·)->(∀x∈l,x∈m)->l.Sublist m
 | [],m,_,_,_=>List.nil_sublist _
 |a::l,[],_,_,h=>by have:=h a (by simp);simp at this
 |a::l,b::m,hl,hm,h=>by
  rw[List.pairwise_cons] at hl hm;rcases Ϡ.1 (h a (by simp)) with rfl|ha
  ·refine(JQ hl.2 hm.2 λx hx=>?_).cons₂ a;rcases Ϡ.1 (h x (by simp[hx])) with rfl|h'
   ·have:=hl.1 x hx;omega
   ·exact h'
  ·refine(JQ (List.pairwise_cons.2 hl) hm.2 λx hx=>?_).cons b;rcases Ϡ.1 (h x hx) with rfl|h'
   ·have h1:=hm.1 a ha;rcases Ϡ.1 hx with rfl|hx
    ·omega
    ·have:=hl.1 x hx;omega
   ·exact h'
def atg{m k:List Int}(hl:LP l k)(hm:LP m k):l=m:=
 (JQ hl.1 hm.1 λx hx=>(hm.2 x).2 ((hl.2 x).1 hx)).eq_of_length_le (JQ hm.1 hl.1 λx hx=>(hl.2 x).2 ((hm.2 x).1 hx)).length_le
def are{ks:List Int}{B2:Nat}(ah:aQ w B b pv bv tv)(hl:Row w B2 1 bI lv ks)(hB:B<=w.heap.size)(Nj:B2<=w.heap.size)(zx:ks.length<=1000)
 (cD:∀k∈ks,∃i:Nat,k=i/\i<b.aC.length)(sY:∀x∈b.aC,0<=x.aL/\x.aL<=40):
 ύ prog 131 #[η #[Y I b.ab,pv,bv,tv],lv] w λe w'=>e=Ω (Y I (mV b ks))/\φ w w':=by
 have bD:=K ah;obtain⟨A1,n1,c1,rfl,-⟩:=ah.pieces.Φ;obtain⟨A2,n2,c2,rfl,e2,h2,ei,r2⟩:=ah.aC.Φ;obtain⟨A3,n3,c3,rfl,-⟩:=ah.aI.Φ;obtain⟨A9,m9,c9,rfl,dh,kW,fg,jz⟩:=hl.Φ;unfold ϕ at ei fg;have E2:=K (Ϗ e2 (Ϗ cD (Ϗ sY zx)));have H2:=K r2;have mz:=K (Ϗ dh jz);have hm9:m9<=1000:=by omega
 clear hl ah e2 r2 cD sY dh jz zx;go_enter func131,Tryz.ntmps131;go_wp2;have kk:=K (Bk.new w 26 #[Y I b.ab,E A1 n1 c1,E A2 n2 c2,E A3 n3 c3]);go_loopw [5,6] (λs u wr=>∃i:Nat,i<=m9/\u=Y I i/\s=Y I (mV b (ks.take i))/\Γ (w.heap.size+1) (w.alloc (Ξ #[Y I b.ab,E A1 n1 c1,E A2 n2 c2,E A3 n3 c3] 26)) wr) (λ_ u _=>m9 - (ϑ u).toNat)
 case atStart=>exact⟨0,ϛ _,rfl,by simp[mV],ό _ _⟩
 case round=>
  obtain⟨i,hi,rfl,rfl,hb⟩:=hrel;have agy:(ks.take i).length<=1000:=by have:=E2.e.2.2.2;simp;omega
  have hle:=Xm (b:=b) E2.e.2.2.1 (ks.take i);obtain⟨S,hS⟩:∃S,S=mV b (ks.take i):=⟨_,rfl⟩
  rw[<-hS] at hle |-;have HS:=K hS;have Ii:0<=S:=hle.1;have gS:S<=40000:=by have:=hle.2;omega
  clear hS hle agy;have HB:=K hb;have ef:=hb.size;have aN:w.heap.size+1<=wr.heap.size:=by simpa using ef
  have kb:=kk.e.below hb (by simp);by_cases ao:i<m9
  ·obtain⟨ad,k,cs,lZ,aE,hk,rfl,-,aq⟩:=mz.e.2 i ao;subst lZ;have st:Δ B w wr:=((Δ.refl w).alloc hB _).trans (Δ.aJ hb (by omega))
   have lf:Δ B2 w wr:=((Δ.refl w).alloc Nj _).trans (Δ.aJ hb (by omega));have g0: wr.cell? (ad.add i)=J (Y I k):=(by have:=cA aq lf aE (u:=Y I k) rfl;rwa[Ì] at this);obtain⟨kn,cP,zU⟩:=E2.e.2.1 k (ϡ hk);obtain rfl:k=kn:=cP;have qw:kn<n2:=by have:=E2.e.1;omega
   have rS:(kn:Int)<n2:=(by omega);obtain⟨cR,x,ju,DX,gT,hx,⟨kvv,rfl,dD,-⟩,-,fa⟩:=H2.e kn qw;subst DX;have x1: wr.cell? ⟨(cR.add (kn * 3)).block,(cR.add (kn * 3)).off+1,H⟩=J (Y I x.aL):=bj fa st gT 0 rfl;have p2: wr.cell? ⟨w.heap.size,2,H⟩=J (E (J cR) n2 c2):=kb.cell 2;have Cx:=E2.e.2.2.1 x (ϡ hx);have xW:0<=x.aL:=Cx.1;have O6:x.aL<=40:=Cx.2;have HK:=K (Ϗ hk hx);clear hk hx aq fa st lf dD Cx hb kb ef;go_wp2;go_quiet (fail);go_wp2;go_roundw;case rel=>exact⟨i+1,by omega,by go_num,by rw[pT HK.e.1,akx,<-HS.e];unfold AE;simp[HK.e.2],jr HB.e _⟩
   case measure=>simp[ϑ];omega
  ·obtain rfl:i=m9:=by omega
   clear hb kb ef;go_wp2;go_ret;exact⟨bm (by rw[HS.e,Õ (ò mz.e.1)]),kg HB.e⟩
def aeq{l m:List Cut}{c d:Cut}(hc:l[i]?=J c)(hd:m[i]?=J d)(h:∀(j:Nat) (c d:Cut),j<i->l[j]?=J c->m[j]?=J d->c=d)(aw:fO c d≠0):ff l m=fO c d:=
 ME hc hd (λj c d hj h1 h2=>by rw[h j c d hj h1 h2];exact Jh _) aw
def agU{l m:List Cut}(hl:Row w B 2 Cut.R lv l)(hm:Row w B 2 Cut.R mv m)(hB:B<=w.heap.size)(VI:l.length=m.length):
 ύ prog 46 #[lv,mv] w λe w'=>e=Ω (.bool (decide (ff l m<0)))/\φ w w':=by
 obtain⟨A1,n1,c1,rfl,e1,h1,du,r1⟩:=hl.Φ;obtain⟨A2,n2,c2,rfl,e2,h2,ei,r2⟩:=hm.Φ;obtain rfl:n1=n2:=by omega
 unfold ϕ at du ei;have HE:=K (Ϗ e1 (Ϗ e2 VI));have H1:=K r1;have H2:=K r2;clear hl hm e1 e2 r1 r2 VI;go_enter func46,Tryz.ntmps46;go_wp2;go_loopw [5] (λu wr=>∃i:Nat,i<=n1/\u=Y I i/\Hid (∀(j:Nat) (c d:Cut),j<i->l[j]?=J c->m[j]?=J d->c=d)/\φ w wr) (λu _=>n1 - (ϑ u).toNat)
 case atStart=>exact⟨0,ϛ _,rfl,K λj _ _ hj=>by omega,ό _ _⟩
 case round=>
  obtain⟨i,hi,rfl,bS,hb⟩:=hrel;have HB:=K hb;by_cases ao:i<n1
  ·obtain⟨ad,c,cs,ea,aE,hc,rfl,-,aq⟩:=H1.e i ao;obtain⟨cR,d,ju,ea2,gT,hd,rfl,-,fa⟩:=H2.e i ao;subst ea ea2;have st:Δ B w wr:=Δ.aJ hb hB;have x0:=cA aq st aE rfl;have x1:=bj aq st aE 0 rfl;have y0:=cA fa st gT rfl;have y1:=bj fa st gT 0 rfl;have HX:=K (Ϗ hc hd);clear aq fa st hb hc hd;by_cases KT:c.bt=d.bt
   ·have q1:(c.bt !=d.bt)=U:=by simp[KT]
    by_cases cq:c.from_=d.from_
    ·have q2:(c.from_ !=d.from_)=U:=by simp[cq]
     have HQ:Hid (c=d):=K (by obtain⟨x,y⟩:=c;obtain⟨υ,t⟩:=d;simp only at KT cq;rw[KT,cq]);clear KT cq;go_wp2;go_quiet (fail);go_wp2;go_quiet (fail);go_wp2;go_roundw;case rel=>exact⟨i+1,by omega,by go_num,K λj c' d' hj h1 h2=>by
      rcases Ϯ.1 hj with h|rfl
      ·exact bS.e j c' d' h h1 h2
      ·rw[HX.e.1] at h1;rw[HX.e.2] at h2;cases h1;cases h2;exact HQ.e,jr HB.e _⟩
     case measure=>simp[ϑ];omega
    ·have q2:(c.from_ !=d.from_)=D:=by simp[cq]
     have HQ:Hid (ff l m=c.from_ - d.from_):=K (by
      have e:fO c d=c.from_ - d.from_:=(by unfold fO;rw[if_neg (by simp[KT])]);rw[aeq HX.e.1 HX.e.2 bS.e (by rw[e];omega),e])
     clear KT cq;go_wp2;go_quiet (fail);go_wp2;go_quiet (fail);go_wp2;go_quiet (fail);go_wp2;go_ret;exact⟨bU (by rw[HQ.e];by_cases h:c.from_<d.from_<;>simp[h]<;>omega),jr (jr (jr HB.e _) _) _⟩
   ·have q1:(c.bt !=d.bt)=D:=by simp[KT]
    have HQ:Hid (ff l m=c.bt - d.bt):=K (by
     have e:fO c d=c.bt - d.bt:=(by unfold fO;rw[if_pos KT]);rw[aeq HX.e.1 HX.e.2 bS.e (by rw[e];omega),e])
    clear KT;go_wp2;go_quiet (fail);go_wp2;go_quiet (fail);go_wp2;go_ret;exact⟨bU (by rw[HQ.e];by_cases h:c.bt<d.bt<;>simp[h]<;>omega),jr (jr HB.e _) _⟩
  ·obtain rfl:i=n1:=by omega
   clear hb;go_wp2;go_ret;refine⟨bU ?_,HB.e⟩;have:ff l m=0:=TE HE.e.2.2 λj c d hc hd=>by rw[bS.e j c d (by have:=(Ϫ.1 hc).1;have:=HE.e.1;omega) hc hd];exact Jh _
   rw[this];rfl
def MS{xs ys:List α}(hl:xs.length=ys.length)(h:∀(j:Nat) (x:α),j<xs.length->xs[j]?=J x->ys[j]?=J x):xs=ys:=by
 apply List.ext_getElem?;intro j;by_cases hj:j<xs.length
 ·rw[Ñ hj,h j _ hj (Ñ hj)]
 ·rw[Aib (by omega),Aib (by omega)]
def D4{xs ys:List Int}(ha:Row w B 1 bI av xs)(hb:Row w B 1 bI bv ys)(hB:B<=w.heap.size):
 ύ prog 30 #[av,bv] w λe w'=>e=Ω (.bool (decide (xs=ys)))/\φ w w':=by
 obtain⟨A1,n,c1,rfl,e1,h1,du,r1⟩:=ha.Φ;obtain⟨A2,m,c2,rfl,e2,h2,ei,r2⟩:=hb.Φ;unfold ϕ at du ei;have ζ:=K (Ϗ e1 e2);have R1:=K r1;have R2:=K r2;clear ha hb e1 e2 r1 r2;by_cases iB:n=m
 ·subst iB;have hq:((n:Int) !=(n:Int))=U:=by simp
  go_enter func30,Tryz.ntmps30;go_wp2;go_loopw [4,5] (λr k wr=>∃i:Nat,i<=n/\k=Y I i/\Hid (∀(j:Nat) (x:Int),j<i->xs[j]?=J x->ys[j]?=J x)/\Hid (φ w wr)) (λ_ k _=>n - (ϑ k).toNat);case atStart=>exact⟨0,ϛ _,rfl,K λj _ hj=>by omega,K (ό _ _)⟩
  case round=>
   obtain⟨i,hi,rfl,bS,dk⟩:=hrel;have st:Δ B w wr:=Δ.aJ dk.e hB;have aN:=dk.e.size;by_cases ao:i<n
   ·obtain⟨ad,x,cs,rfl,aE,hx,rfl,-,aq⟩:=R1.e i ao;obtain⟨cR,y,ju,rfl,gT,hy,rfl,-,fa⟩:=R2.e i ao;have h0:=cA aq st aE rfl;have Nd:=cA fa st gT rfl;rw[Ì] at h0 Nd;have q0:(ad.add i).block<wr.heap.size:=by rw[b9];omega
    have q02:(cR.add i).block<wr.heap.size:=(by rw[b9];omega);have HX:=K (Ϗ hx hy);clear hx hy aq fa;by_cases hxy:x=y
    ·have aw:(x !=y)=U:=by simp[hxy]
     have rn:=K hxy;clear hxy;go_wp2;go_quiet (fail);go_wp2;go_roundw;case rel=>exact⟨i+1,by omega,by go_num,K λj υ hj hz=>by
      rcases Ϯ.1 hj with h|rfl
      ·exact bS.e j υ h hz
      ·rw[HX.e.1] at hz;cases hz;rw[HX.e.2,rn.e],K (jr dk.e _)⟩
     case measure=>simp[ϑ];omega
    ·have aw:(x !=y)=D:=by simpa using hxy
     have rn:=K hxy;clear hxy;go_wp2;go_quiet (fail);go_wp2;go_ret;refine⟨bU ?_,jr dk.e _⟩;simp only[Ż,decide_eq_false_iff_not];rintro rfl;have:=HX.e.1.symm.trans HX.e.2;exact rn.e (ϟ this)
   ·obtain rfl:i=n:=by omega
    go_wp2;go_ret;refine⟨bU ?_,dk.e⟩;have:=MS (xs:=xs) (ys:=ys) (by rw[ζ.e.1,ζ.e.2]) λj x hj hx=>bS.e j x (by rw[ζ.e.1] at hj;exact hj) hx;simp[this]
 ·have hq:((n:Int) !=(m:Int))=D:=by simp;omega
  have HQ:=K iB;clear iB;go_enter func30,Tryz.ntmps30;go_wp2;go_ret;refine⟨bU ?_,ό _ _⟩;simp only[Ż,decide_eq_false_iff_not];rintro rfl;exact HQ.e (ζ.e.1.symm.trans ζ.e.2)
def YW:Tryz.prog.stoodInHeld 37=U:=by decide+kernel
def apA:Tryz.prog.stoodInHeld 56=U:=by decide+kernel
def agt:Tryz.prog.eqGuardType Tryz.prog.depth 37=U:=by decide+kernel
def agu:Tryz.prog.eqGuardType Tryz.prog.depth 56=U:=by decide+kernel
def ae0(w:N)(a b c d:Int):(Op.equalIn 10000 37 (η #[Y I a,Y I b]) (η #[Y I c,Y I d])).run prog w=.ok (a==c && b==d) w:=by
 have hu:=χ Tryz.underlying37;rw[run_equalIn_struct w 9999 37 _ _ (by simp[Ahb,hu]) (by rw[Kd];exact YW)];have h3:=χ Tryz.underlying3;have hf:(prog.fieldsOf 37).toList=[{name:= "Low",type:=3,offset:=0,embedded:=U,tag:= "",pkgPath:= "",byteOffset:=0},{name:= "High",type:=3,offset:=1,embedded:=U,tag:= "",pkgPath:= "",byteOffset:=8}]:=by simp[Ahb,hu]
 rw[hf];cases h1:(a==c)<;>cases h2:(b==d)<;>simp[Op.eqFields,go_sem,h1,h2,run_equalIn_int,h3]
def ae2(w:N)(a b c d:Int):(Op.equalIn 10000 56 (η #[Y I a,Y I b]) (η #[Y I c,Y I d])).run prog w=.ok (a==c && b==d) w:=by
 have hu:=χ Tryz.underlying56;rw[run_equalIn_struct w 9999 56 _ _ (by simp[Ahb,hu]) (by rw[Kd];exact apA)];have h3:=χ Tryz.underlying3;have hf:(prog.fieldsOf 56).toList=[{name:= "Board",type:=3,offset:=0,embedded:=U,tag:= "",pkgPath:= "",byteOffset:=0},{name:= "From",type:=3,offset:=1,embedded:=U,tag:= "",pkgPath:= "",byteOffset:=8}]:=by simp[Ahb,hu]
 rw[hf];cases h1:(a==c)<;>cases h2:(b==d)<;>simp[Op.eqFields,go_sem,h1,h2,run_equalIn_int,h3]
def PW(w:N)(a b c d:Int):(binOp .neq 37 (η #[Y I a,Y I b]) (η #[Y I c,Y I d])).run prog w=.ok (.bool (!(a==c && b==d))) w:=by rw[run_neq_struct,ae0];rfl
def Xy(w:N)(a b c d:Int):(binOp .neq 56 (η #[Y I a,Y I b]) (η #[Y I c,Y I d])).run prog w=.ok (.bool (!(a==c && b==d))) w:=by rw[run_neq_struct,ae2];rfl
def M8(w:N)(op:BinOp)(x y:Operand)(xs ys:Array z):(eqGuard op 37 x y (.agg xs) (.agg ys)).run prog w=.ok () w:=run_eqGuard_agg w op 37 x y xs ys (by simpa using agt)
def Uw(w:N)(op:BinOp)(x y:Operand)(xs ys:Array z):(eqGuard op 56 x y (.agg xs) (.agg ys)).run prog w=.ok () w:=run_eqGuard_agg w op 56 x y xs ys (by simpa using agu)
def T1{xs ys:List Span}(ha:Row w B 2 Span.R av xs)(hb:Row w B 2 Span.R bv ys)(hB:B<=w.heap.size):
 ύ prog 75 #[av,bv] w λe w'=>e=Ω (.bool (decide (xs=ys)))/\φ w w':=by
 obtain⟨A1,n,c1,rfl,e1,h1,du,r1⟩:=ha.Φ;obtain⟨A2,m,c2,rfl,e2,h2,ei,r2⟩:=hb.Φ;unfold ϕ at du ei;have ζ:=K (Ϗ e1 e2);have R1:=K r1;have R2:=K r2;clear ha hb e1 e2 r1 r2;by_cases iB:n=m
 ·subst iB;have hq:((n:Int) !=(n:Int))=U:=by simp
  have qn:=PW;have qg:=M8;go_enter func75,Tryz.ntmps75;go_wp2;go_loopw [4,5] (λr k wr=>∃i:Nat,i<=n/\k=Y I i/\Hid (∀(j:Nat) (x:Span),j<i->xs[j]?=J x->ys[j]?=J x)/\Hid (φ w wr)) (λ_ k _=>n - (ϑ k).toNat)
  case atStart=>exact⟨0,ϛ _,rfl,K λj _ hj=>by omega,K (ό _ _)⟩
  case round=>
   obtain⟨i,hi,rfl,bS,dk⟩:=hrel;have st:Δ B w wr:=Δ.aJ dk.e hB;have aN:=dk.e.size;by_cases ao:i<n
   ·obtain⟨ad,x,cs,rfl,aE,hx,rfl,-,aq⟩:=R1.e i ao;obtain⟨cR,y,ju,rfl,gT,hy,rfl,-,fa⟩:=R2.e i ao;have h0:=cA aq st aE rfl;have h1c:=bj aq st aE 0 rfl;have Nd:=cA fa st gT rfl;have agA:=bj fa st gT 0 rfl;have q0:(ad.add (i * 2)).block<wr.heap.size:=by rw[b9];omega
    have q02:(cR.add (i * 2)).block<wr.heap.size:=(by rw[b9];omega);have HX:=K (Ϗ hx hy);clear hx hy aq fa;by_cases hxy:x=y
    ·have aw:(x.lo==y.lo && x.hi==y.hi)=D:=by simp[hxy]
     have rn:=K hxy;clear hxy;go_wp2;go_quiet (fail);go_wp2;go_roundw;case rel=>exact⟨i+1,by omega,by go_num,K λj υ hj hz=>by
      rcases Ϯ.1 hj with h|rfl
      ·exact bS.e j υ h hz
      ·rw[HX.e.1] at hz;cases hz;rw[HX.e.2,rn.e],K (jr dk.e _)⟩
     case measure=>simp[ϑ];omega
    ·have aw:(x.lo==y.lo && x.hi==y.hi)=U:=by
      rw[Bool.eq_false_iff];intro h;simp only[Bool.and_eq_true,beq_iff_eq] at h;exact hxy (by cases x;cases y;simp_all)
     have rn:=K hxy;clear hxy;go_wp2;go_quiet (fail);go_wp2;go_ret;refine⟨bU ?_,jr dk.e _⟩;simp only[Ż,decide_eq_false_iff_not];rintro rfl;have:=HX.e.1.symm.trans HX.e.2;exact rn.e (ϟ this)
   ·obtain rfl:i=n:=by omega
    go_wp2;go_ret;refine⟨bU ?_,dk.e⟩;have:=MS (xs:=xs) (ys:=ys) (by rw[ζ.e.1,ζ.e.2]) λj x hj hx=>bS.e j x (by rw[ζ.e.1] at hj;exact hj) hx;simp[this]
 ·have hq:((n:Int) !=(m:Int))=D:=by simp;omega
  have HQ:=K iB;clear iB;have qn:=PW;have qg:=M8;go_enter func75,Tryz.ntmps75;go_wp2;go_ret;refine⟨bU ?_,ό _ _⟩
  simp only[Ż,decide_eq_false_iff_not];rintro rfl;exact HQ.e (ζ.e.1.symm.trans ζ.e.2)
def Qo{xs ys:List Cut}(ha:Row w B 2 Cut.R av xs)(hb:Row w B 2 Cut.R bv ys)(hB:B<=w.heap.size):
 ύ prog 35 #[av,bv] w λe w'=>e=Ω (.bool (decide (xs=ys)))/\φ w w':=by
 obtain⟨A1,n,c1,rfl,e1,h1,du,r1⟩:=ha.Φ;obtain⟨A2,m,c2,rfl,e2,h2,ei,r2⟩:=hb.Φ;unfold ϕ at du ei;have ζ:=K (Ϗ e1 e2);have R1:=K r1;have R2:=K r2;clear ha hb e1 e2 r1 r2;by_cases iB:n=m
 ·subst iB;have hq:((n:Int) !=(n:Int))=U:=by simp
  have qn:=Xy;have qg:=Uw;go_enter func35,Tryz.ntmps35;go_wp2;go_loopw [4,5] (λr k wr=>∃i:Nat,i<=n/\k=Y I i/\Hid (∀(j:Nat) (x:Cut),j<i->xs[j]?=J x->ys[j]?=J x)/\Hid (φ w wr)) (λ_ k _=>n - (ϑ k).toNat)
  case atStart=>exact⟨0,ϛ _,rfl,K λj _ hj=>by omega,K (ό _ _)⟩
  case round=>
   obtain⟨i,hi,rfl,bS,dk⟩:=hrel;have st:Δ B w wr:=Δ.aJ dk.e hB;have aN:=dk.e.size;by_cases ao:i<n
   ·obtain⟨ad,x,cs,rfl,aE,hx,rfl,-,aq⟩:=R1.e i ao;obtain⟨cR,y,ju,rfl,gT,hy,rfl,-,fa⟩:=R2.e i ao;have h0:=cA aq st aE rfl;have h1c:=bj aq st aE 0 rfl;have Nd:=cA fa st gT rfl;have agA:=bj fa st gT 0 rfl;have q0:(ad.add (i * 2)).block<wr.heap.size:=by rw[b9];omega
    have q02:(cR.add (i * 2)).block<wr.heap.size:=(by rw[b9];omega);have HX:=K (Ϗ hx hy);clear hx hy aq fa;by_cases hxy:x=y
    ·have aw:(x.bt==y.bt && x.from_==y.from_)=D:=by simp[hxy]
     have rn:=K hxy;clear hxy;go_wp2;go_quiet (fail);go_wp2;go_roundw;case rel=>exact⟨i+1,by omega,by go_num,K λj υ hj hz=>by
      rcases Ϯ.1 hj with h|rfl
      ·exact bS.e j υ h hz
      ·rw[HX.e.1] at hz;cases hz;rw[HX.e.2,rn.e],K (jr dk.e _)⟩
     case measure=>simp[ϑ];omega
    ·have aw:(x.bt==y.bt && x.from_==y.from_)=U:=by
      rw[Bool.eq_false_iff];intro h;simp only[Bool.and_eq_true,beq_iff_eq] at h;exact hxy (by cases x;cases y;simp_all)
     have rn:=K hxy;clear hxy;go_wp2;go_quiet (fail);go_wp2;go_ret;refine⟨bU ?_,jr dk.e _⟩;simp only[Ż,decide_eq_false_iff_not];rintro rfl;have:=HX.e.1.symm.trans HX.e.2;exact rn.e (ϟ this)
   ·obtain rfl:i=n:=by omega
    go_wp2;go_ret;refine⟨bU ?_,dk.e⟩;have:=MS (xs:=xs) (ys:=ys) (by rw[ζ.e.1,ζ.e.2]) λj x hj hx=>bS.e j x (by rw[ζ.e.1] at hj;exact hj) hx;simp[this]
 ·have hq:((n:Int) !=(m:Int))=D:=by simp;omega
  have HQ:=K iB;clear iB;have qn:=Xy;have qg:=Uw;go_enter func35,Tryz.ntmps35;go_wp2;go_ret;refine⟨bU ?_,ό _ _⟩
  simp only[Ż,decide_eq_false_iff_not];rintro rfl;exact HQ.e (ζ.e.1.symm.trans ζ.e.2)
def CQ(w:N)(n:Int):ύ prog 50 #[Y I n] w λe w'=>e=Ω (η #[Y I n,Y I n])/\w'=w.alloc (Ξ #[Y I n,Y I n] 37):=by go_enter func50,Tryz.ntmps50;go_wp2;refine ø (v:=η #[Y I n,Y I n]) (by simp[results,Tryz.results50,go_sem]) rfl ⟨rfl,rfl⟩
def QP(w:N)(a b:Int):ύ prog 67 #[Y I a,Y I b] w λe w'=>e=Ω (η #[Y I a,Y I b])/\w'=w.alloc (Ξ #[Y I a,Y I b] 37):=by go_enter func67,Tryz.ntmps67;go_wp2;refine ø (v:=η #[Y I a,Y I b]) (by simp[results,Tryz.results67,go_sem]) rfl ⟨rfl,rfl⟩
def dt(w:N)(a b:Int):ύ prog 66 #[Y I a,Y I b] w λe w'=>e=Ω (η #[Y I a,Y I b])/\w'=w.alloc (Ξ #[Y I a,Y I b] 56):=by go_enter func66,Tryz.ntmps66;go_wp2;refine ø (v:=η #[Y I a,Y I b]) (by simp[results,Tryz.results66,go_sem]) rfl ⟨rfl,rfl⟩
def ael(w:N):ύ prog 95 #[] w λe w'=>∃g,e=Ω (E (J ⟨g,0,H⟩) 3 3)/\w.heap.size<=g/\Bk w' g 56 #[Y I 1,Y I 0,Y I 0,Y I 0,Y I 0,Y I 4]/\φ w w':=by
 go_enter func95,Tryz.ntmps95;go_wp2_with (first
  | (go_at_call 66;refine(dt _ _ _).mono ?_;rintro e w1 ⟨rfl,rfl⟩))
 go_ret;refine⟨w.heap.size+1+1+1,rfl,by omega,Bk.bZ (by simp) _ _,?_⟩;exact((((ό _ _).alloc (ϊ _) _).alloc (by simp) _).alloc (by simp;omega) _).alloc (by simp;omega) _
def Js:ByteArray:={data:=#[107,101,101,108]}
def Jt:ByteArray:={data:=#[114,105,98]}
def Jr:ByteArray:={data:=#[97,114,109]}
def SY:ByteArray:={data:=#[101,108,109]}
def FU:ByteArray:={data:=#[111,97,107]}
structure yQ(w:N)(base gp gb gk gt gl:Nat):Prop where
 p:Bk w gp 72 #[.string Js,Y I 4,Y I 5,Y I 0,.string Jt,Y I 3,Y I 3,Y I 1,.string Jr,Y I 2,Y I 3,Y I 0]
 b:Bk w gb 59 #[.string SY,Y I 8,E (J ⟨gk,0,H⟩) 1 1,.string FU,Y I 6,E H 0 0]
 k:Bk w gk 37 #[Y I 3,Y I 3]
 t:Bk w gt 95 #[E (J ⟨gl,0,H⟩) 2 2,Y I 7,Y I 7]
 l:Bk w gl 3 #[Y I 0,Y I 2]
 hp:base<=gp
 hb:base<=gb
 hk:base<=gk
 ht:base<=gt
 hl:base<=gl
def afn(w:N)(e:Ŏ)(w':N):Prop:=
 ∃gp gb gk gt gl,e=Ω (η #[Y I 1,E (J ⟨gp,0,H⟩) 3 3,E (J ⟨gb,0,H⟩) 2 2,E (J ⟨gt,0,H⟩) 1 1])/\yQ w' w.heap.size gp gb gk gt gl/\φ w w'
def afx(w:N):ύ prog 94 #[] w (afn w):=by
 go_enter func94,Tryz.ntmps94;go_wp2_with (first
  | (go_at_call 67;refine(QP _ _ _).mono ?_;rintro e w1 ⟨rfl,rfl⟩)
  | (go_at_call 50;refine(CQ _ _).mono ?_;rintro e w1 ⟨rfl,rfl⟩))
 refine ø (v:=η #[Y I 1,E (J ⟨w.heap.size+1+1+1+1,0,H⟩) 3 3,E (J ⟨w.heap.size+1+1+1+1+1+1+1,0,H⟩) 2 2,E (J ⟨w.heap.size+1+1+1+1+1+1+1+1+1+1,0,H⟩) 1 1]) (by simp[results,Tryz.results94,go_sem]) rfl ?_;refine⟨_,_,w.heap.size+1+1+1+1+1+1,_,w.heap.size+1+1+1+1+1+1+1+1,rfl,⟨?_,?_,?_,?_,?_,by omega,by omega,by omega,by omega,by omega⟩,?_⟩
 ·repeat first|exact Bk.bZ (by simp) _ _|refine Bk.alloc ?_ _
 ·repeat first|exact Bk.bZ (by simp) _ _|refine Bk.alloc ?_ _
 ·repeat first|exact Bk.bZ (by simp) _ _|refine Bk.alloc ?_ _
 ·repeat first|exact Bk.bZ (by simp) _ _|refine Bk.alloc ?_ _
 ·repeat first|exact Bk.bZ (by simp) _ _|refine Bk.alloc ?_ _
 ·repeat first|exact ό _ _|refine Ũ ?_ (by simp;try omega) _
def bg:eR:=⟨1,[⟨Js,⟨4,5⟩,0⟩,⟨Jt,⟨3,3⟩,1⟩,⟨Jr,⟨2,3⟩,0⟩],[⟨SY,8,[⟨3,3⟩]⟩,⟨FU,6,[]⟩],[⟨[0,2],⟨7,7⟩⟩]⟩
def jP:List Cut:=[⟨1,0⟩,⟨0,0⟩,⟨0,4⟩]
def AS{sz e:Nat}{R:α->List z->Prop}{xs:List α}{qk:List (List z)}(hb:Bk w g e cs)(hg:g<B)(aw:xs≠ [])(hlen:qk.length=xs.length)(hx:xs.length<=1000)
 (hR:∀(i:Nat) (x:α) (c:List z),xs[i]?=J x->qk[i]?=J c->R x c/\c.length=sz)(hc:∀(i:Nat) (c:List z),qk[i]?=J c->∀(j:Nat) (u:z),c[j]?=J u->cs[i * sz+j]?=J u){c:Nat}(NS:xs.length<=c)(oI:c<=1000):Row w B sz R (E (J ⟨g,0,H⟩) xs.length c) xs:=by
 refine⟨_,c,rfl,NS,by unfold ϕ;omega,λ_=>⟨⟨g,0,H⟩,rfl,hg,λi x hi=>?_⟩⟩;have xF:i<xs.length:=(Ϫ.1 hi).1;obtain⟨c,UZ⟩:∃c,qk[i]?=J c:=⟨qk[i]'(by omega),Ñ _⟩
 obtain⟨h1,h2⟩:=hR i x c hi UZ;refine⟨c,h1,h2,λj u hu=>?_⟩;have:=hc i c UZ j u hu;rw[kP];unfold World.cell?;rw[show w.heap[(⟨g,i * sz+j,H⟩:Addr).block]?=J (.cells cs e) from hb];simpa using this
def l8{base gp gb gk gt gl:Nat}(h:yQ w base gp gb gk gt gl):aQ w w.heap.size bg (E (J ⟨gp,0,H⟩) 3 3) (E (J ⟨gb,0,H⟩) 2 2) (E (J ⟨gt,0,H⟩) 1 1):=by
 have hk:Row w w.heap.size 2 Span.R (E (J ⟨gk,0,H⟩) 1 1) [⟨3,3⟩]:=AS (xs:=[(⟨3,3⟩:Span)]) (sz:=2) (R:=Span.R) (qk:=[[Y I 3,Y I 3]]) h.k h.k.lt (by simp) rfl (by simp) (λi x c hx hc=>by
  match i with
  |0=>cases hx;cases hc;exact⟨rfl,rfl⟩
  |i+1=>simp at hx) (λi c hc j u hu=>by
  match i with
  |0=>
   cases hc;match j with
   |0=>exact hu|1=>exact hu|j+2=>simp at hu
  |i+1=>simp at hc) (c:=1) (by simp) (by omega)
 have hl:Row w w.heap.size 1 bI (E (J ⟨gl,0,H⟩) 2 2) [0,2]:=AS (xs:=[(0:Int),2]) (sz:=1) (R:=bI) (qk:=[[Y I 0],[Y I 2]]) h.l h.l.lt (by simp) rfl (by simp) (λi x c hx hc=>by
  match i with
  |0=>cases hx;cases hc;exact⟨rfl,rfl⟩
  |1=>cases hx;cases hc;exact⟨rfl,rfl⟩
  |i+2=>simp at hx) (λi c hc j u hu=>by
  match i with
  |0=>
   cases hc;match j with
   |0=>exact hu|j+1=>simp at hu
  |1=>
   cases hc;match j with
   |0=>exact hu|j+1=>simp at hu
  |i+2=>simp at hc) (c:=2) (by simp) (by omega)
 refine⟨?_,?_,?_⟩
 ·refine AS (xs:=bg.pieces) (sz:=4) (R:=Piece.R) (qk:=[[.string Js,Y I 4,Y I 5,Y I 0],[.string Jt,Y I 3,Y I 3,Y I 1],[.string Jr,Y I 2,Y I 3,Y I 0]]) h.p h.p.lt (by simp[bg]) rfl (by simp[bg]) (λi x c hx hc=>?_) (λi c hc j u hu=>?_) (c:=3) (by simp[bg]) (by omega)
  ·match i with
   |0=>cases hx;cases hc;exact⟨⟨rfl,by decide⟩,rfl⟩
   |1=>cases hx;cases hc;exact⟨⟨rfl,by decide⟩,rfl⟩
   |2=>cases hx;cases hc;exact⟨⟨rfl,by decide⟩,rfl⟩
   |i+3=>simp[bg] at hx
  ·match i with
   |0=>
    cases hc;match j with
    |0=>exact hu|1=>exact hu|2=>exact hu|3=>exact hu|j+4=>simp at hu
   |1=>
    cases hc;match j with
    |0=>exact hu|1=>exact hu|2=>exact hu|3=>exact hu|j+4=>simp at hu
   |2=>
    cases hc;match j with
    |0=>exact hu|1=>exact hu|2=>exact hu|3=>exact hu|j+4=>simp at hu
   |i+3=>simp at hc
 ·refine AS (xs:=bg.aC) (sz:=3) (R:=bN.R w w.heap.size) (qk:=[[.string SY,Y I 8,E (J ⟨gk,0,H⟩) 1 1],[.string FU,Y I 6,E H 0 0]]) h.b h.b.lt (by simp[bg]) rfl (by simp[bg]) (λi x c hx hc=>?_) (λi c hc j u hu=>?_) (c:=2) (by simp[bg]) (by omega)
  ·match i with
   |0=>cases hx;cases hc;exact⟨⟨_,rfl,by decide,hk⟩,rfl⟩
   |1=>cases hx;cases hc;exact⟨⟨_,rfl,by decide,Row.nil⟩,rfl⟩
   |i+2=>simp[bg] at hx
  ·match i with
   |0=>
    cases hc;match j with
    |0=>exact hu|1=>exact hu|2=>exact hu|j+3=>simp at hu
   |1=>
    cases hc;match j with
    |0=>exact hu|1=>exact hu|2=>exact hu|j+3=>simp at hu
   |i+2=>simp at hc
 ·refine AS (xs:=bg.aI) (sz:=3) (R:=Tape.R w w.heap.size) (qk:=[[E (J ⟨gl,0,H⟩) 2 2,Y I 7,Y I 7]]) h.t h.t.lt (by simp[bg]) rfl (by simp[bg]) (λi x c hx hc=>?_) (λi c hc j u hu=>?_) (c:=1) (by simp[bg]) (by omega)
  ·match i with
   |0=>cases hx;cases hc;exact⟨⟨_,rfl,hl⟩,rfl⟩
   |i+1=>simp[bg] at hx
  ·match i with
   |0=>
    cases hc;match j with
    |0=>exact hu|1=>exact hu|2=>exact hu|j+3=>simp at hu
   |i+1=>simp at hc
def aej(h:Bk w g 56 #[Y I 1,Y I 0,Y I 0,Y I 0,Y I 0,Y I 4]):Row w w.heap.size 2 Cut.R (E (J ⟨g,0,H⟩) 3 3) jP:=by
 refine AS (xs:=jP) (sz:=2) (R:=Cut.R) (qk:=[[Y I 1,Y I 0],[Y I 0,Y I 0],[Y I 0,Y I 4]]) h h.lt (by simp[jP]) rfl (by simp[jP]) (λi x c hx hc=>?_) (λi c hc j u hu=>?_) (c:=3) (by simp[jP]) (by omega)
 ·match i with
  |0=>cases hx;cases hc;exact⟨rfl,rfl⟩
  |1=>cases hx;cases hc;exact⟨rfl,rfl⟩
  |2=>cases hx;cases hc;exact⟨rfl,rfl⟩
  |i+3=>simp[jP] at hx
 ·match i with
  |0=>
   cases hc;match j with
   |0=>exact hu|1=>exact hu|j+2=>simp at hu
  |1=>
   cases hc;match j with
   |0=>exact hu|1=>exact hu|j+2=>simp at hu
  |2=>
   cases hc;match j with
   |0=>exact hu|1=>exact hu|j+2=>simp at hu
  |i+3=>simp at hc
def Span.vs(x:Span):List z:=[Y I x.lo,Y I x.hi]
def k7(out:List Span)(x:Span):List Span:=match out.getLast? with
 |some y=>if y.hi+1=x.lo then out.dropLast++ [⟨y.lo,x.hi⟩] else out++ [x]
 |none=>out++ [x]
def fN(l:List Span):List Span:=l.foldl k7 []
def ajz{l:List Span}(h:l[i]?=J x):fN (l.take (i+1))=k7 (fN (l.take i)) x:=by unfold fN;rw[pT h,List.foldl_append];rfl
def yu{base:Nat}{sz:Nat}(h:w.ownsRow base e sz (E (J ⟨g,0,H⟩) n cap) n xs)(hk:k<n * sz):(w.setCell ⟨g,k,H⟩ u).ownsRow base e sz (E (J ⟨g,0,H⟩) n cap) n (xs.set k u):=by
 refine⟨by rw[List.length_set];exact h.1,.inr ?_⟩;rcases h.2 with⟨h0,_⟩ | ⟨g',ze,cur,h1,h2,h3,h4,h5,h6,h7⟩
 ·cases h0
 ·cases h1;refine⟨g,cap,cur.setIfInBounds k u,rfl,h2,?_,h4,h5,by simp[h6],?_⟩
  ·have:=Go.Sim.C4 (a:=⟨g,k,H⟩) (v:=u) h3 rfl g;simpa using this
  ·rw[<-h7];simp[List.take_set]
def YM(l:List Span):(l.flatMap Span.vs).length=l.length * 2:=by
 induction l with
 |nil=>rfl
 |cons a l ih=>simp[Span.vs,ih];omega
def ajW{out:List Span}{y:Span}(h: out.getLast? =J y):(out.flatMap Span.vs).set ((out.length - 1) * 2+1) (Y I x.hi)=(out.dropLast++ [(⟨y.lo,x.hi⟩:Span)]).flatMap Span.vs:=by
 have aw:out≠ []:=by rintro rfl;cases h
 have e:out=out.dropLast++ [y]:=by have:=Aic aw;rw[Aid aw] at h;cases h;exact this.symm
 obtain⟨d,hd⟩:∃d,d=out.dropLast:=⟨_,rfl⟩
 rw[<-hd] at e |-;subst e;rw[Ĥ,Ĥ,Þ];have hl:=YM d;have e2:(d.length+ [y].length - 1) * 2+1=(d.flatMap Span.vs).length+1:=by rw[hl];simp
 rw[e2,List.set_append,if_neg (by omega),Nat.add_sub_cancel_left];simp[Span.vs]
def ajV{out:List Span}{y:Span}(h: out.getLast? =J y):(out.flatMap Span.vs)[(out.length - 1) * 2+1]?=J (Y I y.hi):=by
 have aw:out≠ []:=by rintro rfl;cases h
 have e:out=out.dropLast++ [y]:=by have:=Aic aw;rw[Aid aw] at h;cases h;exact this.symm
 obtain⟨d,hd⟩:∃d,d=out.dropLast:=⟨_,rfl⟩
 rw[<-hd] at e;subst e;rw[Ĥ,Þ];have hl:=YM d;rw[Ah2 (by rw[hl];simp),hl]
 simp[Span.vs]
def WM:(prog.info? 37).map (λi=>(i.zero,i.size,i.bytes))=J (J (η #[Y I 0,Y I 0]),2,16):=by rw[qS];kernel_rfl
def sF(l:List Span):Prop:=∀x∈l,-1000<=x.lo/\x.lo<=1000/\ -1000<=x.hi/\x.hi<=1000
def ajB{out:List Span}(h:sF out)(hx:sF [x]):sF (k7 out x):=by
 have hx:=hx x (by simp);unfold k7;split
 ·rename_i y hy;have hy:=h y (Aie hy);split
  ·intro υ hz;rcases ĉ.1 hz with hz|hz
   ·exact h υ (List.dropLast_subset _ hz)
   ·simp at hz;subst hz;exact⟨hy.1,hy.2.1,hx.2.2⟩
  ·intro υ hz;rcases ĉ.1 hz with hz|hz
   ·exact h υ hz
   ·simp at hz;subst hz;exact hx
 ·intro υ hz;rcases ĉ.1 hz with hz|hz
  ·exact h υ hz
  ·simp at hz;subst hz;exact hx
def ajy{l:List Span}(h:sF l):sF (fN l):=by
 have key:∀(l out:List Span),sF out->sF l->sF (l.foldl k7 out):=by
  intro l;induction l with
  |nil=>intro out h _;exact h
  |cons a l ih=>exactλout h k=>ih _ (ajB h λυ hz=>by simp at hz;subst hz;exact k υ (by simp)) λυ hz=>k υ (by simp[hz])
 exact key l [] (λυ hz=>by simp at hz) h
def ajA(out:List Span)(x:Span):(k7 out x).length<=out.length+1:=by
 unfold k7;split
 ·split<;>simp<;>omega
 ·simp
def ajx(l:List Span):(fN l).length<=l.length:=by
 have key:∀(l out:List Span),(l.foldl k7 out).length<=out.length+l.length:=by
  intro l;induction l with
  |nil=>intro out;simp
  |cons a l ih=>intro out;have:=ih (k7 out a);have:=ajA out a;simp only[List.foldl_cons,Ė];omega
 have:=key l [];simpa [fN] using this
def JF{base:Nat}{sz:Nat}(h:w.ownsRow base e sz v n xs):∃A c,v=E A n c/\(0<n->∃g,A=J ⟨g,0,H⟩/\base<=g/\g<w.heap.size/\∃cur,w.heap[g]?=J (.cells cur e (0,0)))/\n<=c/\c<=ϕ:=by
 rcases h.2 with⟨rfl,rfl⟩ | ⟨g,cap,cur,rfl,h2,h3,h4,h5,_⟩
 ·exact⟨H,0,rfl,λh=>absurd h (by omega),ϊ _,ϛ _⟩
 ·exact⟨_,_,rfl,λ_=>⟨g,rfl,h2,(Ϝ.1 h3).1,cur,h3⟩,h4,h5⟩
def CR{base:Nat}{sz:Nat}(h:w.ownsRow base e sz v n xs)(k:Nat):(w.drewN k).ownsRow base e sz v n xs:=h
def join{l:List Span}(hv:Row w B 2 Span.R v l)(hB:B<=w.heap.size)(zx:l.length<=1000)(V:sF l):
 ύ prog 133 #[v] w λe w'=>∃u,e=Ω u/\w'.ownsRow w.heap.size 37 2 u (fN l).length ((fN l).flatMap Span.vs)/\φ w w':=by
 obtain⟨i0,cJ,cK,aO,aZ⟩:=Ö WM;obtain⟨A,n,c,rfl,hl,ey,dg,T⟩:=hv.Φ;have hn:n<=1000:=by omega
 unfold ϕ at dg;have ox:=K hl;have H2:=K T;have HS:=K V;have HI:=K (Ϗ cJ (Ϗ cK (Ϗ aO aZ)));clear hl T hv zx cJ cK aO aZ V;go_enter func133,Tryz.ntmps133;go_wp2;go_loopw [3,5,6,9] (λo p q k wr=>∃i:Nat,i<=n/\k=Y I i/\Hid (wr.ownsRow w.heap.size 37 2 o (fN (l.take i)).length ((fN (l.take i)).flatMap Span.vs))/\φ w wr) (λ_ _ _ k _=>n - (ϑ k).toNat)
 case atStart=>exact⟨0,ϛ _,rfl,K ⟨by simp[fN],.inl ⟨rfl,by simp[fN]⟩⟩,ό _ _⟩
 case round=>
  obtain⟨i,hi,rfl,aH,hb⟩:=hrel;have HB:=K hb;have aN:=hb.size;by_cases ao:i<n
  ·obtain⟨ad,x,cs,rfl,aE,hx,rfl,-,aq⟩:=H2.e i ao;have st:Δ B w wr:=Δ.aJ hb hB;have h0:=cA aq st aE rfl;have h1:=bj aq st aE 0 rfl;have q0:(ad.add (i * 2)).block<wr.heap.size:=by rw[b9];omega
   have HX:=K hx;have hxs:=HS.e x (ϡ hx);have Vq:=ajy (l:=l.take i) λυ hz=>HS.e υ (List.mem_of_mem_take hz)
   have oL:(fN (l.take i)).length<=i:=Ϥ (ajx _) (by simp;omega);have NX:=K (ajz hx);clear hb hx aq st;obtain⟨m,hm⟩:∃m,m=(fN (l.take i)).length:=⟨_,rfl⟩
   rw[<-hm] at aH oL;have HM:=K hm;clear hm;obtain⟨A9,c9,rfl,Ib,fg,NO⟩:=JF aH.e;unfold ϕ at NO;have XK:=K Vq;clear Vq;rcases Nat.eq_zero_or_pos m with sZ|tb
   ·subst sZ;clear Ib;have HO:=K aH.e;have qa:Hid (((k7 (fN (l.take i)) x).flatMap Span.vs=(fN (l.take i)).flatMap Span.vs++ [Y I x.lo,Y I x.hi])/\(k7 (fN (l.take i)) x).length=0+1):=K (by
     rw[Ž HM.e.symm];exact⟨rfl,rfl⟩)
    clear aH;go_wp2;go_quiet (fail);go_wp2_with (first
     | (at_builtin
        refine ĝ _ rfl (.tmp 36) (.tmp 38) 57 rfl w.heap.size 37 i0 (η #[Y I 0,Y I 0]) 2 16 (χ Tryz.underlying57) HI.e.1 HI.e.2.1 HI.e.2.2.1 HI.e.2.2.2 rfl (by decide) _ _ _ rfl (Ő (CR (Ő HO.e _) nq) _) ⟨wr.heap.size+1,0,H⟩ 1 1 [Y I x.lo,Y I x.hi] rfl rfl ?c1 ?c2 ?c3 ?c4 ?c5 ?_;case c1=>(intro j u hu;match j,hu with|0,hu=>(simp at hu;subst hu;simp[go_sem,Č]) |1,hu=>(simp at hu;subst hu;simp[go_sem,Č]))
        case c2=>simp[Value.oneCell']
        case c3=>(simp only[ϕ];omega)
        case c4=>omega
        case c5=>(simp;omega)
        intro v' w1 b7 cW _;have gC:=K b7;have gX:=K cW;clear b7 cW))
    go_roundw;case rel=>exact⟨i+1,by omega,by go_num,K (by rw[NX.e,qa.e.1,qa.e.2];exact gC.e),
     ((HB.e.trans (jr ((ό _ _).alloc aN _) nq)).trans ((ό _ _).alloc (by simp;omega) _)).grown gX.e (by simp;omega) (λk hk=>dX HO.e k hk)⟩
    case measure=>simp[ϑ];omega
   ·obtain⟨k,rfl⟩:∃k,m=k+1:=⟨m - 1,by omega⟩
    obtain⟨g9,rfl,Vd,Ve,cur,zP⟩:=Ib (by omega);clear tb;have xV:Ϛ.wrap (k:Int)=k:=by rw[IntWalk.i64_left];exact IntWalk.wrap64_in _ (by omega)
    obtain⟨y,hy⟩:∃y,(fN (l.take i)).getLast? =J y:=by
     cases e:(fN (l.take i)).getLast? with
     |some y=>exact⟨y,rfl⟩|none=>rw[List.getLast?_eq_none_iff.1 e] at HM;exact absurd HM.e (by simp)
    have hys:=XK.e y (Aie hy);have g1: wr.cell? ⟨g9,k * 2+1,H⟩=J (Y I y.hi):=by have h1:=ajV hy;rw[<-HM.e] at h1;have:=vK aH.e _ _ h1;rwa[kP] at this
    have z1: wr.frozen? ⟨g9,k * 2+1,H⟩=U:=(by rw[Go.Sim.zp (a:=⟨g9,k * 2+1,H⟩) zP];rfl);have HY:=K hy;have g9l:g9<=wr.heap.size:=by omega
    have HO:=K aH.e;clear hy zP aH;by_cases heq:y.hi+1=x.lo
    ·have hd:(y.hi+1==x.lo)=D:=by simpa using heq
     have qa:Hid (((k7 (fN (l.take i)) x).flatMap Span.vs=((fN (l.take i)).flatMap Span.vs).set (k * 2+1) (Y I x.hi))/\(k7 (fN (l.take i)) x).length=k+1):=K (by
      have e:k7 (fN (l.take i)) x=(fN (l.take i)).dropLast++ [⟨y.lo,x.hi⟩]:=(by unfold k7;rw[HY.e];simp[heq]);rw[e];refine⟨?_,by simp[<-HM.e]⟩;rw[<-ajW HY.e,<-HM.e];rfl)
     go_wp2;go_quiet (fail);go_wp2;go_roundw;case rel=>exact⟨i+1,by omega,by go_num,K (by
          rw[NX.e,qa.e.1,qa.e.2];exact yu (CR (Ő HO.e _) nq) (by omega)),
      (HB.e.trans (jr ((ό _ _).alloc aN _) nq)).setCell (by simp;omega) _⟩
     case measure=>simp[ϑ];omega
    ·have hd:(y.hi+1==x.lo)=U:=by simpa using heq
     have qa:Hid (((k7 (fN (l.take i)) x).flatMap Span.vs=(fN (l.take i)).flatMap Span.vs++ [Y I x.lo,Y I x.hi])/\(k7 (fN (l.take i)) x).length=k+1+1):=K (by
      have e:k7 (fN (l.take i)) x=fN (l.take i)++ [x]:=(by unfold k7;rw[HY.e];simp[heq]);rw[e];exact⟨by simp[Span.vs],by simp[<-HM.e]⟩)
     go_wp2;go_quiet (fail);go_wp2_with (first
      | (at_builtin
         refine ĝ _ rfl (.tmp 36) (.tmp 38) 57 rfl w.heap.size 37 i0 (η #[Y I 0,Y I 0]) 2 16 (χ Tryz.underlying57) HI.e.1 HI.e.2.1 HI.e.2.2.1 HI.e.2.2.2 rfl (by decide) _ _ _ rfl (Ő (CR (Ő HO.e _) nq) _) ⟨wr.heap.size+1,0,H⟩ 1 1 [Y I x.lo,Y I x.hi] rfl rfl ?c1 ?c2 ?c3 ?c4 ?c5 ?_;case c1=>(intro j u hu;match j,hu with|0,hu=>(simp at hu;subst hu;simp[go_sem,Č]) |1,hu=>(simp at hu;subst hu;simp[go_sem,Č]))
         case c2=>simp[Value.oneCell']
         case c3=>(simp only[ϕ];omega)
         case c4=>omega
         case c5=>(simp;omega)
         intro v' w1 b7 cW _;have gC:=K b7;have gX:=K cW;clear b7 cW))
     go_roundw;case rel=>exact⟨i+1,by omega,by go_num,K (by rw[NX.e,qa.e.1,qa.e.2];exact gC.e),
      ((HB.e.trans (jr ((ό _ _).alloc aN _) nq)).trans ((ό _ _).alloc (by simp;omega) _)).grown gX.e (by simp;omega) (λk hk=>dX HO.e k hk)⟩
     case measure=>simp[ϑ];omega
  ·obtain rfl:i=n:=by omega
   go_wp2;go_ret;refine⟨_,rfl,?_,hb⟩;have:=aH.e;rwa[Õ (ò ox.e)] at this
def ku(x:bN)(n:Nat):List Span:=((ϣ n).filter λi:Nat=>decide (lG x.cM (i:Int) i=0)).map λi:Nat=>⟨(i:Int),i⟩
def Hi(x:bN):List Span:=fN (ku x x.aL.toNat)
def af9(x:bN)(n:Nat):ku x (n+1)=ku x n++(if lG x.cM (n:Int) n=0 then [⟨(n:Int),n⟩] else []):=by unfold ku;rw[œ,List.filter_append,È];congr 1;by_cases h:lG x.cM (n:Int) n=0<;>simp[h]
def Up(x:bN)(n:Nat):(ku x n).length<=n:=by unfold ku;rw[ã];exact Ϥ (Agg _ _) (by simp)
def af8(x:bN)(hn:n<=1000):sF (ku x n):=by intro y hy;unfold ku at hy;obtain⟨i,hi,rfl⟩:=ô.1 hy;have:=Ď.1 (List.mem_filter.1 hi).1;simp only;omega
def adH{x:bN}(hB:B<=w.heap.size)(ah:aQ w B b pv bv tv)(h0:cZ b=0)(hx:b.aC[k]?=J x):
 ύ prog 47 #[η #[Y I b.ab,pv,bv,tv],Y I k] w λe w'=>∃v,e=Ω (μ #[v,Y I 0])/\w'.ownsRow w.heap.size 37 2 v (Hi x).length ((Hi x).flatMap Span.vs)/\φ w w':=by
 obtain⟨i0,cJ,cK,aO,aZ⟩:=Ö WM;have HI:=K (Ϗ cJ (Ϗ cK (Ϗ aO aZ)));have hv:=fG h0;have xh:=hv.bt x (ϡ hx);have bD:=K ah;have H0:=K h0;obtain⟨A1,n1,c1,rfl,-⟩:=ah.pieces.Φ;obtain⟨A2,n2,c2,rfl,e2,h2,ei,r2⟩:=ah.aC.Φ;obtain⟨A3,n3,c3,rfl,-⟩:=ah.aI.Φ;unfold ϕ at ei;have hk:k<n2:=by have:=(Ϫ.1 hx).1;omega
 obtain⟨cR,x',ju,rfl,gT,ij,⟨kv,rfl,abw,dC⟩,-,eu⟩:=r2 k hk;obtain rfl:x'=x:=by rw[ij] at hx;exact ϟ hx
 obtain⟨A4,n4,c4,rfl,-⟩:=dC.Φ;have st:=Δ.refl (B:=B) w;have b0:=cA eu st gT rfl;have b1:=bj eu st gT 0 rfl;have b2:=bj eu st gT 1 rfl;have HC:=K (Ϗ b0 (Ϗ b1 b2));have uL:=K dC;have LI:Hid (1<=x'.aL/\x'.aL<=40):=K xh.aL;have Ar:(if cj k 0 ((n2:Int) - 1) then(0:Int) else 6)=0:=by rw[if_pos (by unfold cj;simp;omega)]
 have HT:=K Ar;have uH:Hid ((cR.add (k * 3)).block<w.heap.size):=K (by rw[b9];omega)
 clear ah e2 r2 hx ij eu dC cJ cK aO aZ b0 b1 b2 st hv h0 Ar xh;go_enter func47,Tryz.ntmps47;go_wp2_with (first
  | (go_at_call 68;refine(qj (bD.e.still ((Δ.refl w).alloc hB _)) (by simp;omega) H0.e).mono ?_;rintro e w1 ⟨rfl,ai⟩
     have kb:Bk w1 w.heap.size 26 #[Y I b.ab,E A1 n1 c1,E (J cR) n2 c2,E A3 n3 c3]:=(Bk.new w _ _).below ai (by simp);have b2: w1.cell? ⟨w.heap.size,2,H⟩=J (E (J cR) n2 c2):=kb.cell 2;have aO:w.heap.size<w1.heap.size:=kb.lt;have aZ:w.heap.size<=w1.heap.size:=by omega
     have dk:=da (ό _ _) ai (ϊ _);have aW:=K dk;have d0: w1.cell? (cR.add (k * 3))=J (.string x'.name):=(dk.cell uH.e).trans HC.e.1;have d1: w1.cell? ⟨(cR.add (k * 3)).block,(cR.add (k * 3)).off+(0+1),H⟩=J (Y I x'.aL):=(dk.cell (p:=⟨(cR.add (k * 3)).block,(cR.add (k * 3)).off+(0+1),H⟩) uH.e).trans HC.e.2.1;have d2: w1.cell? ⟨(cR.add (k * 3)).block,(cR.add (k * 3)).off+(1+1),H⟩=J (E A4 n4 c4):=(dk.cell (p:=⟨(cR.add (k * 3)).block,(cR.add (k * 3)).off+(1+1),H⟩) uH.e).trans HC.e.2.2;have dz:(cR.add (k * 3)).block<w1.heap.size:=by have:=uH.e;omega
     clear kb ai dk)
  | (go_at_call 100;refine(there k n2 (by omega) w1 (by omega)).mono ?_;rintro e w2 ⟨rfl,rfl⟩
     rw[HT.e]))
 have sY:1<=x'.aL/\x'.aL<=40:=LI.e;obtain⟨Ψ,hN⟩:∃Ψ:Nat,x'.aL=Ψ:=⟨x'.aL.toNat,by omega⟩
 rw[hN] at sY |-;have HN:=K hN;clear hN d0 d1 d2;go_loopw [9,10,11,32] (λo p q u wr=>∃i:Nat,i<=Ψ/\u=Y I i/\Hid (wr.ownsRow (w1.heap.size+1) 37 2 o (ku x' i).length ((ku x' i).flatMap Span.vs))/\Hid (Γ (w1.heap.size+1) (w1.alloc (Ξ #[.string x'.name,Y I Ψ,E A4 n4 c4] 59)) wr)) (λ_ _ _ u _=>Ψ - (ϑ u).toNat);case atStart=>exact⟨0,ϛ _,rfl,K ⟨by simp[ku],.inl ⟨rfl,by simp[ku]⟩⟩,K (ό _ _)⟩
 case round=>
  obtain⟨i,hi,rfl,aH,hb⟩:=hrel;have aN:w1.heap.size+1<=wr.heap.size:=by have:=hb.e.size;simpa using this
  have pf:Hid (φ w1 wr):=K (((ό _ _).alloc (by omega) _).trans (hb.e.mono (by omega)));have kx:Bk wr w1.heap.size 59 #[.string x'.name,Y I Ψ,E A4 n4 c4]:=(Bk.new w1 _ _).below hb.e (by omega);have k0:=kx.cell 0;have k1:=kx.cell 1;have k2:=kx.cell 2;have kl:w1.heap.size<wr.heap.size:=kx.lt;have Jc:w1.heap.size<=wr.heap.size:=by omega
  clear kx;by_cases ao:i<Ψ
  ·have xF:i<40:=by omega
   have sT:=Up x' i;have NX:=K (af9 x' i);have Dw:Hid (∀o,Row (wr.alloc o) w.heap.size 2 Span.R (E A4 n4 c4) x'.cM):=K λo=>uL.e.more hB|>.still ((Δ.aJ (aW.e.trans (pf.e.mono (by omega))) (ϊ _)).alloc (by omega) o) λ_ _ h=>h
   obtain⟨m,hm⟩:∃m,m=(ku x' i).length:=⟨_,rfl⟩
   rw[<-hm] at aH sT;have HM:=K hm;clear hm;obtain⟨A9,c9,rfl,Ib,fg,NO⟩:=JF aH.e;clear Ib;unfold ϕ at NO;by_cases Ci:lG x'.cM (i:Int) i=0
   ·have hd:(lG x'.cM (i:Int) i==0)=D:=by simpa using Ci
    have qa:Hid (ku x' (i+1)=ku x' i++ [⟨(i:Int),i⟩]):=K (by rw[NX.e,if_pos Ci]);clear Ci;go_wp2_with (first
     | (go_at_call 132;refine(met (Dw.e _) (by simp;omega)).mono ?_;rintro e w2 ⟨rfl,an⟩
        have aZ:wr.heap.size<w2.heap.size:=(by have:=an.size;simp at this;omega);have asS:wr.heap.size<=w2.heap.size:=(by omega);have ks:Bk w2 wr.heap.size 37 #[Y I i,Y I i]:=(Bk.new wr _ _).below an (by simp);have s0:=ks.cell 0;have s1:=ks.cell 1;have sB:Hid (w2.ownsRow (w1.heap.size+1) 37 2 (E A9 m c9) m ((ku x' i).flatMap Span.vs)):=K (si (Ő aH.e _) an (ϊ _));have dj:=K (da hb.e an aN);clear an ks)
     | (at_builtin
        refine ĝ _ rfl (.tmp 42) (.tmp 44) 57 rfl (w1.heap.size+1) 37 i0 (η #[Y I 0,Y I 0]) 2 16 (χ Tryz.underlying57) HI.e.1 HI.e.2.1 HI.e.2.2.1 HI.e.2.2.2 rfl (by decide) _ _ _ rfl (Ő sB.e _) ⟨w2.heap.size,0,H⟩ 1 1 [Y I i,Y I i] rfl rfl ?c1 ?c2 ?c3 ?c4 ?c5 ?_;case c1=>(intro j u hu;match j,hu with|0,hu=>(simp at hu;subst hu;simp[go_sem,Č]) |1,hu=>(simp at hu;subst hu;simp[go_sem,Č]))
        case c2=>simp[Value.oneCell']
        case c3=>(simp only[ϕ];omega)
        case c4=>omega
        case c5=>(simp;omega)
        intro v' w3 b7 cW _;have wA:=K b7;have jo:=K cW;clear b7 cW))
    go_roundw;case rel=>exact⟨i+1,by omega,by go_num,K (by rw[qa.e,Ĥ,Þ,<-HM.e];exact wA.e),
     K ((dj.e.trans ((ό _ _).alloc (by omega) _)).grown jo.e (by simp;omega) (λk hk=>dX sB.e k hk))⟩
    case measure=>simp[ϑ];omega
   ·have hd:(lG x'.cM (i:Int) i==0)=U:=by simpa using Ci
    have qa:Hid (ku x' (i+1)=ku x' i):=K (by rw[NX.e,if_neg Ci,Ah1]);clear Ci;go_wp2_with (first
     | (go_at_call 132;refine(met (Dw.e _) (by simp;omega)).mono ?_;rintro e w2 ⟨rfl,an⟩
        have sB:Hid (w2.ownsRow (w1.heap.size+1) 37 2 (E A9 m c9) m ((ku x' i).flatMap Span.vs)):=K (si (Ő aH.e _) an (ϊ _));have dj:=K (da hb.e an aN);clear an))
    go_roundw;case rel=>exact⟨i+1,by omega,by go_num,K (by rw[qa.e,<-HM.e];exact sB.e),dj⟩
    case measure=>simp[ϑ];omega
  ·obtain rfl:i=Ψ:=by omega
   have yW:=K (mZ (R:=Span.R) (f:=Span.vs) (l:=ku x' i) aH.e (λ_=>rfl) (λ_ _=>rfl));have I1:=af8 x' (n:=i) (by omega);have sV:=Up x' i;clear hi;go_wp2_with (first
    | (go_at_call 133;refine(join yW.e (ϊ _) (by omega) I1).mono ?_;rintro e w2 ⟨u,rfl,gv,an⟩;have sB:=K gv;have dj:=K an;clear gv an))
   go_ret2
   refine⟨_,rfl,?_,?_⟩
   ·have:=sB.e.base (fB:=w.heap.size) (by omega);unfold Hi;rw[HN.e];exact this
   ·exact aW.e.trans ((pf.e.mono (by omega)).trans (dj.e.mono (by omega)))
def xZ(x:bN)(bears:Int)(Ψ fr:Nat):Nat->Int->Int
 |0,m=>m
 |s+1,m=>if lG x.cM fr ((Ψ:Int) - (s+1:Nat))>bears then m else xZ x bears Ψ fr s (max m ((Ψ:Int) - (s+1:Nat) - fr+1))
def ya(x:bN)(bears:Int)(Ψ:Nat):Nat->Int
 |0=>0
 |fr+1=>xZ x bears Ψ fr (Ψ - fr) (ya x bears Ψ fr)
def Jj(x:bN)(bears:Int):Int:=ya x bears x.aL.toNat x.aL.toNat
def akw(x:bN)(bears:Int)(Ψ fr:Nat)(hN:Ψ<=40)(hf:fr<=Ψ):∀(s:Nat) (m:Int),s<=Ψ - fr->0<=m->m<=40->0<=xZ x bears Ψ fr s m/\xZ x bears Ψ fr s m<=40:=by
 intro s;induction s with
 |zero=>intro m _ h0 h1;exact⟨h0,h1⟩
 |succ s ih=>
  intro m V h0 h1;unfold xZ;split
  ·exact⟨h0,h1⟩
  ·refine ih _ (by omega) ?_ ?_<;>omega
def aky(x:bN)(bears:Int)(Ψ:Nat)(hN:Ψ<=40):∀fr,fr<=Ψ->0<=ya x bears Ψ fr/\ya x bears Ψ fr<=40:=by
 intro fr;induction fr with
 |zero=>intro _;exact⟨by unfold ya;omega,by unfold ya;omega⟩
 |succ fr ih=>
  intro h;have:=ih (by omega)
  exact akw x bears Ψ fr hN (by omega) _ _ (ϊ _) this.1 this.2
def Xn{x:bN}{bears:Int}(hB:B<=w.heap.size)(ah:aQ w B b pv bv tv)(h0:cZ b=0)(hx:b.aC[k]?=J x)(NG:cj bears 0 2=D):
 ύ prog 48 #[η #[Y I b.ab,pv,bv,tv],Y I k,Y I bears] w λe w'=>e=Ω (μ #[Y I (Jj x bears),Y I 0])/\φ w w':=by
 have hv:=fG h0;have xh:=hv.bt x (ϡ hx);have bD:=K ah;have H0:=K h0;obtain⟨A1,n1,c1,rfl,-⟩:=ah.pieces.Φ;obtain⟨A2,n2,c2,rfl,e2,h2,ei,r2⟩:=ah.aC.Φ;obtain⟨A3,n3,c3,rfl,-⟩:=ah.aI.Φ;unfold ϕ at ei;have hk:k<n2:=by have:=(Ϫ.1 hx).1;omega
 obtain⟨cR,x',ju,rfl,gT,ij,⟨kv,rfl,abw,dC⟩,-,eu⟩:=r2 k hk;obtain rfl:x'=x:=by rw[ij] at hx;exact ϟ hx
 obtain⟨A4,n4,c4,rfl,-⟩:=dC.Φ;have st:=Δ.refl (B:=B) w;have b0:=cA eu st gT rfl;have b1:=bj eu st gT 0 rfl;have b2:=bj eu st gT 1 rfl;have HC:=K (Ϗ b0 (Ϗ b1 b2));have uL:=K dC;have Ar:(if cj k 0 ((n2:Int) - 1) then(0:Int) else 6)=0:=by rw[if_pos (by unfold cj;simp;omega)]
 have HT:=K Ar;have uH:Hid ((cR.add (k * 3)).block<w.heap.size):=K (by rw[b9];omega)
 have LI:Hid (1<=x'.aL/\x'.aL<=40):=K xh.aL;have pe:=K NG;clear ah e2 r2 hx ij eu dC b0 b1 b2 st hv h0 Ar xh NG;go_enter func48,Tryz.ntmps48;go_wp2_with (first
  | (go_at_call 68;refine(qj (bD.e.still ((Δ.refl w).alloc hB _)) (by simp;omega) H0.e).mono ?_;rintro e w1 ⟨rfl,ai⟩
     have kb:Bk w1 w.heap.size 26 #[Y I b.ab,E A1 n1 c1,E (J cR) n2 c2,E A3 n3 c3]:=(Bk.new w _ _).below ai (by simp);have b2: w1.cell? ⟨w.heap.size,2,H⟩=J (E (J cR) n2 c2):=kb.cell 2;have aO:w.heap.size<w1.heap.size:=kb.lt;have aZ:w.heap.size<=w1.heap.size:=by omega
     have dk:=da (ό _ _) ai (ϊ _);have aW:=K dk;have d0: w1.cell? (cR.add (k * 3))=J (.string x'.name):=(dk.cell uH.e).trans HC.e.1;have d1: w1.cell? ⟨(cR.add (k * 3)).block,(cR.add (k * 3)).off+(0+1),H⟩=J (Y I x'.aL):=(dk.cell (p:=⟨(cR.add (k * 3)).block,(cR.add (k * 3)).off+(0+1),H⟩) uH.e).trans HC.e.2.1;have d2: w1.cell? ⟨(cR.add (k * 3)).block,(cR.add (k * 3)).off+(1+1),H⟩=J (E A4 n4 c4):=(dk.cell (p:=⟨(cR.add (k * 3)).block,(cR.add (k * 3)).off+(1+1),H⟩) uH.e).trans HC.e.2.2;have dz:(cR.add (k * 3)).block<w1.heap.size:=by have:=uH.e;omega
     clear kb ai dk)
  | (go_at_call 100;refine(there k n2 (by omega) w1 (by omega)).mono ?_;rintro e w2 ⟨rfl,rfl⟩
     rw[HT.e])
  | (go_at_call 134;refine(inside _ _ _ w1).mono ?_;rintro e w2 ⟨rfl,rfl⟩;rw[pe.e]))
 have sY:1<=x'.aL/\x'.aL<=40:=LI.e;obtain⟨Ψ,hN⟩:∃Ψ:Nat,x'.aL=Ψ:=⟨x'.aL.toNat,by omega⟩
 rw[hN] at sY |-;have HN:=K hN;clear hN d0 d1 d2;have zL:0<=bears/\bears<=2:=nS pe.e;go_loopw [11,12,13,37] (λm p q u wr=>∃i:Nat,i<=Ψ/\u=Y I i/\m=Y I (ya x' bears Ψ i)/\Hid (Γ (w1.heap.size+1) (w1.alloc (Ξ #[.string x'.name,Y I Ψ,E A4 n4 c4] 59)) wr)) (λ_ _ _ u _=>Ψ - (ϑ u).toNat)
 case atStart=>exact⟨0,ϛ _,rfl,rfl,K (ό _ _)⟩
 case round=>
  obtain⟨wo,rfl⟩:∃wo:N,wo=wr:=⟨_,rfl⟩
  obtain⟨i,hi,rfl,rfl,hb⟩:=hrel;by_cases ao:i<Ψ
  ·go_wp2
   go_step3
   go_wp2
   go_step3
   go_wp2;have HBo:Hid (φ w1 wo):=K (((ό _ _).alloc (by omega) _).trans (hb.e.mono (by omega)))
   have sZ:=aky x' bears Ψ (by have:=sY.2;omega) i hi;go_loopw [11,13] (λm u wr=>∃(j:Nat) (q:Int),i<=j/\j<=Ψ/\u=Y I j/\m=Y I q/\0<=q/\q<=40/\Hid (xZ x' bears Ψ i (Ψ - j) q=ya x' bears Ψ (i+1))/\Hid (Γ (w1.heap.size+1) (w1.alloc (Ξ #[.string x'.name,Y I Ψ,E A4 n4 c4] 59)) wr)) (λ_ u _=>Ψ - (ϑ u).toNat);case atStart=>exact⟨i,_,ϊ _,hi,rfl,rfl,sZ.1,sZ.2,K rfl,hb⟩
   case round=>
    obtain⟨j,q,xE,hj,rfl,rfl,hq0,rW,qx,LR⟩:=hrel;have aN:w1.heap.size+1<=wr.heap.size:=by have:=LR.e.size;simpa using this
    have pf:Hid (φ w1 wr):=K (((ό _ _).alloc (by omega) _).trans (LR.e.mono (by omega)));have kx:Bk wr w1.heap.size 59 #[.string x'.name,Y I Ψ,E A4 n4 c4]:=(Bk.new w1 _ _).below LR.e (by omega);have k0:=kx.cell 0;have k1:=kx.cell 1;have k2:=kx.cell 2;have kl:w1.heap.size<wr.heap.size:=kx.lt;have Jc:w1.heap.size<=wr.heap.size:=by omega
    clear kx;by_cases oL:j<Ψ
    ·have Dw:Hid (Row wr w.heap.size 2 Span.R (E A4 n4 c4) x'.cM):=K (uL.e.more hB|>.still (Δ.aJ (aW.e.trans (pf.e.mono (by omega))) (ϊ _)) λ_ _ h=>h);obtain⟨M,hM⟩:∃M,M=lG x'.cM (i:Int) j:=⟨_,rfl⟩
     have HM:=K hM;clear hM;by_cases vk:M>bears
     ·go_wp2_with (first
       | (go_at_call 132;refine(met Dw.e (by omega)).mono ?_;rintro e w2 ⟨rfl,an⟩;rw[<-HM.e];have dj:=K (chain LR.e an aN);clear an))
      rw[Exit.noGoto_normal];go_wp2;go_roundw;case rel=>exact⟨i+1,by omega,by go_num,by
       congr 1;rw[<-qx.e];obtain⟨d,hd⟩:∃d,Ψ - j=d+1:=⟨Ψ - j - 1,by omega⟩
       rw[hd];unfold xZ;have e:(Ψ:Int) - ((d+1:Nat):Int)=j:=by omega
       rw[e,<-HM.e,if_pos vk],dj⟩
      case measure=>simp[ϑ];omega
     ·go_wp2_with (first
       | (go_at_call 132;refine(met Dw.e (by omega)).mono ?_;rintro e w2 ⟨rfl,an⟩;rw[<-HM.e];have dj:=K (chain LR.e an aN);clear an))
      go_roundw;case rel=>exact⟨j+1,max q (j - i+1),by omega,by omega,by go_num,by go_num,by omega,by omega,K (by
       rw[<-qx.e];obtain⟨d,hd⟩:∃d,Ψ - j=d+1:=⟨Ψ - j - 1,by omega⟩
       rw[hd,show Ψ - (j+1)=d by omega]
       conv=>rhs;unfold xZ
       have e:(Ψ:Int) - ((d+1:Nat):Int)=j:=(by omega);rw[e,<-HM.e,if_neg (by omega)]),dj⟩
      case measure=>simp[ϑ];omega
    ·obtain rfl:j=Ψ:=by omega
     go_wp2;rw[Exit.noGoto_normal];go_wp2;go_roundw;case rel=>exact⟨i+1,by omega,by go_num,by
      congr 1;rw[<-qx.e,Nat.sub_self];rfl,LR⟩
     case measure=>simp[ϑ];omega
  ·obtain rfl:i=Ψ:=by omega
   go_wp2
   go_ret2
   refine⟨JP ?_ rfl,?_⟩
   ·unfold Jj;rw[HN.e];rfl
   ·exact aW.e.trans (((((ό _ _).alloc (by omega) _).trans (hb.e.mono (by omega)))).mono (by omega))
def gx(l:List Int):al:=⟨l[0]?.getD 0,l[1]?.getD 0,l[2]?.getD 0⟩
def YG:(prog.info? 3).map (λi=>i.size)=J 1:=by rw[qS];kernel_rfl
def aea(l:List Int)(h3:l.length<=3):(((#[Y I 0,Y I 0,Y I 0]:Array z).toList.take 0++l.map (Y I)++(#[Y I 0,Y I 0,Y I 0]:Array z).toList.drop (0+l.length)).toArray:Array z)=#[Y I (gx l).a,Y I (gx l).b,Y I (gx l).c]:=by
 rcases l with _| ⟨a,_| ⟨b,_| ⟨c,_| ⟨d,l⟩⟩⟩⟩
 ·simp[gx]
 ·simp[gx]
 ·simp[gx]
 ·simp[gx]
 ·simp at h3
def ad9{A:Option Addr}{c:Nat}(hv:Row w B 1 bI (E A n c) l)(hB:B<=w.heap.size)(h3:l.length<=3){s:Nat}(V:s=w.heap.size)
 (hW:W=(w.alloc (Ξ #[Y I 0,Y I 0,Y I 0] 128)).alloc (Ξ #[Y I 0,Y I 0,Y I 0] 128)):
 ∃W',(Builtin.copy_ #[33,33] 3 #[E (J ⟨s+1,0,H⟩) 3 3,E A n c]).run prog W=.ok (goInt n) W'/\Bk W' s 128 #[Y I 0,Y I 0,Y I 0]/\Bk W' (s+1) 128 #[Y I (gx l).a,Y I (gx l).b,Y I (gx l).c]/\φ w W':=by
 obtain⟨A',n',c',e,hl,ey,dg,T⟩:=hv.Φ;cases e;have rL:φ w W:=by rw[hW];exact((ό _ _).alloc (ϊ _) _).alloc (by simp) _
 have k0:Bk W s 128 #[Y I 0,Y I 0,Y I 0]:=by rw[hW,V];exact(Bk.new w _ _).alloc _
 have k1:Bk W (s+1) 128 #[Y I 0,Y I 0,Y I 0]:=by rw[hW,V];exact Bk.bZ (by simp) _ _
 rcases Nat.eq_zero_or_pos n with h0|hp
 ·subst h0;have:l=[]:=Ž hl;subst this;exact⟨W,run_copy_none W 33 33 3 3 _ _ 3 3 0 c (χ Tryz.underlying33) YG (by simp),k0,k1,rL⟩
 ·obtain⟨ad,_,_,rfl,UQ,_⟩:=T 0 hp;have aiF:∀(j:Nat) (v:z),(l.map (Y I))[j]?=J v-> W.cell? (ad.add j)=J v:=by
   intro j v hj;rw[ú] at hj;obtain⟨x,hx,rfl⟩:=Option.map_eq_some_iff.1 hj;obtain⟨DE,x',cs,e,aE,ij,rfl,-,aq⟩:=T j (by have:=(Ϫ.1 hx).1;omega);cases e;rw[hx] at ij;cases ij;have:=aq 0 _ rfl;rw[Ì,Nat.add_zero] at this;exact(rL.cell (by rw[b9];omega)).trans this
  have bh:=run_copy_row (P:=prog) W 33 33 3 3 (s+1) 0 3 3 ad n c #[Y I 0,Y I 0,Y I 0] 128 (l.map (Y I)) (χ Tryz.underlying33) YG k1 (by rw[ã,hl];exact(Aim (by omega)).symm) aiF (by simp;omega) (λv hv=>by
   obtain⟨x,_,rfl⟩:=ô.1 hv;rfl)
  refine⟨_,by rw[bh,ã,hl],?_,?_,?_⟩
  ·exact(setRow_other _ _ _ _ (by omega)).trans k0
  ·refine(setRow_heap _ _ _ _ _ _ k1).trans ?_;rw[<-hl];rw[aea l h3]
  ·exact below_setRow rL (by omega) _
def aki(hv:Row w B 1 bI v l)(hB:B<=w.heap.size)(h3:l.length<=3):
 ύ prog 128 #[v] w λe w'=>e=Ω (η #[Y I (gx l).a,Y I (gx l).b,Y I (gx l).c])/\φ w w':=by
 obtain⟨A,n,c,rfl,-⟩:=hv.Φ;obtain⟨W',qt,k0,k1,hb⟩:=ad9 (w:=w) hv hB h3 rfl rfl;have r0:=k1.cell 0;have r1:=k1.cell 1;have r2:=k1.cell 2;have s0:=k0.cell 0;have s1:=k0.cell 1;have s2:=k0.cell 2;have z0:=k0.frozen 0;have z1:=k0.frozen 1;have z2:=k0.frozen 2;have l0:=k0.lt;have l1:=k1.lt;have l0':w.heap.size<=W'.heap.size:=by omega
 have xY:w.heap.size+1<=W'.heap.size:=by omega
 have HB:=K hb;have HK:=K k0;clear hv hb k0 k1;go_enter func128,Tryz.ntmps128;go_wp2;have k3:=((HK.e.set 0 (Y I (gx l).a)).set 1 (Y I (gx l).b)).set 2 (Y I (gx l).c);have t0:=k3.cell 0;have t1:=k3.cell 1;have t2:=k3.cell 2;simp at t0 t1 t2;have dR:=((HB.e.setCell (p:=⟨w.heap.size,0,H⟩) (ϊ _) (Y I (gx l).a)).setCell (p:=⟨w.heap.size,1,H⟩) (ϊ _) (Y I (gx l).b)).setCell (p:=⟨w.heap.size,2,H⟩) (ϊ _) (Y I (gx l).c);refine ø (v:=η #[Y I (gx l).a,Y I (gx l).b,Y I (gx l).c]) (by simp[results,Tryz.results128,go_sem,t0,t1,t2]) rfl ⟨rfl,dR⟩
def anQ(w:N)(a b:Int)(e:TypeId):Row (w.alloc (Ξ #[Y I a,Y I b] e)) (w.heap.size+1) 1 bI (E (J ⟨w.heap.size,0,H⟩) 2 2) [a,b]:=
 AS (xs:=[a,b]) (sz:=1) (R:=bI) (qk:=[[Y I a],[Y I b]]) (Bk.new w _ _) (by omega) (by simp) rfl (by simp) (λi x c hx hc=>by
  match i with
  |0=>cases hx;cases hc;exact⟨rfl,rfl⟩
  |1=>cases hx;cases hc;exact⟨rfl,rfl⟩
  |i+2=>simp at hx) (λi c hc j u hu=>by
  match i with
  |0=>
   cases hc;match j with
   |0=>exact hu|j+1=>simp at hu
  |1=>
   cases hc;match j with
   |0=>exact hu|j+1=>simp at hu
  |i+2=>simp at hc) (c:=2) (by simp) (by omega)
def akz(h:sf b l=0):l.length=b.pieces.length/\∀n∈l,1<=n/\n<=40:=by
 unfold sf at h;split at h
 ·contradiction
 ·rename_i h1;split at h
  ·contradiction
  ·rename_i h2;refine⟨by simpa using h1,λn hn=>?_⟩;have h2:l.any (λn=> !cj n 1 40)=U:=(by simpa using h2);have:=List.any_eq_false.1 h2 n hn;exact nS (by simpa using this)
def akj(h:∀n∈l,1<=n/\n<=40):(gx l).Ok:=by
 have key:∀i:Nat,0<=(l[i]?.getD 0:Int)/\(l[i]?.getD 0:Int)<=1000:=by
  intro i;cases e:l[i]? with
  |none=>exact⟨by simp,by simp⟩|some x=>have:=h x (ϡ e);simp only[Option.getD_some];omega
 intro i;have k0:=key 0;have k1:=key 1;have k2:=key 2;unfold al.at gx;match i with
 |0=>exact k0
 |1=>exact k1
 |i+2=>exact k2
def fW(w:N)(s:Int)(p q r:z):N:=w.alloc (Ϧ #[Y I s,p,q,r] 117)
def afE(w:N)(s:Int)(p q r:z):φ w (fW w s p q r):=(ό _ _).alloc (ϊ _) _
def Ue{lC:List Cut}{cv:z}(hB:B<=w.heap.size)(ah:aQ w B b pv bv tv)(hl:Row w B 1 bI lv l)(hc:Row w B 2 Cut.R cv lC)(h0:cZ b=0)(h:scan (λ_ s=>s) [] [sf b l,gZ b lC]=0):
 ύ prog 43 #[η #[Y I b.ab,pv,bv,tv],lv,cv] w λe w'=>e=Ω (μ #[.bool (db b (gx l) lC),Y I 0])/\φ w w':=by
 have bD:=K ah;have HL:=K hl;have HC:=K hc;have H0:=K h0;obtain⟨A1,n1,c1,A2,n2,c2,A3,n3,c3,rfl,rfl,rfl⟩:=ah.op;obtain⟨A4,n4,c4,rfl,-⟩:=hl.Φ;obtain⟨A5,n5,c5,rfl,-⟩:=hc.Φ;obtain⟨s1,di⟩:∃s,s=sf b l:=⟨_,rfl⟩
 obtain⟨s2,dN⟩:∃s,s=gZ b lC:=⟨_,rfl⟩
 rw[<-di,<-dN] at h;obtain⟨S,hS⟩:∃S,S=scan (λ_ s=>s) [] [s1,s2]:=⟨_,rfl⟩
 rw[<-hS] at h;have HS:=K (Ϗ hS (Ϗ di dN));have hd:(S !=0)=U:=by simp[h]
 clear ah hl hc h0 hS di dN;go_enter func43,Tryz.ntmps43;go_wp2_with (first
  | (go_at_call 68;refine(qj (bD.e.still ((Δ.refl w).alloc hB _)) (by simp;omega) H0.e).mono ?_;rintro e w1 ⟨rfl,ai⟩
     have kb:Bk w1 w.heap.size 26 #[Y I b.ab,E A1 n1 c1,E A2 n2 c2,E A3 n3 c3]:=(Bk.new w _ _).below ai (by simp);have b0:=kb.cell 0;have b1:=kb.cell 1;have b2:=kb.cell 2;have b3:=kb.cell 3;have aW:=K (da (ό _ _) ai (ϊ _));clear kb ai))
 have HW:=K (afE w1 b.ab (E A1 n1 c1) (E A2 n2 c2) (E A3 n3 c3));have kw:Bk (fW w1 b.ab (E A1 n1 c1) (E A2 n2 c2) (E A3 n3 c3)) w1.heap.size 117 #[Y I b.ab,E A1 n1 c1,E A2 n2 c2,E A3 n3 c3]:=Bk.new w1 _ _;have k0:=kw.cell 0;have k1:=kw.cell 1;have k2:=kw.cell 2;have k3:=kw.cell 3;have HZ:=K kw.lt;change Code.wp _ _ _ _ (fW w1 b.ab (E A1 n1 c1) (E A2 n2 c2) (E A3 n3 c3));clear kw b0 b1 b2 b3;generalize fW w1 b.ab (E A1 n1 c1) (E A2 n2 c2) (E A3 n3 c3)=W3 at HW k0 k1 k2 k3 HZ |-
 have lx:Hid (Γ (w1.heap.size+1) W3 W3.drew):=K (dT (ό _ _));have hle:B<=w1.heap.size:=by have:=aW.e.size;omega
 have CL:Hid (∀w',Γ (w1.heap.size+1) W3 w'->ύ prog 127 #[η #[Y I b.ab,E A1 n1 c1,E A2 n2 c2,E A3 n3 c3],E A4 n4 c4] w' λe bz=>e=Ω (Y I s1)/\Γ (w1.heap.size+1) W3 bz):=K λw' hw=>by
  have st:Δ B w w':=(Δ.aJ aW.e hB).trans ((Δ.aJ HW.e hle).trans (Δ.aJ hw (by omega)));have aN:=hw.size;have:=HZ.e;refine(akv (B:=B) (bD.e.still st) (HL.e.still st λ_ _ h=>h) (by omega)).mono ?_
  rintro e bz ⟨rfl,hb⟩;exact⟨bm HS.e.2.1.symm,hw.trans (hb.mono (by omega))⟩
 have CC:Hid (∀w',Γ (w1.heap.size+1) W3 w'->ύ prog 109 #[η #[Y I b.ab,E A1 n1 c1,E A2 n2 c2,E A3 n3 c3],E A5 n5 c5] w' λe bz=>e=Ω (Y I s2)/\Γ (w1.heap.size+1) W3 bz):=K λw' hw=>by
  have st:Δ B w w':=(Δ.aJ aW.e hB).trans ((Δ.aJ HW.e hle).trans (Δ.aJ hw (by omega)));have aN:=hw.size;have:=HZ.e;refine(MK (B:=B) (bD.e.still st) (HC.e.still st λ_ _ h=>h) (by omega)).mono ?_
  rintro e bz ⟨rfl,hb⟩;exact⟨bm HS.e.2.2.symm,hw.trans (hb.mono (by omega))⟩
 have CE:∀ {w':N} {j:Nat} {v:z},Γ (w1.heap.size+1) W3 w'-> W3.cell? ⟨w1.heap.size,j,H⟩=J v-> w'.cell? ⟨w1.heap.size,j,H⟩=J v:=λhb hv=>(hb.cell (Nat.lt_succ_self _)).trans hv;have AL:∀ {w':N},Γ (w1.heap.size+1) W3 w'->∀o,Γ (w1.heap.size+1) W3 (w'.alloc o):=λhb o=>hb.alloc (by have:=hb.size;have:=HZ.e;omega) o;go_region_held3 (λw'=> w'.cell? ⟨w1.heap.size,0,H⟩=J (Y I b.ab)/\ w'.cell? ⟨w1.heap.size,1,H⟩=J (E A1 n1 c1)/\ w'.cell? ⟨w1.heap.size,2,H⟩=J (E A2 n2 c2)/\ w'.cell? ⟨w1.heap.size,3,H⟩=J (E A3 n3 c3)/\Hid (Γ (w1.heap.size+1) W3 w'))
  (first|exact⟨k0,k1,k2,k3,lx⟩ |exact⟨CE pZ.e k0,CE pZ.e k1,CE pZ.e k2,CE pZ.e k3,pZ⟩ |exact⟨CE ow.e k0,CE ow.e k1,CE ow.e k2,CE ow.e k3,ow⟩ |exact⟨CE (AL pZ.e _) k0,CE (AL pZ.e _) k1,CE (AL pZ.e _) k2,CE (AL pZ.e _) k3,K (AL pZ.e _)⟩ |exact⟨CE (AL ow.e _) k0,CE (AL ow.e _) k1,CE (AL ow.e _) k2,CE (AL ow.e _) k3,K (AL ow.e _)⟩)
  (first
    | (go_at_call 127
       refine(CL.e _ ?hx).mono ?_;case hx=>first|exact pZ.e|exact lx.e
       rintro e w4 ⟨rfl,cU⟩;have ow:=K cU;clear cU)
    | (go_at_call 109
       refine(CC.e _ ?hx).mono ?_;case hx=>first|exact ow.e|exact lx.e
       rintro e w5 ⟨rfl,dB⟩;have pZ:=K dB;clear dB)
    | (go_at_call 126
       refine(first (anQ _ _ _ _)).mono ?_;rintro e w6 ⟨rfl,rfl⟩;rw[<-HS.e.1]))
 go_wp2;have rW:sf b l=0/\gZ b lC=0:=by
  have h:=HS.e.1;have hz:(scan (λ_ s=>s) [] [s1,s2]:Int)=0:=by have Ii:S=0:=(by simpa using hd);rw[<-h,Ii]
  unfold scan at hz;split at hz
  ·contradiction
  ·rename_i h1;unfold scan at hz;split at hz
   ·contradiction
   ·rename_i h2;exact⟨by rw[<-HS.e.2.1];simpa using h1,by rw[<-HS.e.2.2];simpa using h2⟩
 have cD:=Hn (fG H0.e) rW.2;have qx:=akz rW.1;have Oq:=akj qx.2;have hv:=fG H0.e;have iX:=hv.np.2;have xH:l.length<=3:=by rw[qx.1];exact iX
 obtain⟨W5,sQ⟩:∃W5,W5=w5.alloc (Ϧ #[Ϟ Ϛ s1,Ϟ Ϛ s2] 30):=⟨_,rfl⟩
 have dB:Γ (w1.heap.size+1) W3 W5:=by rw[sQ];exact AL pZ.e _
 rw[<-sQ];have fS:=K dB;have j0:=CE dB k0;have j1:=CE dB k1;have j2:=CE dB k2;have j3:=CE dB k3;have HJ:Hid (Γ (w1.heap.size+1) W3 W5.drew):=K (dT dB);obtain⟨ω,hL⟩:∃ω,ω=gx l:=⟨_,rfl⟩
 rw[<-hL] at Oq;have wy:=K hL;have Wt:Hid (∀w',Γ (w1.heap.size+1) W3 w'->ύ prog 128 #[E A4 n4 c4] w' λe bz=>e=Ω (η #[Y I ω.a,Y I ω.b,Y I ω.c])/\Γ (w1.heap.size+1) W3 bz):=K λw' hw=>by
  have st:Δ B w w':=(Δ.aJ aW.e hB).trans ((Δ.aJ HW.e hle).trans (Δ.aJ hw (by omega)));have aN:=hw.size;have:=HZ.e;refine(aki (B:=B) (HL.e.still st λ_ _ h=>h) (by omega) xH).mono ?_
  rintro e bz ⟨rfl,hb⟩;rw[<-wy.e];exact⟨rfl,hw.trans (hb.mono (by omega))⟩
 have CD:Hid (∀w',Γ (w1.heap.size+1) W3 w'->ύ prog 110 #[η #[Y I b.ab,E A1 n1 c1,E A2 n2 c2,E A3 n3 c3],η #[Y I ω.a,Y I ω.b,Y I ω.c],E A5 n5 c5] w' λe bz=>e=Ω (.bool (db b ω lC))/\Γ (w1.heap.size+1) W3 bz):=K λw' hw=>by
  have st:Δ B w w':=(Δ.aJ aW.e hB).trans ((Δ.aJ HW.e hle).trans (Δ.aJ hw (by omega)));have aN:=hw.size;have:=HZ.e;refine(MN (B:=B) (bD.e.still st) (HC.e.still st λ_ _ h=>h) (by omega) cD.len cD.three cD.lC Oq cD.ab).mono ?_
  rintro e bz ⟨rfl,hb⟩;exact⟨rfl,hw.trans (hb.mono (by omega))⟩
 have KK:=K (Ϗ k0 (Ϗ k1 (Ϗ k2 k3)));clear cD qx Oq hv iX xH sQ dB k0 k1 k2 k3 rW hL;go_region_held3 (λw'=> w'.cell? ⟨w1.heap.size,0,H⟩=J (Y I b.ab)/\ w'.cell? ⟨w1.heap.size,1,H⟩=J (E A1 n1 c1)/\ w'.cell? ⟨w1.heap.size,2,H⟩=J (E A2 n2 c2)/\ w'.cell? ⟨w1.heap.size,3,H⟩=J (E A3 n3 c3)/\Hid (Γ (w1.heap.size+1) W3 w'))
  (first|exact⟨j0,j1,j2,j3,HJ⟩ |exact⟨i0,i1,i2,i3,HI⟩ |exact⟨CE HN.e KK.e.1,CE HN.e KK.e.2.1,CE HN.e KK.e.2.2.1,CE HN.e KK.e.2.2.2,HN⟩)
  (first
    | (go_at_call 128
       refine(Wt.e _ ?hx).mono ?_;case hx=>exact HJ.e
       rintro e w7 ⟨rfl,oH⟩;have i0:=CE oH KK.e.1;have i1:=CE oH KK.e.2.1;have i2:=CE oH KK.e.2.2.1;have i3:=CE oH KK.e.2.2.2;have HI:=K oH;clear oH)
    | (go_at_call 110
       refine(CD.e _ ?hx).mono ?_;case hx=>exact HI.e
       rintro e w8 ⟨rfl,pF⟩;have HN:=K pF;clear pF))
 go_wp2
 go_ret2
 exact⟨by rw[wy.e];rfl,aW.e.trans ((HW.e.mono (by have:=aW.e.size;omega)).trans (HN.e.mono (by have:=aW.e.size;omega)))⟩
def aQ.more{w:N}{B B':Nat}{b:eR}{pv bv tv:z}(h:aQ w B b pv bv tv)(hB:B<=B'):aQ w B' b pv bv tv:=
 ⟨h.pieces.more hB,(h.aC.more hB).still (Δ.refl w) λ_ _ ⟨kv,e1,e2,e3⟩=>⟨kv,e1,e2,e3.more hB⟩,(h.aI.more hB).still (Δ.refl w) λ_ _ ⟨pv,e1,e3⟩=>⟨pv,e1,e3.more hB⟩⟩
def SI{l:List Cut}(hB:B<=w.heap.size)(ah:aQ w B b pv bv tv)(hl:Row w B 2 Cut.R lv l)(hg:Bk w g 27 #[lv]):uB b pv bv tv w 113 #[π (J ⟨g,0,H⟩)] (gZ b l):=by
 have bD:=K ah;have HL:=K hl;refine⟨call113,λ_ W hW=>?_⟩
 have kA:=hg.lt;obtain⟨A,n,c,rfl,-⟩:=hl.Φ;have g0: W.cell? ⟨g,0,H⟩=J (E A n c):=(hg.below hW kA).cell 0;have hz:g<W.heap.size:=by have:=hW.size;omega
 have WA:g<=W.heap.size:=by omega
 have sW:Δ B w W:=Δ.aJ hW hB;have UI:B<=W.heap.size:=by have:=hW.size;omega
 obtain⟨A1,n1,c1,A2,n2,c2,A3,n3,c3,rfl,rfl,rfl⟩:=ah.op;have call:=MK (w:=W.alloc (Ξ #[Y I b.ab,E A1 n1 c1,E A2 n2 c2,E A3 n3 c3] 117)) (B:=B) (bD.e.still (sW.alloc UI _)) (HL.e.still (sW.alloc UI _) λ_ _ h=>h) (by simp;omega)
 have aG:=K call;clear ah hl hW hg sW call;refine app1 ?_;go_enter func113,Tryz.ntmps113;go_wp2_with (first
  | (go_at_call 109;refine aG.e.mono ?_;rintro e w1 ⟨rfl,ai⟩))
 go_ret;exact⟨bm rfl,da (ό _ _) ai (ϊ _)⟩
def Gg(b:eR)(G:al)(l:List Cut)(out:List Int)(i:Nat):List Int:=match l[i]? with
 |some c=>out.set c.bt.toNat (min (out[c.bt.toNat]?.getD 0) ((kF b c.bt.toNat:Int) - c.from_ - G.at i))
 |none=>out
def od(b:eR)(l:List Cut)(n:Nat):List Int:=(ϣ n).foldl (Gg b (cB (aB b)) l) (b.aC.map (·.aL))
def apc(b:eR)(G:al)(l:List Cut)(out:List Int)(i:Nat):(Gg b G l out i).length=out.length:=by unfold Gg;split<;>simp
def YO(b:eR)(l:List Cut)(n:Nat):od b l (n+1)=Gg b (cB (aB b)) l (od b l n) n:=by unfold od;rw[œ,List.foldl_append];rfl
def YN(b:eR)(l:List Cut)(n:Nat):(od b l n).length=b.aC.length:=by
 induction n with
 |zero=>simp[od]
 |succ n ih=>rw[YO,apc,ih]
def ajF{w3 wq:N}(h:w3.heap.size<wq.heap.size)(hg:g<w3.heap.size):g<wq.heap.size:=by omega
def C6(b:eR)(l:List Cut):List Int:=od b l l.length
def ape{l:List Cut}(hB:B<=w.heap.size)(ah:aQ w B b pv bv tv)(hl:Row w B 2 Cut.R lv l)(h:bT b (gZ b l)=0)(Fb:Gk b (aB b) l=D):
 ύ prog 31 #[η #[Y I b.ab,pv,bv,tv],lv] w λe w'=>∃v,e=Ω (μ #[v,Y I 0])/\w'.ownsRow w.heap.size 3 1 v (C6 b l).length ((C6 b l).map (Y I))/\φ w w':=by
 have st:Δ B w ((w.alloc (Ξ #[Y I b.ab,pv,bv,tv] 26)).alloc (Ξ #[lv] 27)):=((Δ.refl w).alloc hB _).alloc (by simp;omega) _;have aG:=K (ym (w:=((w.alloc (Ξ #[Y I b.ab,pv,bv,tv] 26)).alloc (Ξ #[lv] 27))) (B:=B) (by simp;omega) (ah.still st) (SI (by simp;omega) (ah.still st) (hl.still st λ_ _ h=>h) (Bk.bZ (g:=w.heap.size+1) (by simp) _ _)) h);have hz:=mX h;have hv:=fG hz.1;have OK:=K (Ϗ (Hn hv hz.2.1) (wI hv));have bD:=K ah;have wy:=K hl;have HV:=K hv;have iW:b.aC.length<=3:=hv.nb;have LC:=K Fb;obtain⟨i0,cJ,cK,aO,aZ⟩:=Ö Pd;have cy:=K (Ϗ cJ (Ϗ cK (Ϗ aO aZ)));obtain⟨A1,n1,c1,rfl,-⟩:=ah.pieces.Φ;obtain⟨A2,n2,c2,rfl,e2,h2,ei,r2⟩:=ah.aC.Φ;obtain⟨A3,n3,c3,rfl,-⟩:=ah.aI.Φ;obtain⟨A,n,c,rfl,e5,h5,H9,r5⟩:=hl.Φ;have R2:=K r2;have R5:=K r5;have yN:=K (Ϗ e2 e5);unfold ϕ at ei H9;have VV:n2<=3:=by omega
 clear ah hl st hz hv h cJ cK aO aZ r2 r5 e2 e5 Fb iW;go_enter func31,Tryz.ntmps31;go_wp2_with (first
  | (go_at_call 98;refine aG.e.mono ?_;rintro e w1 ⟨sv,rfl,aH,ai⟩
     obtain⟨A9,n9,c9,rfl,dh,kW,fg,jz⟩:=aH.row.Φ;have HO:=K aH;have kb:Hid (Bk w1 w.heap.size 26 #[Y I b.ab,E A1 n1 c1,E A2 n2 c2,E A3 n3 c3]):=K (((Bk.new w _ _).alloc _).below ai (by simp;omega))
     have kl:Hid (Bk w1 (w.heap.size+1) 27 #[E A n c]):=K ((Bk.bZ (by simp) _ _).below ai (by simp));have aO:w.heap.size+2<=w1.heap.size:=(by have:=ai.size;simpa using this);have ai3:w.heap.size+1<w1.heap.size:=(by omega);have ai4:w.heap.size+1<=w1.heap.size:=(by omega);have l0:=kl.e.cell 0;have dk:φ w w1:=((((ό _ _).alloc (ϊ _) _).alloc (by simp) _).trans (ai.mono (by simp;omega)))
     have aW:=K dk;have LQ:Hid (ύ prog 114 #[η #[Y I b.ab,E A1 n1 c1,E A2 n2 c2,E A3 n3 c3,E A9 n9 c9],E A n c] (w1.alloc (Ξ #[Y I b.ab,E A1 n1 c1,E A2 n2 c2,E A3 n3 c3,E A9 n9 c9] 122)) λe w'=>e=Ω (.bool D)/\Γ (w1.heap.size+1) (w1.alloc (Ξ #[Y I b.ab,E A1 n1 c1,E A2 n2 c2,E A3 n3 c3,E A9 n9 c9] 122)) w'):=K (by
      have vT:Δ B w (w1.alloc (Ξ #[Y I b.ab,E A1 n1 c1,E A2 n2 c2,E A3 n3 c3,E A9 n9 c9] 122)):=(Δ.aJ dk hB).alloc (by omega) _;refine(Y1 (B:=w1.heap.size) (ps:=aB b) (b:=b) (l:=l) ((bD.e.still vT).more (by omega)) (aH.row.still ((Δ.refl w1).alloc (ϊ _) _) λ_ _ h=>h) ((wy.e.still vT λ_ _ h=>h).more (by omega)) (by simp) OK.e.1 OK.e.2).mono ?_;rintro e w' ⟨rfl,hb⟩;rw[LC.e];exact⟨rfl,hb.mono (by simp)⟩)
     clear ai aH dh jz dk)
  | (go_at_call 114
     refine LQ.e.mono ?_;rintro e w2 ⟨rfl,an⟩;have kf:Bk w2 w1.heap.size 122 #[Y I b.ab,E A1 n1 c1,E A2 n2 c2,E A3 n3 c3,E A9 n9 c9]:=(Bk.new w1 _ _).below an (by omega)
     have KF:=K kf;have zM:φ w1 w2:=((ό _ _).alloc (by omega) _).trans (an.mono (by omega))
     have dj:=K zM;have aZ:w1.heap.size+1<=w2.heap.size:=kf.lt;have nT:=kb.e.below zM (by omega)
     have b2: w2.cell? ⟨w.heap.size,2,H⟩=J (E A2 n2 c2):=nT.cell 2;have gw:w.heap.size<w2.heap.size:=by omega
     have WB:w.heap.size<=w2.heap.size:=(by omega);clear kf nT an zM l0))
 go_loopw [8,10,32] (λo p u wr=>∃i:Nat,i<=n2/\u=Y I i/\Hid (wr.ownsRow w2.heap.size 3 1 o i ((b.aC.take i).map λx=>Y I x.aL))/\Hid (φ w2 wr)) (λ_ _ u _=>n2 - (ϑ u).toNat)
 case atStart=>exact⟨0,ϛ _,rfl,K ⟨by simp,.inl ⟨rfl,rfl⟩⟩,K (ό _ _)⟩
 case round=>
  obtain⟨i,hi,rfl,GP,hb⟩:=hrel;have aN:=hb.e.size;have st:Δ B w wr:=(Δ.aJ aW.e hB).trans (Δ.aJ (dj.e.trans (hb.e.mono (by omega))) (by omega))
  by_cases ao:i<n2
  ·obtain⟨ad,x,cs,rfl,aE,hx,⟨kv,rfl,dD,dC⟩,-,aq⟩:=R2.e i ao;obtain⟨A6,n6,c6,rfl,-⟩:=dC.Φ;have g0:=cA aq st aE rfl;have g1:=bj aq st aE 0 rfl;have g2:=bj aq st aE 1 rfl;have rK:(ad.add (i * 3)).block<wr.heap.size:=by rw[b9];omega
   have HX:=K hx;clear hx aq dC st;go_wp2_with (first
    | (at_builtin
       refine ĝ _ rfl (.tmp 36) (.tmp 39) 33 rfl w2.heap.size 3 i0 (Y I 0) 1 8 (χ Tryz.underlying33) cy.e.1 cy.e.2.1 cy.e.2.2.1 cy.e.2.2.2 rfl (by decide) _ i _ rfl ((GP.e.alloc _).alloc _) ⟨wr.heap.size+1,0,H⟩ 1 1 [Y I x.aL] rfl rfl ?c1 ?c2 ?c3 ?c4 ?c5 ?_;case c1=>(intro j u hu;match j,hu with|0,hu=>(simp at hu;subst hu;simp[go_sem,Č]))
       case c2=>simp[Value.oneCell']
       case c3=>(simp only[ϕ];omega)
       case c4=>omega
       case c5=>(simp;omega)
       intro v' w3 b7 cW _;have gC:=K b7;have gX:=K cW;clear b7 cW))
   go_roundw;case rel=>exact⟨i+1,by omega,by go_num,K (by rw[pT HX.e,È];exact gC.e),
    K ((hb.e.trans (((ό _ _).alloc aN _).alloc (by simp;omega) _)).grown gX.e (by simp;omega) (λk hk=>dX GP.e k hk))⟩
   case measure=>simp[ϑ];omega
  ·obtain rfl:i=n2:=by omega
   have xJ:((b.aC.take i).map λx=>Y I x.aL)=(od b l 0).map (Y I):=(by rw[Õ (ò yN.e.1)];simp[od]);have ZI:Hid (wr.ownsRow w2.heap.size 3 1 u8 i ((od b l 0).map (Y I))):=K (xJ▸GP.e);have wm:Hid (φ w1 wr):=K (dj.e.trans (hb.e.mono (by omega)))
   have CJ:Bk wr w1.heap.size 122 #[Y I b.ab,E A1 n1 c1,E A2 i c2,E A3 n3 c3,E A9 n9 c9]:=KF.e.below hb.e (by omega);have f0:=CJ.cell 0;have f1:=CJ.cell 1;have f2:=CJ.cell 2;have f3:=CJ.cell 3;have f4:=CJ.cell 4;have GR:=K (UB (w:=wr) (B:=w1.heap.size) (s:=b.ab) (ps:=aB b) (pv:=E A1 n1 c1) (bv:=E A2 i c2) (tv:=E A3 n3 c3) (HO.e.row.still (Δ.aJ wm.e (ϊ _)) λ_ _ h=>h) (by omega) ⟨_,_,_,rfl⟩ ⟨_,_,_,rfl⟩ ⟨_,_,_,rfl⟩)
   obtain⟨G,hG⟩:∃G,G=cB (aB b):=⟨_,rfl⟩
   rw[<-hG] at GR;unfold al.cs at GR;have HG:=K hG;clear hG xJ GP CJ;go_wp2_with (first
    | (go_at_call 115
       refine GR.e.mono ?_;rintro e w3 ⟨rfl,bK⟩;have NF:φ w2 w3:=hb.e.trans (bK.mono (by omega))
       have Lb:=K NF;have Xa:Bk w3 (w.heap.size+1) 27 #[E A n c]:=kl.e.below (dj.e.trans (NF.mono (by omega))) (by omega)
       have l0:=Xa.cell 0;have sc:wr.heap.size<=w3.heap.size:=bK.size;have Pa:w.heap.size+1<w3.heap.size:=by omega
       have asT:w.heap.size+1<=w3.heap.size:=(by omega);have wA:Hid (w3.ownsRow w2.heap.size 3 1 u8 i ((od b l 0).map (Y I))):=K (si ZI.e bK (ϊ _));clear bK NF Xa f0 f1 f2 f3 f4))
   obtain⟨A8,c8,rfl,hA8,hc8,ahi⟩:=JF wA.e;unfold ϕ at ahi;go_loopw [12,13,46] (λp q u wq=>∃j:Nat,j<=n/\u=Y I j/\Hid (wq.ownsRow w2.heap.size 3 1 (E A8 i c8) i ((od b l j).map (Y I)))/\Hid (φ w2 wq)/\Hid (Bk wq w3.heap.size 128 #[Y I G.a,Y I G.b,Y I G.c])) (λ_ _ u _=>n - (ϑ u).toNat);case atStart=>exact⟨0,ϛ _,rfl,K (wA.e.alloc _),K (Lb.e.alloc (by have:=Lb.e.size;omega) _),K (Bk.new w3 _ _)⟩
   case round=>
    obtain⟨wq,rfl⟩:∃wq:N,wq=wr:=⟨_,rfl⟩
    obtain⟨j,hj,rfl,GO,Ev,IF⟩:=hrel;have asL:=Ev.e.size;have IJ:=IF.e.lt;by_cases ao:j<n
    ·obtain⟨ad,x,cs,rfl,aE,hx,rfl,-,aq⟩:=R5.e j ao;obtain⟨bd,fr⟩:=x;have JC:=OK.e.1.lC j _ hx;obtain⟨k,hk,cP⟩:=JC.bt;obtain rfl:bd=(k:Int):=hk;have cq:0<=fr/\fr<=40:=JC.from_;have rS:k<i:=by have:=yN.e.1;omega
     have RF:j<3:=(by have:=OK.e.1.len;have:=OK.e.1.three;have:=yN.e.2;omega);have Vo:(j:Int)<3:=(by omega);obtain⟨g8,rfl,Oc,ahN,arA,ahu⟩:=hA8 (by omega);obtain⟨Sw,xb,csb,eb,UQ,O7,⟨kvb,rfl,asC,ah4⟩,-,UY⟩:=R2.e k rS;subst eb;have asj:(od b l j).length=i:=by rw[YN];exact yN.e.1
     obtain⟨ov,xN⟩:∃ov,(od b l j)[k]?=J ov:=⟨_,Ñ (by omega)⟩
     have st:Δ B w wq:=(Δ.aJ aW.e hB).trans (Δ.aJ (dj.e.trans (Ev.e.mono (by omega))) (by omega));have h0:=cA aq st aE rfl;have h1:=bj aq st aE 0 rfl;have q1:=bj UY st UQ 0 rfl;have o1: wq.cell? ⟨g8,k,H⟩=J (Y I ov):=by have:=vK GO.e k (Y I ov) (by rw[ú,xN];rfl);rwa[kP] at this
     have z1: wq.frozen? ⟨g8,k,H⟩=U:=(by obtain⟨_,_,e,h,_⟩:=JF GO.e;obtain⟨g,e2,_,_,cur,hc⟩:=h (by omega);cases e;cases e2;rw[Go.Sim.zp (a:=⟨g8,k,H⟩) hc];rfl);have kbq:=kb.e.below (dj.e.trans (Ev.e.mono (by omega))) (by omega);have b2: wq.cell? ⟨w.heap.size,2,H⟩=J (E (J Sw) i c2):=kbq.cell 2;have gj: wq.cell? ⟨w3.heap.size,j,H⟩=J (Y I (G.at j)):=(IF.e.cell j).trans (al.wU (n:=G) RF);have VP:kF b k=xb.aL.toNat:=by unfold kF;rw[O7]
     have Cx:=(HV.e.bt xb (ϡ O7)).aL;have hGa:=(UC (aB b) OK.e.2) j;rw[<-HG.e] at hGa;have NX:Hid (od b l (j+1)=(od b l j).set k (min ov (xb.aL - fr - G.at j))):=K (by
      rw[YO];unfold Gg;rw[hx,<-HG.e];simp only[Int.toNat_natCast,xN,Option.getD_some,VP];rw[Int.toNat_of_nonneg (by omega)])
     have y0:g8<wq.heap.size:=(by have:=Lb.e.size;exact ajF (w3:=w3) IF.e.lt ahN);have y1:w.heap.size<wq.heap.size:=(by omega);have y2:w.heap.size<=wq.heap.size:=(by omega);have y3:w3.heap.size<=wq.heap.size:=(by omega);have y4:(Sw.add (k * 3)).block<wq.heap.size:=(by rw[b9];omega);have y5:(ad.add (j * 2)).block<wq.heap.size:=(by rw[b9];omega);have y6:g8<=wq.heap.size:=(by omega);have asi:(k:Int)<i:=(by omega);clear hx aq JC O7 UY ah4 xN kbq st ahu VP;go_wp2;refine tA 24 (by kernel_rfl) (by kernel_rfl) ?_;simp only[ñ,þ,õ,ö];repeat still_step
     refine wpStill_nil ?_;go_wp2;go_roundw;case rel=>exact⟨j+1,by omega,by go_num,K (by
      rw[NX.e,List.map_set];exact(yu (u:=Y I (min ov (xb.aL - fr - G.at j))) GO.e (by omega)).alloc _),
      K (dT ((Ev.e.setCell (p:=⟨g8,k,H⟩) Oc _).alloc (by simp[ü];omega) _)),K (Bk.alloc (IF.e.dV (by simp;omega) _) _)⟩
     case measure=>simp[ϑ];omega
    ·obtain rfl:j=n:=by omega
     go_wp2
     go_ret2
     refine⟨_,rfl,?_,?_⟩
     ·have sV:(C6 b l).length=i:=by unfold C6;rw[YN];exact yN.e.1
      rw[sV];unfold C6;rw[yN.e.2];exact GO.e.base (by omega)
     ·exact aW.e.trans ((dj.e.mono (by omega)).trans (Ev.e.mono (by omega)))
def apd{l:List Cut}(hB:B<=w.heap.size)(ah:aQ w B b pv bv tv)(hl:Row w B 2 Cut.R lv l)(h:bT b (gZ b l)=0)(Fb:Gk b (aB b) l=U):
 ύ prog 31 #[η #[Y I b.ab,pv,bv,tv],lv] w λe w'=>e=Ω (μ #[E H 0 0,Y I 8])/\φ w w':=by
 have st:Δ B w ((w.alloc (Ξ #[Y I b.ab,pv,bv,tv] 26)).alloc (Ξ #[lv] 27)):=((Δ.refl w).alloc hB _).alloc (by simp;omega) _;have aG:=K (ym (w:=((w.alloc (Ξ #[Y I b.ab,pv,bv,tv] 26)).alloc (Ξ #[lv] 27))) (B:=B) (by simp;omega) (ah.still st) (SI (by simp;omega) (ah.still st) (hl.still st λ_ _ h=>h) (Bk.bZ (g:=w.heap.size+1) (by simp) _ _)) h);have hz:=mX h;have hv:=fG hz.1;have OK:=K (Ϗ (Hn hv hz.2.1) (wI hv));have bD:=K ah;have wy:=K hl;have HV:=K hv;have iW:b.aC.length<=3:=hv.nb;have LC:=K Fb;obtain⟨A1,n1,c1,rfl,-⟩:=ah.pieces.Φ;obtain⟨A2,n2,c2,rfl,e2,h2,ei,r2⟩:=ah.aC.Φ;obtain⟨A3,n3,c3,rfl,-⟩:=ah.aI.Φ;obtain⟨A,n,c,rfl,e5,h5,H9,r5⟩:=hl.Φ;have R2:=K r2;have R5:=K r5;have yN:=K (Ϗ e2 e5);unfold ϕ at ei H9;have VV:n2<=3:=by omega
 clear ah hl st hz hv h r2 r5 e2 e5 Fb iW;go_enter func31,Tryz.ntmps31;go_wp2_with (first
  | (go_at_call 98;refine aG.e.mono ?_;rintro e w1 ⟨sv,rfl,aH,ai⟩
     obtain⟨A9,n9,c9,rfl,dh,kW,fg,jz⟩:=aH.row.Φ;have HO:=K aH;have kb:Hid (Bk w1 w.heap.size 26 #[Y I b.ab,E A1 n1 c1,E A2 n2 c2,E A3 n3 c3]):=K (((Bk.new w _ _).alloc _).below ai (by simp;omega))
     have kl:Hid (Bk w1 (w.heap.size+1) 27 #[E A n c]):=K ((Bk.bZ (by simp) _ _).below ai (by simp));have aO:w.heap.size+2<=w1.heap.size:=(by have:=ai.size;simpa using this);have ai3:w.heap.size+1<w1.heap.size:=(by omega);have ai4:w.heap.size+1<=w1.heap.size:=(by omega);have l0:=kl.e.cell 0;have dk:φ w w1:=((((ό _ _).alloc (ϊ _) _).alloc (by simp) _).trans (ai.mono (by simp;omega)))
     have aW:=K dk;have LQ:Hid (ύ prog 114 #[η #[Y I b.ab,E A1 n1 c1,E A2 n2 c2,E A3 n3 c3,E A9 n9 c9],E A n c] (w1.alloc (Ξ #[Y I b.ab,E A1 n1 c1,E A2 n2 c2,E A3 n3 c3,E A9 n9 c9] 122)) λe w'=>e=Ω (.bool U)/\Γ (w1.heap.size+1) (w1.alloc (Ξ #[Y I b.ab,E A1 n1 c1,E A2 n2 c2,E A3 n3 c3,E A9 n9 c9] 122)) w'):=K (by
      have vT:Δ B w (w1.alloc (Ξ #[Y I b.ab,E A1 n1 c1,E A2 n2 c2,E A3 n3 c3,E A9 n9 c9] 122)):=(Δ.aJ dk hB).alloc (by omega) _;refine(Y1 (B:=w1.heap.size) (ps:=aB b) (b:=b) (l:=l) ((bD.e.still vT).more (by omega)) (aH.row.still ((Δ.refl w1).alloc (ϊ _) _) λ_ _ h=>h) ((wy.e.still vT λ_ _ h=>h).more (by omega)) (by simp) OK.e.1 OK.e.2).mono ?_;rintro e w' ⟨rfl,hb⟩;rw[LC.e];exact⟨rfl,hb.mono (by simp)⟩)
     clear ai aH dh jz dk)
  | (go_at_call 114
     refine LQ.e.mono ?_;rintro e w2 ⟨rfl,an⟩;have kf:Bk w2 w1.heap.size 122 #[Y I b.ab,E A1 n1 c1,E A2 n2 c2,E A3 n3 c3,E A9 n9 c9]:=(Bk.new w1 _ _).below an (by omega)
     have KF:=K kf;have zM:φ w1 w2:=((ό _ _).alloc (by omega) _).trans (an.mono (by omega))
     have dj:=K zM;have aZ:w1.heap.size+1<=w2.heap.size:=kf.lt;have nT:=kb.e.below zM (by omega)
     have b2: w2.cell? ⟨w.heap.size,2,H⟩=J (E A2 n2 c2):=nT.cell 2;have gw:w.heap.size<w2.heap.size:=by omega
     have WB:w.heap.size<=w2.heap.size:=(by omega);clear kf nT an zM l0))
 go_ret2
 exact⟨rfl,aW.e.trans (dj.e.mono (by omega))⟩
end Go.Tw
