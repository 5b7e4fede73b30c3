import Derived.Test.YtfifdjajcogccaaGreatDoorZ01
import Derived.Laws.EntriesVeiled
import Derived.DeepKeys5
import Derived.Maps.OwnSet
import Derived.Maps.OwnOps
import Derived.Maps.AppendAt
import Derived.BigRegion
import Derived.ChangeAlike
import Derived.WalkMore
import Derived.Lib.SliceRun
import Derived.Carry
import Derived.Laws.CopyRow
import Derived.Laws.IdiomCopy
import Derived.Laws.CopyOwn
import Derived.Deep.RegionHeld3
import Derived.Maps.Views
set_option linter.all false
set_option maxHeartbeats 64000000
set_option maxRecDepth 100000
open And renaming intro -> ϐ
open Array renaming getElem?_eq_some_iff -> Ϟ, replicate_succ -> Aeq, replicate_zero -> Aer, getElem?_toList -> Ag4
open Bool renaming false_eq -> Ag5
open Classical renaming byContradiction -> Aa5
open Go renaming heap_alloc_new -> Ag6, Program -> ϑ, Operand -> Abp, Ending -> Ag7, grownBy_putObj' -> Ag8, TypeId -> ό, Calls -> ύ, info_parts -> Ag9, maxLen -> ϗ, run_takeDeferred -> Aha, Addr -> ϕ, bodyPost_ret -> Ahb, wpList_append_own -> Ahc, wpList -> Ahd
open Go.Addr renaming add -> Ahe
open Go.Fence renaming wide -> Afk
open Go.Instr renaming index -> Afl, lookup -> Ac7, mapUpdate -> Ada
open Go.IntKind renaming i64 -> Ϛ
open Go.Lib renaming run_eql_slice_nil -> Ahf
open Go.Obj renaming cells -> Ϧ
open Go.Program renaming fieldsOf -> Ahg
open Go.Result renaming andThen -> Ahh
open Go.RowKit renaming intOf -> ϙ
open Go.RowKit.Below renaming heap_setCell -> Afu, grown -> Ahi, setCell -> Ahj, refl -> Ϗ, alloc -> Ahk
open Go.Value renaming int -> ϝ
open Go.World renaming putObj_heap_same -> Ahl, putObj_heap_other -> Ahm, setCell -> Ad2, size_alloc -> Ahn, cell?_alloc_lt -> Afz, cell?_of_block -> Aho, grownBy_alloc -> ϻ
open Go.World.ownsRow renaming alloc -> Ahq
open List renaming nil_append -> Agr, size_toArray -> Agn, length_cons -> Af5, length_nil -> Ago, push_toArray -> Agp, append_toArray -> Agq, cons_append -> Ags, flatMap_append -> Agt, flatMap_singleton -> Ahr, append_nil -> Ahs, flatMap_cons -> Aht, getElem?_append_left -> Ahu, getElem?_eq_some_iff -> ϱ, getElem?_append_right -> Ahv, mem_of_getElem? -> ϩ, length_append -> Af6, mem_flatMap -> Ahw, mem_map -> Ahx, mem_range -> Ahy, length_filter_le -> Agd, take_of_length_le -> Agf, map_append -> Ahz, getElem?_of_mem -> Ah0, range -> ϸ, length_singleton -> Af7, getElem?_eq_getElem -> Af9, take_succ_cons -> Agi, take_zero -> Agj, drop_succ_cons -> Agk, drop_zero -> Agl, mem_append -> Af8, exists_of_findSome?_eq_some -> Ah1, range_succ -> Ah2, getElem?_eq_none -> Ah3, dropLast_concat_getLast -> Ah4, getLast?_eq_some_getLast -> Ah5, mem_of_getLast? -> Ah6, eq_nil_of_length_eq_zero -> Ah7, length_map -> Ah8, getElem?_map -> Ah9, count_le_length -> Aia
open Nat renaming reduceAdd -> Ag0, reduceSub -> Ag1, le_refl -> ϊ, zero_add -> Aib, add_mul -> Aic, mul_le_mul_right -> Aid, le_trans -> Ϥ, pow_le_pow_right -> Aie, zero_le -> ϡ, le_of_eq -> Agw, min_eq_left -> Aif, lt_of_lt_of_le -> Ϡ, lt_succ_iff_lt_or_eq -> Agv
open Option.some renaming inj -> ϟ
open Bool renaming true -> θ, false -> χ
open Go renaming Value -> υ, undef -> ω, World -> Ψ
open Go.Ending renaming returned -> Ω
open Go.IntKind renaming i64 -> κ
open Go.Lib renaming hid -> ψ
open Go.Obj renaming cells -> Ξ
open Go.RowKit renaming Below -> Γ, Below -> Γ
open Go.Value renaming slice -> ζ, pointer -> π, tuple -> μ, agg -> η, int -> ξ
open Option renaming some -> φ, none -> ν
namespace Go.Tw
variable [Go.Tw.aR]
open Go Go.Proofs Go.RowKit
attribute [local go_sem] ze K0 Oper.semAt_some
def uI{w:Ψ}{o:Obj}{g:Nat}(h:g=w.heap.size):(w.alloc o).heap[g]?=φ o:=by subst h;exact Ag6 w _
def mm{w:Ψ}{o o':Obj}{g:Nat}(h:w.heap[g]?=φ o'):(w.alloc o).heap[g]?=φ o':=(Below.heap_alloc w o g (Ϟ.1 h).1).trans h
def ZM{w:Ψ}{b:ao}{pv bv tv:υ}{rec:Loop}{B:Nat}(hB:B<=w.heap.size)(ai:bg w B b pv bv tv)(dh:zz b)(nI:∀p∈b.pieces,0<=p.len.lo/\p.len.hi<=1000)(h3:b.pieces.length<=3)(hK:(aD b).length<=1000)(hY:Lg w b pv bv tv rec)
 {W:Ψ}(hs:W.heap.size=w.heap.size+4)(hc:Bk W (w.heap.size+1) 115 #[ζ ν 0 0])(hd:W.heap[w.heap.size+2]?=φ (.deferred (φ [])))(hl:W.heap[w.heap.size+3]?=φ (.loop rec))(hb:Γ w.heap.size w W)(m:Nat):
 CallsIn Afk m prog 162 #[η #[ξ κ b.ag,pv,bv,tv],.func (.yield (w.heap.size+3)) #[] #[]] W
  λe W'=>(∃v,e=Ω v)/\∃n',AI w b pv bv tv rec n' (aD b) W':=by
 obtain⟨W2,jw⟩:∃W2,W2=((((W.alloc (Ξ #[ξ κ b.ag,pv,bv,tv] 117)).alloc (Ξ #[.func (.yield (w.heap.size+3)) #[] #[]] 182)).alloc (Ξ #[ξ κ 0,ξ κ 0,ξ κ 0] 128)).alloc (Ξ #[.func (.func 188) #[] #[π (φ ⟨W.heap.size,0,ν⟩),π (φ ⟨W.heap.size+1+1,0,ν⟩),π (φ ⟨W.heap.size+1,0,ν⟩),π (φ ⟨W.heap.size+1+1+1,0,ν⟩)]] 158)):=⟨_,rfl⟩
 have e4:w.heap.size+4=W.heap.size:=by omega
 have e5:w.heap.size+5=W.heap.size+1:=by omega
 have e6:w.heap.size+6=W.heap.size+1+1:=by omega
 have e7:w.heap.size+7=W.heap.size+1+1+1:=by omega
 have G6:AI w b pv bv tv rec ⟨0,0,0⟩ [] W2:=by
  subst jw;refine⟨?_,?_,?_,?_,⟨ζ ν 0 0,?_,by simp,.inl ⟨rfl,rfl⟩⟩,?_,?_,?_⟩
  ·rw[e4];exact(((Bk.cG rfl _ _).alloc _).alloc _).alloc _
  ·rw[e5];exact((Bk.cG (by simp) _ _).alloc _).alloc _
  ·rw[e6];exact(Bk.cG (by simp) _ _).alloc _
  ·rw[e4,e5,e6,e7];exact Bk.cG (by simp) _ _
  ·exact(((hc.alloc _).alloc _).alloc _).alloc _
  ·exact mm (mm (mm (mm hd)))
  ·exact mm (mm (mm (mm hl)))
  ·exact(((hb.alloc (by omega) _).alloc (by simp;omega) _).alloc (by simp;omega) _).alloc (by simp;omega) _
 have nO:=Wg hB ai dh nI h3 hY b.pieces.length 0 ⟨0,0,0⟩ [] W2 (m - 1) (by omega) (λq=>by unfold an.at;simp) (by simpa [aD] using hK) G6
 rw[e4,e5,e6,e7,show((0:Nat):Int)=0 from rfl,Agr] at nO
 obtain⟨A1,n1,c1,rfl,-⟩:=ai.pieces.Φ;obtain⟨A2,n2,c2,rfl,-⟩:=ai.aF.Φ;obtain⟨A3,n3,c3,rfl,-⟩:=ai.aJ.Φ;subst jw;have Yx:=ψ nO;clear nO ai hY hd hl hb hc hs G6 e4 e5 e6 e7;refine callsIn_of_wp func162 rfl trivial ?_
 simp only[Tryz.ntmps162,Agn,Af5,Ago,Ag0,Ag1,Aeq,Aer,Agp,Agq,Agr,Ags]
 gi_wp2_with (first
  | (gi_at_call 188;refine Yx.e.mono ?_;rintro e w1 ⟨rfl,n2,nB,G5,xz⟩;have KC:=ψ xz;clear xz G5))
 go_end0
 exact⟨⟨_,rfl⟩,n2,KC.e⟩
end Go.Tw
namespace Go.Tw
variable [Go.Tw.aR]
open Go Go.Proofs Go.RowKit
def yD(fn:FuncId)(tmps:Array υ)(ps:Array Tmp)(assign body:Code)(D:Nat):Loop:={state:=.ready,pending:=ν,fn,tmps,params:=ps,assign,body,defers:=D}
def Pr{n:Nat}{P:ϑ}{g:Abp}{ps:Array Tmp}{assign body:Code}{Q:Exit->Act->Ψ->Prop}{a:Act}{w:Ψ}{gf:Nat}{pre lb:Array υ}
 (hg:a.eval g=.func (.func gf) pre lb)(eg:∀args w,(callFunc gf args).run P w=.ok (.enter gf args) w)
 (h:∀fn rc,Hid (rc=yD fn a.tmps ps assign body w.heap.size)->CallsIn Afk (n - 1) P gf (pre++#[.func (.yield (w.heap.size+1)) #[] #[]]++lb) ((w.alloc (.deferred (φ []))).alloc (.loop rc))
   (rangePost Afk n P (w.heap.size+1) Q {a with defers:={target:=.collected w.heap.size,args:=#[]}::a.defers})):
 (Code.rangeFunc g ps assign body).wpIn Afk n P Q a w:=by
 refine wpIn_rangeFunc λfn _=>?_
 obtain⟨W1,eJ⟩:∃W1,W1=(w.alloc (.deferred (φ []))).alloc (.loop (yD fn a.tmps ps assign body w.heap.size)):=⟨_,rfl⟩
 have h1:=h fn _ (ψ rfl);rw[<-eJ] at h1;have r1:(Instr.enterLoop fn a.tmps ps assign body Afk.round).run P w=.ok (w.heap.size+1,[{target:=.collected w.heap.size,args:=#[]}]) W1:=by
  rw[eJ];exact run_enterLoop_outer fn a.tmps ps assign body
 have r2:(resolve a.eval (rangeCall g (w.heap.size+1)) 0).run P W1=.ok {target:=.fn (.func gf) lb,args:=pre++#[.func (.yield (w.heap.size+1)) #[] #[]]} W1:=by
  simp only[resolve,hg];simp[go_sem]
 have r3:(invoke (.fn (.func gf) lb) (pre++#[.func (.yield (w.heap.size+1)) #[] #[]])).run P W1=.ok (.enter gf (pre++#[.func (.yield (w.heap.size+1)) #[] #[]]++lb)) W1:=by
  simp[invoke,go_sem,eg]
 refine⟨_,_,_,_,_,_,_,_,r1,r2,?_,r3,?_,?_⟩
 ·intro f' _;trivial
 ·intro h;cases h
 ·exact h1
def Qy{m n:Nat}{P:ϑ}{rc:Loop}{fn:FuncId}{tmps:Array υ}{ps:Array Tmp}{assign body:Code}{D l:Nat}{W:Ψ}{args:Array υ}{R:Ag7->Ψ->Prop}
 (gP:Hid (rc=yD fn tmps ps assign body D))(hl:W.heap[l]?=φ (.loop rc))(NU:args.size=ps.size)
 (h:assign.wpIn (Afk.inRound l) n P (Exit.then (λbB aa=>∃aq,(Instr.beginRound l).run P aa=.ok () aq/\body.wpIn (Afk.inRound l) n P (roundPost P l R) bB aq) (λ_ _ _=>False))
   {tmps:=(ps.zip args).foldl (λt (p,v)=>t.setIfInBounds p v) tmps,defers:=[]} W):YieldAt Afk m P l args W R:=by
 rw[gP.e] at hl;refine⟨fn,_,assign,body,run_yield hl NU,?_⟩
 have:=roundIn_of_wpIn (F:=Afk) (l:=l) (f:=fn) (R:=R) trivial h;exact⟨trivial,λc cs _=>this.2 c cs (room_wide _)⟩
def abC{P:ϑ}{rc:Loop}{fn:FuncId}{tmps:Array υ}{ps:Array Tmp}{assign body:Code}{D l:Nat}{W:Ψ}(gP:Hid (rc=yD fn tmps ps assign body D))(hl:W.heap[l]?=φ (.loop rc)):
 (Instr.beginRound l).run P W=.ok () (W.putObj l (.loop {rc with state:=.busy})):=run_beginRound hl (by rw[gP.e];rfl)
def ajP{P:ϑ}{rc:Loop}{fn:FuncId}{tmps:Array υ}{ps:Array Tmp}{assign body:Code}{D l:Nat}{W:Ψ}(gP:Hid (rc=yD fn tmps ps assign body D))(hl:W.heap[l]?=φ (.loop {rc with state:=.busy})):
 (Instr.endRound l ν).run P W=.ok (.bool θ) (W.putObj l (.loop rc)):=by
 rw[run_endRound ν hl,gP.e];rfl
def L7{P:ϑ}{rc:Loop}{fn:FuncId}{tmps:Array υ}{ps:Array Tmp}{assign body:Code}{D l:Nat}{W:Ψ}(gP:Hid (rc=yD fn tmps ps assign body D))(hl:W.heap[l]?=φ (.loop rc)):
 (Instr.endLoop l).run P W=.ok ν (W.putObj l (.loop {rc with state:=.exhausted})):=by
 rw[run_endLoop hl (by rw[gP.e];simp[yD]),gP.e];rfl
def SQ{P:ϑ}{rc:Loop}{l:Nat}{W:Ψ}(j:Code)(hl:W.heap[l]?=φ (.loop {rc with state:=.busy})):
 (Instr.endRound l (φ j)).run P W=.ok (.bool χ) (W.putObj l (.loop {rc with state:=.done,pending:=φ j})):=run_endRound (r:={rc with state:=.busy}) (φ j) hl
def SW{P:ϑ}{rc:Loop}{l:Nat}{W:Ψ}{j:Code}(hl:W.heap[l]?=φ (.loop {rc with state:=.done,pending:=φ j})):
 (Instr.endLoop l).run P W=.ok (φ j) (W.putObj l (.loop {rc with state:=.exhausted,pending:=φ j})):=run_endLoop (r:={rc with state:=.done,pending:=φ j}) hl (by simp)
end Go.Tw
namespace Go.Tw
variable [Go.Tw.aR]
open Go Go.Proofs Go.RowKit
attribute [local go_sem] ze K0 Oper.semAt_some
def agc:(prog.info? 128).map (λi=>(i.zero,i.size,i.bytes))=φ (φ (η #[ξ κ 0,ξ κ 0,ξ κ 0]),3,24):=by
 rw[pB];kernel_rfl
structure RB(w W Wb:Ψ)(rc:Loop)(v:υ)(n:an)(out:List an):Prop where
 size:Wb.heap.size=W.heap.size+1
 l:Wb.heap[w.heap.size+3]?=φ (.loop {rc with state:=.busy})
 o:Bk Wb (w.heap.size+1) 115 #[v]
 own:Wb.ownsRow (w.heap.size+8) 128 3 v out.length (out.flatMap an.vs)
 nb:Bk Wb W.heap.size 128 n.cs
 old:∀g,g<W.heap.size->g≠w.heap.size+3->Wb.heap[g]?=W.heap[g]?
 below:Γ w.heap.size w Wb
def RB.mk'{w:Ψ}{b:ao}{pv bv tv:υ}{rc:Loop}{m n:an}{out:List an}{W:Ψ}(h:AI w b pv bv tv rc m out W):
 ∃v,RB w W ((W.alloc (.cells n.cs 128)).putObj (w.heap.size+3) (.loop {rc with state:=.busy})) rc v n out:=by
 obtain⟨v,v1,v2⟩:=h.o;have hx:=h.x.lt;refine⟨v,⟨by simp,Ahl (by simp;omega),?_,?_,?_,λg hg aw=>?_,?_⟩⟩
 ·exact(Ahm (by omega)).trans (v1.alloc _)
 ·refine⟨v2.1,?_⟩
  rcases v2.2 with h0| ⟨g,cap,cur,h1,h2,h3,h4⟩
  ·exact .inl h0
  ·exact .inr ⟨g,cap,cur,h1,h2,(Ahm (by omega)).trans (mm h3),h4⟩
 ·exact(Ahm (by omega)).trans (Bk.new W _ _)
 ·exact(Ahm (by omega)).trans (Below.heap_alloc _ _ _ hg)
 ·exact(h.below.alloc (by omega) _).grown (Ag8 _ _ _) (by simp;omega) (λk hk=>by cases hk;omega)
def j8{w:Ψ}{base:Nat}{e:ό}{sz n:Nat}{v:υ}{xs:List υ}(h:w.ownsRow base e sz v n xs):∃A m c,v=ζ A m c:=by
 rcases h.2 with⟨rfl,_⟩ | ⟨g,cap,cur,rfl,_⟩
 ·exact⟨_,_,_,rfl⟩
 ·exact⟨_,_,_,rfl⟩
def RB.later{w W Wb W4:Ψ}{rc:Loop}{v:υ}{n:an}{out:List an}{o:Obj}(r:RB w W Wb rc v n out)(hs:w.heap.size+8<=W.heap.size)(hg:(Wb.alloc o).grownBy W4 v.ownBlock):
 Bk W4 (w.heap.size+1) 115 #[v]/\W4.heap[w.heap.size+3]?=φ (.loop {rc with state:=.busy}):=by
 have ob:∀k,v.ownBlock=φ k->w.heap.size+8<=k:=ei r.own
 have e4:∀g,g<w.heap.size+8->W4.heap[g]?=Wb.heap[g]?:=λg oy=>(hg.block g (by simp[r.size];omega) (λe=>by have:=ob g e.symm;omega)).trans (Below.heap_alloc _ _ _ (by rw[r.size];omega))
 exact⟨(e4 _ (by omega)).trans r.o,(e4 _ (by omega)).trans r.l⟩
def EK{w:Ψ}{base:Nat}{e:ό}{sz n g':Nat}{v:υ}{xs:List υ}{o:Obj}(h:w.ownsRow base e sz v n xs)(hg:g'<base):(w.putObj g' o).ownsRow base e sz v n xs:=by
 refine⟨h.1,?_⟩
 rcases h.2 with h0| ⟨g,cap,cur,h1,h2,h3,h4⟩
 ·exact .inl h0
 ·exact .inr ⟨g,cap,cur,h1,h2,(Ahm (by omega)).trans h3,h4⟩
def _root_.Go.World.ownsRow.base{w:Ψ}{base sV:Nat}{e:ό}{sz n:Nat}{v:υ}{xs:List υ}(h:w.ownsRow base e sz v n xs)(hb:sV<=base):w.ownsRow sV e sz v n xs:=by
 refine⟨h.1,?_⟩
 rcases h.2 with h0| ⟨g,cap,cur,h1,h2,h3,h4⟩
 ·exact .inl h0
 ·exact .inr ⟨g,cap,cur,h1,by omega,h3,h4⟩
def RB.done{w:Ψ}{b:ao}{pv bv tv:υ}{rc:Loop}{n:an}{out:List an}{W Wb W4:Ψ}{v v':υ}{o:Obj}(h:AI w b pv bv tv rc n out W)(r:RB w W Wb rc v n out)
 (aG:W4.ownsRow (w.heap.size+8) 128 3 v' (out.length+1) (out.flatMap an.vs++n.vs))(hg:(Wb.alloc o).grownBy W4 v.ownBlock):
 AI w b pv bv tv rc n (out++ [n]) ((W4.setCell ⟨w.heap.size+1,0,ν⟩ v').putObj (w.heap.size+3) (.loop rc)):=by
 have hx:=h.x.lt;have ob:∀k,v.ownBlock=φ k->w.heap.size+8<=k:=ei r.own
 have ob':∀k,v'.ownBlock=φ k->w.heap.size+8<=k:=ei aG
 have e4:∀g,g<w.heap.size+8->W4.heap[g]?=Wb.heap[g]?:=λg oy=>(hg.block g (by simp[r.size];omega) (λe=>by have:=ob g e.symm;omega)).trans (Below.heap_alloc _ _ _ (by rw[r.size];omega))
 have e6:∀g,g<w.heap.size+8->g≠w.heap.size+3->g≠w.heap.size+1->((W4.setCell ⟨w.heap.size+1,0,ν⟩ v').putObj (w.heap.size+3) (.loop rc)).heap[g]?=W.heap[g]?:=λg oy h3 h1=>
  (Ahm h3).trans ((Afu _ _ _ _ (by simpa using h1)).trans ((e4 g oy).trans (r.old g (by omega) h3)))
 have tK:w.heap.size+8<=W4.heap.size:=by have:=hg.size;simp[r.size] at this;omega
 refine⟨(e6 _ (by omega) (by omega) (by omega)).trans h.p,(e6 _ (by omega) (by omega) (by omega)).trans h.y,(e6 _ (by omega) (by omega) (by omega)).trans h.n,(e6 _ (by omega) (by omega) (by omega)).trans h.x,
  ⟨v',?_,?_⟩,(e6 _ (by omega) (by omega) (by omega)).trans h.d,Ahl (by simp[Ad2];omega),?_⟩
 ·have h4:Bk W4 (w.heap.size+1) 115 #[v]:=(e4 _ (by omega)).trans r.o
  exact(Ahm (by omega)).trans (h4.set 0 v')
 ·have e:(out++ [n]).length=out.length+1:=by simp
  rw[e,Agt,Ahr];refine⟨aG.1,?_⟩
  rcases aG.2 with h0| ⟨g,cap,cur,h1,h2,h3,h4⟩
  ·exact .inl h0
  ·exact .inr ⟨g,cap,cur,h1,h2,(Ahm (by omega)).trans ((Afu _ _ _ _ (by simp;omega)).trans h3),h4⟩
 ·refine Ahi (w:=W4.setCell ⟨w.heap.size+1,0,ν⟩ v') ?_ (Ag8 _ _ _) (by simp[Ad2];omega) (λk hk=>by cases hk;omega)
  refine Ahj ?_ (by simp) _
  exact Ahi (r.below.alloc (by rw[r.size];omega) _) hg (by simp[r.size];omega) (λk hk=>by have:=ob k hk;omega)
def Zi{w:Ψ}{b:ao}{pv bv tv:υ}{B:Nat}(hB:B<=w.heap.size)(ai:bg w B b pv bv tv)(dh:zz b)(nI:∀p∈b.pieces,0<=p.len.lo/\p.len.hi<=1000)(h3:b.pieces.length<=3)(hK:(aD b).length<=1000):
 ύ prog 96 #[η #[ξ κ b.ag,pv,bv,tv]] w λe w'=>∃v,e=Ω v/\w'.ownsRow w.heap.size 128 3 v (aD b).length ((aD b).flatMap an.vs)/\Γ w.heap.size w w':=by
 refine(callsIn_wide (n:=0)).1 ?_
 have bT:=ψ ai;obtain⟨A1,n1,c1,rfl,-⟩:=ai.pieces.Φ;obtain⟨A2,n2,c2,rfl,-⟩:=ai.aF.Φ;obtain⟨A3,n3,c3,rfl,-⟩:=ai.aJ.Φ;clear ai;obtain⟨i0,cR,cT,aN,ba⟩:=Ag9 agc;have dv:=ψ (ϐ cR (ϐ cT (ϐ aN ba)));clear cR cT aN ba;refine callsIn_of_wp_marks func96 rfl trivial ?_
 simp only[Tryz.ntmps96,Agn,Af5,Ago,Ag0,Ag1,Aeq,Aer,Agp,Agq,Agr,Ags]
 gi_wp2
 refine Pr (gf:=162) (pre:=#[η #[ξ κ b.ag,ζ A1 n1 c1,ζ A2 n2 c2,ζ A3 n3 c3]]) (lb:=#[]) rfl call162 λfn rc gP=>?_
 simp only[Ahn,Nat.add_assoc,Ag0,Agq,Ags,Agr,Ahs];refine(ZM (w:=w) hB bT.e dh nI h3 hK (rec:=rc) ?yround (by simp) (((Bk.cG (by simp) _ _).alloc _).alloc _) (mm (uI (by simp))) (uI (by simp)) (((((Ϗ _ _).alloc (ϊ _) _).alloc (by simp) _).alloc (by simp;omega) _).alloc (by simp;omega) _) _).mono ?_
 case yround=>
  intro m n out W hlen hI;have HI:=ψ hI;refine Qy (n:=0) gP hI.l rfl ?_
  clear hI;simp only[List.zip_toArray,List.zip_cons_cons,List.zip_nil_right,List.foldl_toArray,List.foldl_cons,List.foldl_nil];obtain⟨na,nb,nc⟩:=n;simp only[an.cs]
  gi_wp2
  obtain⟨v,mF⟩:=RB.mk' (n:=⟨na,nb,nc⟩) HI.e;refine⟨_,abC gP (mm HI.e.l),?_⟩
  obtain⟨Wb,qe⟩:∃Wb,Wb=(W.alloc (Ϧ #[ϝ Ϛ na,ϝ Ϛ nb,ϝ Ϛ nc] 128)).putObj (w.heap.size+3) (.loop {rc with state:=.busy}):=⟨_,rfl⟩
  replace mF:RB w W Wb rc v ⟨na,nb,nc⟩ out:=by rw[qe];exact mF
  rw[<-qe];clear qe;have HR:=ψ mF;have b0: Wb.cell? ⟨w.heap.size+1,0,ν⟩=φ v:=mF.o.cell 0;have z0:=mF.o.frozen 0;have c0: Wb.cell? ⟨W.heap.size,0,ν⟩=φ (ξ κ na):=mF.nb.cell 0;have c1: Wb.cell? ⟨W.heap.size,1,ν⟩=φ (ξ κ nb):=mF.nb.cell 1;have c2: Wb.cell? ⟨W.heap.size,2,ν⟩=φ (ξ κ nc):=mF.nb.cell 2;clear mF
  gi_wp2_with (first
   | (gi_at_builtin
      refine wpListIn_append_own _ rfl (.tmp 8) (.tmp 10) 115 rfl (w.heap.size+8) 128 i0 (η #[ξ κ 0,ξ κ 0,ξ κ 0]) 3 24 (U Tryz.underlying115) dv.e.1 dv.e.2.1 dv.e.2.2.1 dv.e.2.2.2 rfl (by decide) _ out.length _ rfl (HR.e.own.alloc _) ⟨Wb.heap.size,0,ν⟩ 1 1 [ξ κ na,ξ κ nb,ξ κ nc] rfl rfl ?c1 ?c2 ?c3 ?c4 ?c5 ?_
      case c1=>(intro j u hu;match j,hu with|0,hu=>(simp at hu;subst hu;simp[go_sem,Ahe]) |1,hu=>(simp at hu;subst hu;simp[go_sem,Ahe]) |2,hu=>(simp at hu;subst hu;simp[go_sem,Ahe]))
      case c2=>simp[Value.oneCell']
      case c3=>(simp only[ϗ];omega)
      case c4=>omega
      case c5=>(have:=HR.e.size;have:=HI.e.x.lt;simp;omega)
      intro v' w1 cK dT _;obtain⟨A9,m9,c9,rfl⟩:=j8 cK;have HL:=ψ (HR.e.later (by have:=HI.e.x.lt;omega) dT)
      have s0: w1.cell? ⟨w.heap.size+1,0,ν⟩=φ v:=HL.e.1.cell 0;have s1:=HL.e.1.frozen 0;have gW:=ψ cK;have gV:=ψ dT;clear cK dT))
  refine⟨_,_,ajP gP ((Afu _ _ _ _ (by simp)).trans HL.e.2),rfl,?_⟩
  exact HR.e.done HI.e gW.e gV.e
 ·rintro e W2 ⟨⟨v,rfl⟩,n',hI⟩
  have HI:=ψ hI;refine⟨ν,_,L7 gP hI.l,?_⟩
  clear hI;obtain⟨v2,vC,AK⟩:=HI.e.o;obtain⟨A9,m9,c9,rfl⟩:=j8 AK;have HV:=ψ AK;obtain⟨W3,iL⟩:∃W3,W3=W2.putObj (w.heap.size+3) (.loop {rc with state:=.exhausted}):=⟨_,rfl⟩
  have k1: W3.cell? ⟨w.heap.size+1,0,ν⟩=φ (ζ A9 m9 c9):=by rw[iL];exact Bk.cell (g:=w.heap.size+1) ((Ahm (by omega)).trans vC) 0
  have HD:Hid (W3.heap[w.heap.size+2]?=φ (.deferred (φ []))):=ψ (by rw[iL];exact(Ahm (by omega)).trans HI.e.d)
  have HB:Hid (Γ w.heap.size w W3):=ψ (by rw[iL];exact HI.e.below.grown (Ag8 _ _ _) (by have:=HI.e.x.lt;omega) (λk hk=>by cases hk;omega))
  have HO:Hid (W3.ownsRow (w.heap.size+8) 128 3 (ζ A9 m9 c9) (aD b).length ((aD b).flatMap an.vs)):=ψ (by
   rw[iL];refine⟨HV.e.1,?_⟩
   rcases HV.e.2 with h0| ⟨g,cap,cur,h1,h2,h3,h4⟩
   ·exact .inl h0
   ·exact .inr ⟨g,cap,cur,h1,h2,(Ahm (by omega)).trans h3,h4⟩)
  rw[<-iL];clear iL vC AK
  gi_wp2
  refine⟨by simp,.inl ⟨_,_,rfl,Aha HD.e,?_⟩⟩
  refine⟨_,results_tmp rfl _ _ _,_,rfl,(EK HO.e (by omega)).base (by omega),HB.e.grown (Ag8 _ _ _) ?_ (λk hk=>by cases hk;omega)⟩
  have:=HB.e.size;omega
end Go.Tw
namespace Go.Tw
variable [Go.Tw.aR]
open Go Go.Proofs Go.RowKit
def GL{α:Type}{f:α->List υ}{sz:Nat}(hf:∀x,(f x).length=sz):∀(l:List α) (i:Nat) (x:α) (j:Nat) (u:υ),l[i]?=φ x->(f x)[j]?=φ u->(l.flatMap f)[i * sz+j]?=φ u
 | [],i,x,j,u,hi,_=>by simp at hi
 |a::l,0,x,j,u,hi,hu=>by
  simp at hi;subst hi;rw[Aht,Nat.zero_mul,Aib,Ahu (ϱ.1 hu).1]
  exact hu
 |a::l,i+1,x,j,u,hi,hu=>by
  rw[Aht,Ahv (by rw[hf,Aic];omega),hf]
  have e:(i+1) * sz+j - sz=i * sz+j:=by rw[Aic];omega
  rw[e];exact GL hf l i x j u (by simpa using hi) hu
def lu{α:Type}{w:Ψ}{base:Nat}{e:ό}{sz:Nat}{v:υ}{R:α->List υ->Prop}{f:α->List υ}{l:List α}(h:w.ownsRow base e sz v l.length (l.flatMap f))(hf:∀x,(f x).length=sz)(hR:∀x∈l,R x (f x)):
 Row w w.heap.size sz R v l:=by
 rcases h.2 with⟨rfl,h0⟩ | ⟨g,cap,cur,rfl,h2,h3,h4,h5,h6,h7⟩
 ·have:l=[]:=List.length_eq_zero_iff.1 h0
  subst this;exact Row.nil
 ·refine⟨φ ⟨g,0,ν⟩,cap,rfl,h4,h5,λ_=>⟨⟨g,0,ν⟩,rfl,(Ϟ.1 h3).1,λi x hx=>⟨f x,hR x (ϩ hx),hf x,λj u hu=>?_⟩⟩⟩
  have al:j<sz:=by have:=(ϱ.1 hu).1;rw[hf] at this;exact this
  have h8:=GL hf l i x j u hx hu;rw[<-h7,List.getElem?_take] at h8
  have qp:i * sz+j<l.length * sz:=by
   have qp:=(ϱ.1 hx).1
   calc i * sz+j<i * sz+sz:=by omega
    _=(i+1) * sz:=by rw[Aic];omega
    _<=l.length * sz:=Aid _ qp
  rw[if_pos qp] at h8;have e:(⟨g,0,ν⟩:ϕ).add (i * sz+j)=⟨g,i * sz+j,ν⟩:=by
   unfold Ahe;split
   ·rename_i h;rw[h]
   ·simp
  rw[e];exact(cell_of_row w g (i * sz+j) cur _ (0,0) h3).trans (by rw[<-Ag4];exact h8)
def ahb{w:Ψ}{base:Nat}{v:υ}{l:List an}(h:w.ownsRow base 128 3 v l.length (l.flatMap an.vs)):Row w w.heap.size 3 an.R v l:=lu h (λ_=>rfl) λ_ _=>rfl
def aeg{b:ao}(hw:∀p∈b.pieces,p.len.hi - p.len.lo<3):∀(f i:Nat) (n:an),(eu b f i n).length<=3 ^ f
 |0,i,n=>by unfold eu;split<;>simp
 |f+1,i,n=>by
  unfold eu;cases h:b.pieces[i]? with
  |none=>simp
  |some p=>
   have h1:=hw p (ϩ h);have h2:(mR p.len).length<=3:=by rw[PZ];omega
   simp only;have key:∀l:List Int,(l.flatMap λk=>eu b f (i+1) (n.set i k)).length<=l.length * 3 ^ f:=by
    intro l;induction l with
    |nil=>simp
    |cons a l ih=>
     rw[Aht,Af6,Af5,Aic,Nat.one_mul,Nat.add_comm];exact Nat.add_le_add ih (aeg hw f (i+1) _)
   refine Ϥ (key _) ?_
   rw[Nat.pow_succ,Nat.mul_comm (3 ^ f)];exact Aid _ h2
def Ct{b:ao}(hv:Valid b):(aD b).length<=27:=by
 refine Ϥ (aeg (λp hp=>(hv.piece p hp).wide) _ _ _) ?_
 exact Aie (n:=3) (by omega) hv.np.2
def eo{w:Ψ}{base:Nat}{e:ό}{sz n:Nat}{v u:υ}{p:ϕ}{xs:List υ}(h:w.ownsRow base e sz v n xs)(hg:p.block<base):(w.setCell p u).ownsRow base e sz v n xs:=by
 refine⟨h.1,?_⟩
 rcases h.2 with h0| ⟨g,cap,cur,h1,h2,h3,h4⟩
 ·exact .inl h0
 ·exact .inr ⟨g,cap,cur,h1,h2,(Afu _ _ _ _ (by omega)).trans h3,h4⟩
def qQ(w:Ψ)(base:Nat)(v:υ)(l:List an):Prop:=w.ownsRow base 128 3 v l.length (l.flatMap an.vs)
def qQ.row{w:Ψ}{base:Nat}{v:υ}{l:List an}(h:qQ w base v l):Row w w.heap.size 3 an.R v l:=ahb h
def qQ.set{w:Ψ}{base:Nat}{v u:υ}{p:ϕ}{l:List an}(h:qQ w base v l)(hp:p.block<base):qQ (w.setCell p u) base v l:=eo h hp
def qQ.alloc{w:Ψ}{base:Nat}{v:υ}{l:List an}(h:qQ w base v l)(o:Obj):qQ (w.alloc o) base v l:=Ahq h o
def qQ.base{w:Ψ}{base sV:Nat}{v:υ}{l:List an}(h:qQ w base v l)(hb:sV<=base):qQ w sV v l:=World.ownsRow.base h hb
def all{w:Ψ}{b:ao}{pv bv tv:υ}{B:Nat}(hB:B<=w.heap.size)(ai:bg w B b pv bv tv)(hv:Valid b):
 ύ prog 96 #[η #[ξ κ b.ag,pv,bv,tv]] w λe w'=>∃v,e=Ω v/\qQ w' w.heap.size v (aD b)/\Γ w.heap.size w w':=
 (Zi hB ai hv.amb (λp hp=>⟨by have:=(hv.piece p hp).lo;omega,by have:=(hv.piece p hp).hi;omega⟩) hv.np.2 (by have:=Ct hv;omega)).mono λ_ _ ⟨v,h1,h2,h3⟩=>⟨v,h1,h2,h3⟩
def cj(b:ao)(s:Int):Int:=if dF b≠0 then dF b else if s≠0 then s else if(aD b).length=0 then 9 else 0
def sK(b:ao)(pv bv tv:υ)(w:Ψ)(K:Nat)(lb:Array υ)(s:Int):Prop:=
 (∀args w,(callFunc K args).run prog w=.ok (.enter K args) w)/\(dF b=0->∀W:Ψ,Γ w.heap.size w W->ύ prog K (#[η #[ξ κ b.ag,pv,bv,tv]]++lb) W λe W'=>e=Ω (ξ κ s)/\Γ W.heap.size W W')
def ry{b:ao}{pv bv tv:υ}{w:Ψ}{B:Nat}(hb:bg w B b pv bv tv)(hB:B<=w.heap.size)(h:dF b=0):
 ύ prog 68 #[η #[ξ κ b.ag,pv,bv,tv]] w λe w'=>e=Ω (ξ κ 0)/\Γ w.heap.size w w':=by
 have:=LS hb hB;rwa[h] at this
def ajk{w:Ψ}{b:ao}{pv bv tv:υ}{B:Nat}{g:υ}(hB:B<=w.heap.size)(ai:bg w B b pv bv tv)(h0:dF b≠0):
 ύ prog 98 #[η #[ξ κ b.ag,pv,bv,tv],g] w λe w'=>e=Ω (μ #[η #[ξ κ 0,ζ ν 0 0,ζ ν 0 0,ζ ν 0 0,ζ ν 0 0],ξ κ (dF b)])/\Γ w.heap.size w w':=by
 have bT:=ψ ai;obtain⟨A1,n1,c1,rfl,-⟩:=ai.pieces.Φ;obtain⟨A2,n2,c2,rfl,-⟩:=ai.aF.Φ;obtain⟨A3,n3,c3,rfl,-⟩:=ai.aJ.Φ;clear ai;go_enter func98,Tryz.ntmps98;go_wp2_with (first
  | (go_at_call 68;refine(LS (bT.e.still ((((Δ.refl w).alloc hB _).alloc (by simp;omega) _))) (by simp;omega)).mono ?_;rintro e w1 ⟨rfl,ae⟩;obtain⟨ff,gM⟩:=fy ae rfl;have aY:=ψ ae;clear ae))
 refine Ahb (v:=μ #[η #[ξ κ 0,ζ ν 0 0,ζ ν 0 0,ζ ν 0 0,ζ ν 0 0],ξ κ (dF b)]) (by simp[results,Tryz.results98,go_sem,ff,gM]) rfl ⟨rfl,?_⟩
 repeat refine Ahj ?_ (by simp) _
 exact(((Ϗ _ _).alloc (ϊ _) _).alloc (by simp) _).trans (aY.e.mono (by simp;omega))
def ajl{w:Ψ}{b:ao}{pv bv tv:υ}{B K:Nat}{lb:Array υ}{s:Int}(hB:B<=w.heap.size)(ai:bg w B b pv bv tv)(hK:sK b pv bv tv w K lb s)(h0:dF b=0)(hs:s≠0):
 ύ prog 98 #[η #[ξ κ b.ag,pv,bv,tv],fv K lb] w λe w'=>e=Ω (μ #[η #[ξ κ 0,ζ ν 0 0,ζ ν 0 0,ζ ν 0 0,ζ ν 0 0],ξ κ s])/\Γ w.heap.size w w':=by
 obtain⟨eg,hK⟩:=hK;have HK:=ψ (hK h0);have bT:=ψ ai;have H0:=ψ h0;obtain⟨A1,n1,c1,rfl,-⟩:=ai.pieces.Φ;obtain⟨A2,n2,c2,rfl,-⟩:=ai.aF.Φ;obtain⟨A3,n3,c3,rfl,-⟩:=ai.aJ.Φ;clear ai hK h0;go_enter func98,Tryz.ntmps98;go_wp2_with (first
  | (go_at_call 68;refine(ry (bT.e.still ((((Δ.refl w).alloc hB _).alloc (by simp;omega) _))) (by simp;omega) H0.e).mono ?_;rintro e w1 ⟨rfl,ae⟩
     have aN:w.heap.size+2<=w1.heap.size:=by have:=ae.size;simpa using this
     have k1:Hid (Bk w1 (w.heap.size+1) 122 #[ξ κ 0,ζ ν 0 0,ζ ν 0 0,ζ ν 0 0,ζ ν 0 0]):=ψ ((Bk.cG (by simp) _ _).below ae (by simp))
     have kb:Bk w1 w.heap.size 26 #[ξ κ b.ag,ζ A1 n1 c1,ζ A2 n2 c2,ζ A3 n3 c3]:=((Bk.new w _ _).alloc _).below ae (by simp;omega)
     have b0:=kb.cell 0;have b1:=kb.cell 1;have b2:=kb.cell 2;have b3:=kb.cell 3;clear kb;have aY:Hid (Γ w.heap.size w w1):=ψ ((((Ϗ _ _).alloc (ϊ _) _).alloc (by simp) _).trans (ae.mono (by simp;omega)));clear ae))
 refine(HK.e _ (aY.e.alloc (by omega) _)).mono ?_
 rintro e w2 ⟨rfl,ak⟩;have k2:Bk w2 (w.heap.size+1) 122 #[ξ κ 0,ζ ν 0 0,ζ ν 0 0,ζ ν 0 0,ζ ν 0 0]:=(k1.e.alloc _).below ak (by simp;omega)
 have dV:=ψ (cU aY.e ak (by omega))
 have r0:=k2.cell 0;have r1:=k2.cell 1;have r2:=k2.cell 2;have r3:=k2.cell 3;have r4:=k2.cell 4;have z0:=k2.frozen 0;have z1:=k2.frozen 1;have z2:=k2.frozen 2;have z3:=k2.frozen 3;have z4:=k2.frozen 4;clear ak k2;go_wp2;refine Ahb (v:=μ #[η #[ξ κ 0,ζ ν 0 0,ζ ν 0 0,ζ ν 0 0,ζ ν 0 0],ξ κ s]) (by simp[results,Tryz.results98,go_sem,r0,r1,r2,r3,r4]) rfl ⟨rfl,?_⟩
 repeat refine Ahj ?_ (by simp) _
 exact dV.e
def ajm{w:Ψ}{b:ao}{pv bv tv:υ}{B K:Nat}{lb:Array υ}(hB:B<=w.heap.size)(ai:bg w B b pv bv tv)(hK:sK b pv bv tv w K lb 0)(h0:dF b=0)(ha:(aD b).length=0):
 ύ prog 98 #[η #[ξ κ b.ag,pv,bv,tv],fv K lb] w λe w'=>e=Ω (μ #[η #[ξ κ 0,ζ ν 0 0,ζ ν 0 0,ζ ν 0 0,ζ ν 0 0],ξ κ 9])/\Γ w.heap.size w w':=by
 obtain⟨eg,hK⟩:=hK;have HK:=ψ (hK h0);have bT:=ψ ai;have H0:=ψ h0;have HA:=ψ ha;obtain⟨A1,n1,c1,rfl,-⟩:=ai.pieces.Φ;obtain⟨A2,n2,c2,rfl,-⟩:=ai.aF.Φ;obtain⟨A3,n3,c3,rfl,-⟩:=ai.aJ.Φ;clear ai hK h0 ha;go_enter func98,Tryz.ntmps98;go_wp2_with (first
  | (go_at_call 68;refine(ry (bT.e.still ((((Δ.refl w).alloc hB _).alloc (by simp;omega) _))) (by simp;omega) H0.e).mono ?_;rintro e w1 ⟨rfl,ae⟩
     have aN:w.heap.size+2<=w1.heap.size:=by have:=ae.size;simpa using this
     have k1:Hid (Bk w1 (w.heap.size+1) 122 #[ξ κ 0,ζ ν 0 0,ζ ν 0 0,ζ ν 0 0,ζ ν 0 0]):=ψ ((Bk.cG (by simp) _ _).below ae (by simp))
     have kb:Bk w1 w.heap.size 26 #[ξ κ b.ag,ζ A1 n1 c1,ζ A2 n2 c2,ζ A3 n3 c3]:=((Bk.new w _ _).alloc _).below ae (by simp;omega)
     have b0:=kb.cell 0;have b1:=kb.cell 1;have b2:=kb.cell 2;have b3:=kb.cell 3;clear kb;have aY:Hid (Γ w.heap.size w w1):=ψ ((((Ϗ _ _).alloc (ϊ _) _).alloc (by simp) _).trans (ae.mono (by simp;omega)));clear ae))
 refine(HK.e _ (aY.e.alloc (by omega) _)).mono ?_
 rintro e w2 ⟨rfl,ak⟩;have k2:Hid (Bk w2 (w.heap.size+1) 122 #[ξ κ 0,ζ ν 0 0,ζ ν 0 0,ζ ν 0 0,ζ ν 0 0]):=ψ ((k1.e.alloc _).below ak (by simp;omega))
 have l2:Hid (Bk w2 w1.heap.size 117 #[ξ κ b.ag,ζ A1 n1 c1,ζ A2 n2 c2,ζ A3 n3 c3]):=ψ ((Bk.new w1 _ _).below ak (by simp))
 have ba:w1.heap.size+1<=w2.heap.size:=by have:=ak.size;simpa using this
 have dV:=ψ (cU aY.e ak (by omega))
 have q0:=l2.e.cell 0;have q1:=l2.e.cell 1;have q2:=l2.e.cell 2;have q3:=l2.e.cell 3;clear ak b0 b1 b2 b3;go_wp2_with (first
  | (go_at_call 96;refine(all (B:=B) (by omega) (bT.e.still (Δ.aK dV.e hB)) (iy H0.e)).mono ?_;rintro e w3 ⟨v,rfl,eI,bD⟩
     have HR:=ψ eI;obtain⟨A9,n9,c9,rfl,cY,-⟩:=eI.row.Φ;have h9:((n9:Int)==0)=θ:=(by have:=HA.e;simp;omega)
     have k3:Bk w3 (w.heap.size+1) 122 #[ξ κ 0,ζ ν 0 0,ζ ν 0 0,ζ ν 0 0,ζ ν 0 0]:=k2.e.below bD (by omega)
     have l3:Bk w3 w1.heap.size 117 #[ξ κ b.ag,ζ A1 n1 c1,ζ A2 n2 c2,ζ A3 n3 c3]:=l2.e.below bD (by omega)
     have fw:=ψ (chain dV.e bD (by omega))
     have q0:=l3.cell 0;have q1:=l3.cell 1;have q2:=l3.cell 2;have q3:=l3.cell 3;have r0:=k3.cell 0;have r1:=k3.cell 1;have r2:=k3.cell 2;have r3:=k3.cell 3;have r4:=k3.cell 4;have z0:=k3.frozen 0;have z1:=k3.frozen 1;have z2:=k3.frozen 2;have z3:=k3.frozen 3;have z4:=k3.frozen 4;have jB:Hid (w1.heap.size<=w3.heap.size):=ψ (by have:=bD.size;omega)
     clear bD k3 l3 eI cY))
 refine Ahb (v:=μ #[η #[ξ κ 0,ζ ν 0 0,ζ ν 0 0,ζ ν 0 0,ζ ν 0 0],ξ κ 9]) (by simp[results,Tryz.results98,go_sem,r0,r1,r2,r3,r4]) rfl ⟨rfl,?_⟩
 repeat refine Ahj ?_ (by simp) _
 exact fw.e
def ajo{w:Ψ}{b:ao}{pv bv tv:υ}{B K:Nat}{lb:Array υ}(hB:B<=w.heap.size)(ai:bg w B b pv bv tv)(hK:sK b pv bv tv w K lb 0)(h0:dF b=0)(ha:(aD b).length≠0):
 ύ prog 98 #[η #[ξ κ b.ag,pv,bv,tv],fv K lb] w λe w'=>∃sv,e=Ω (μ #[η #[ξ κ b.ag,pv,bv,tv,sv],ξ κ 0])/\qQ w' w.heap.size sv (aD b)/\Γ w.heap.size w w':=by
 obtain⟨eg,hK⟩:=hK;have HK:=ψ (hK h0);have bT:=ψ ai;have H0:=ψ h0;have HA:=ψ ha;obtain⟨A1,n1,c1,rfl,-⟩:=ai.pieces.Φ;obtain⟨A2,n2,c2,rfl,-⟩:=ai.aF.Φ;obtain⟨A3,n3,c3,rfl,-⟩:=ai.aJ.Φ;clear ai hK h0 ha;go_enter func98,Tryz.ntmps98;go_wp2_with (first
  | (go_at_call 68;refine(ry (bT.e.still ((((Δ.refl w).alloc hB _).alloc (by simp;omega) _))) (by simp;omega) H0.e).mono ?_;rintro e w1 ⟨rfl,ae⟩
     have aN:w.heap.size+2<=w1.heap.size:=by have:=ae.size;simpa using this
     have k1:Hid (Bk w1 (w.heap.size+1) 122 #[ξ κ 0,ζ ν 0 0,ζ ν 0 0,ζ ν 0 0,ζ ν 0 0]):=ψ ((Bk.cG (by simp) _ _).below ae (by simp))
     have kb:Bk w1 w.heap.size 26 #[ξ κ b.ag,ζ A1 n1 c1,ζ A2 n2 c2,ζ A3 n3 c3]:=((Bk.new w _ _).alloc _).below ae (by simp;omega)
     have b0:=kb.cell 0;have b1:=kb.cell 1;have b2:=kb.cell 2;have b3:=kb.cell 3;clear kb;have aY:Hid (Γ w.heap.size w w1):=ψ ((((Ϗ _ _).alloc (ϊ _) _).alloc (by simp) _).trans (ae.mono (by simp;omega)));clear ae))
 refine(HK.e _ (aY.e.alloc (by omega) _)).mono ?_
 rintro e w2 ⟨rfl,ak⟩;have k2:Hid (Bk w2 (w.heap.size+1) 122 #[ξ κ 0,ζ ν 0 0,ζ ν 0 0,ζ ν 0 0,ζ ν 0 0]):=ψ ((k1.e.alloc _).below ak (by simp;omega))
 have l2:Hid (Bk w2 w1.heap.size 117 #[ξ κ b.ag,ζ A1 n1 c1,ζ A2 n2 c2,ζ A3 n3 c3]):=ψ ((Bk.new w1 _ _).below ak (by simp))
 have ba:w1.heap.size+1<=w2.heap.size:=by have:=ak.size;simpa using this
 have dV:=ψ (cU aY.e ak (by omega))
 have q0:=l2.e.cell 0;have q1:=l2.e.cell 1;have q2:=l2.e.cell 2;have q3:=l2.e.cell 3;clear ak b0 b1 b2 b3;go_wp2_with (first
  | (go_at_call 96;refine(all (B:=B) (by omega) (bT.e.still (Δ.aK dV.e hB)) (iy H0.e)).mono ?_;rintro e w3 ⟨v,rfl,eI,bD⟩
     have HR:=ψ eI;obtain⟨A9,n9,c9,rfl,cY,-⟩:=eI.row.Φ;have h9:((n9:Int)==0)=χ:=(by have:=HA.e;simp;omega)
     have k3:Bk w3 (w.heap.size+1) 122 #[ξ κ 0,ζ ν 0 0,ζ ν 0 0,ζ ν 0 0,ζ ν 0 0]:=k2.e.below bD (by omega)
     have l3:Bk w3 w1.heap.size 117 #[ξ κ b.ag,ζ A1 n1 c1,ζ A2 n2 c2,ζ A3 n3 c3]:=l2.e.below bD (by omega)
     have fw:=ψ (chain dV.e bD (by omega))
     have q0:=l3.cell 0;have q1:=l3.cell 1;have q2:=l3.cell 2;have q3:=l3.cell 3;have r0:=k3.cell 0;have r1:=k3.cell 1;have r2:=k3.cell 2;have r3:=k3.cell 3;have r4:=k3.cell 4;have z0:=k3.frozen 0;have z1:=k3.frozen 1;have z2:=k3.frozen 2;have z3:=k3.frozen 3;have z4:=k3.frozen 4;have jB:Hid (w1.heap.size<=w3.heap.size):=ψ (by have:=bD.size;omega)
     clear bD k3 l3 eI cY))
 refine Ahb (v:=μ #[η #[ξ κ b.ag,ζ A1 n1 c1,ζ A2 n2 c2,ζ A3 n3 c3,ζ A9 n9 c9],ξ κ 0]) (by simp[results,Tryz.results98,go_sem,r0,r1,r2,r3,r4]) rfl ⟨_,rfl,?_,?_⟩
 ·refine qQ.base (base:=w2.heap.size) ?_ (by omega)
  repeat refine qQ.set ?_ (by simp;omega)
  exact HR.e
 ·repeat refine Ahj ?_ (by simp) _
  exact fw.e
def pq{b:ao}{s:Int}(h:cj b s=0):dF b=0/\s=0/\(aD b).length≠0:=by
 unfold cj at h;split at h
 ·contradiction
 ·rename_i h1
  split at h
  ·contradiction
  ·rename_i h2
   split at h
   ·omega
   ·rename_i h3;exact⟨by simpa using h1,by simpa using h2,h3⟩
def ajn{w:Ψ}{b:ao}{pv bv tv:υ}{B K:Nat}{lb:Array υ}{s:Int}(hB:B<=w.heap.size)(ai:bg w B b pv bv tv)(hK:sK b pv bv tv w K lb s)(h:cj b s≠0):
 ύ prog 98 #[η #[ξ κ b.ag,pv,bv,tv],fv K lb] w λe w'=>e=Ω (μ #[η #[ξ κ 0,ζ ν 0 0,ζ ν 0 0,ζ ν 0 0,ζ ν 0 0],ξ κ (cj b s)])/\Γ w.heap.size w w':=by
 by_cases h1:dF b=0
 ·by_cases h2:s=0
  ·subst h2
   have h3:(aD b).length=0:=by
    apply Aa5;intro h3
    exact h (by unfold cj;rw[if_neg (by simpa using h1),if_neg (by simp),if_neg h3])
   have e:cj b 0=9:=by unfold cj;rw[if_neg (by simpa using h1),if_neg (by simp),if_pos h3]
   rw[e];exact ajm hB ai hK h1 h3
  ·have e:cj b s=s:=by unfold cj;rw[if_neg (by simpa using h1),if_pos h2]
   rw[e];exact ajl hB ai hK h1 h2
 ·have e:cj b s=dF b:=by unfold cj;rw[if_pos h1]
  rw[e];exact ajk hB ai h1
def yL{w:Ψ}{b:ao}{pv bv tv:υ}{B K:Nat}{lb:Array υ}{s:Int}(hB:B<=w.heap.size)(ai:bg w B b pv bv tv)(hK:sK b pv bv tv w K lb s)(h:cj b s=0):
 ύ prog 98 #[η #[ξ κ b.ag,pv,bv,tv],fv K lb] w λe w'=>∃sv,e=Ω (μ #[η #[ξ κ b.ag,pv,bv,tv,sv],ξ κ 0])/\qQ w' w.heap.size sv (aD b)/\Γ w.heap.size w w':=by
 obtain⟨h1,rfl,h3⟩:=pq h;exact ajo hB ai hK h1 h3
def I0{a b c d:Int}(h:a=c)(k:b=d):Ending.returned (μ #[ξ κ a,ξ κ b])=Ω (μ #[ξ κ c,ξ κ d]):=by rw[h,k]
def TD{a c:Bool}{b d:Int}(h:a=c)(k:b=d):Ending.returned (μ #[.bool a,ξ κ b])=Ω (μ #[.bool c,ξ κ d]):=by rw[h,k]
def Gt(b:ao):Int:=if dF b≠0 then 0 else(aD b).length
def ZL{w:Ψ}{b:ao}{pv bv tv:υ}{B:Nat}(hB:B<=w.heap.size)(ai:bg w B b pv bv tv):
 ύ prog 22 #[η #[ξ κ b.ag,pv,bv,tv]] w λe w'=>e=Ω (μ #[ξ κ (Gt b),ξ κ (dF b)])/\Γ w.heap.size w w':=by
 have bT:=ψ ai;obtain⟨A1,n1,c1,rfl,-⟩:=ai.pieces.Φ;obtain⟨A2,n2,c2,rfl,-⟩:=ai.aF.Φ;obtain⟨A3,n3,c3,rfl,-⟩:=ai.aJ.Φ;clear ai;by_cases h0:dF b=0
 ·have H0:=ψ h0
  clear h0;go_enter func22,Tryz.ntmps22;go_wp2_with (first
   | (go_at_call 68;refine(ry (bT.e.still ((Δ.refl w).alloc hB _)) (by simp;omega) H0.e).mono ?_;rintro e w1 ⟨rfl,ae⟩
      have kb:Bk w1 w.heap.size 26 #[ξ κ b.ag,ζ A1 n1 c1,ζ A2 n2 c2,ζ A3 n3 c3]:=(Bk.new w _ _).below ae (by simp)
      have b0:=kb.cell 0;have b1:=kb.cell 1;have b2:=kb.cell 2;have b3:=kb.cell 3;have aY:=ψ (cU (Ϗ _ _) ae (ϊ _));clear kb ae)
   | (go_at_call 96;refine(all (B:=B) (by have:=aY.e.size;omega) (bT.e.still (Δ.aK aY.e hB)) (iy H0.e)).mono ?_;rintro e w2 ⟨v,rfl,eI,ak⟩
      obtain⟨A9,n9,c9,rfl,cY,-⟩:=eI.row.Φ;have HL:=ψ cY;have dV:=ψ (chain aY.e ak aY.e.size);clear ak eI cY))
  go_ret2
  exact⟨I0 (by unfold Gt;rw[if_neg (by simpa using H0.e),HL.e]) (by rw[H0.e]),dV.e⟩
 ·go_enter func22,Tryz.ntmps22
  go_wp2_with (first
   | (go_at_call 68;refine(LS (bT.e.still ((Δ.refl w).alloc hB _)) (by simp;omega)).mono ?_;rintro e w1 ⟨rfl,ae⟩;have aY:=ψ (cU (Ϗ _ _) ae (ϊ _));clear ae))
  go_ret2
  exact⟨I0 (by unfold Gt;rw[if_pos h0]) rfl,aY.e⟩
def lg(n lo hi:Int)(w:Ψ):ύ prog 62 #[ξ κ n,ξ κ lo,ξ κ hi] w λe w'=>e=Ω (.bool (bX n lo hi))/\w=w':=by
 go_enter func62,Tryz.ntmps62;go_wp2;all_goals go_ret
 all_goals (refine⟨b9 ?_,rfl⟩;unfold bX;first| (simp;done) | (simp;omega))
def mV(a b lo hi:Int):Bool:=decide (lo<=a) && (decide (a<=b) && decide (b<=hi))
def within{a b lo hi:Int}(w:Ψ):ύ prog 49 #[η #[ξ κ a,ξ κ b],ξ κ lo,ξ κ hi] w λe w'=>e=Ω (.bool (mV a b lo hi))/\Γ w.heap.size w w':=by
 go_enter func49,Tryz.ntmps49;go_wp2;all_goals go_ret
 all_goals (refine⟨b9 ?_,(Ϗ _ _).alloc (ϊ _) _⟩;unfold mV;first| (simp;done) | (simp;omega) | (simp[*];done) | (simp[*];omega))
def Bz(b:Bool)(s:Int)(w:Ψ):ύ prog 104 #[.bool b,ξ κ s] w λe w'=>e=Ω (ξ κ (if b then 0 else s))/\w=w':=by
 cases b;all_goals
  go_enter func104,Tryz.ntmps104;go_wp2;go_ret;exact⟨aX rfl,rfl⟩
end Go.Tw
namespace Go.Tw
variable [Go.Tw.aR]
open Go Go.Proofs Go.RowKit
end Go.Tw
namespace Go.Tw
variable [Go.Tw.aR]
open Go Go.Proofs Go.RowKit
section
variable (w:Ψ)(s:Int)(p q r:υ)(k f:Int)(nm:ByteArray)(aH:Int)(kv:υ)
end
end Go.Tw
namespace Go.Tw
variable [Go.Tw.aR]
open Go Go.Proofs Go.RowKit
end Go.Tw
namespace Go.Tw
variable [Go.Tw.aR]
open Go Go.Proofs Go.RowKit
end Go.Tw
namespace Go.Tw
variable [Go.Tw.aR]
open Go Go.Proofs Go.RowKit
def za(n m:Int):Int:=if n=0 then 2 else if n=m then 1 else 0
def Xa{α:Type}{f:α->Int}:∀(l dw:List α),scan (λ_ x=>f x) dw l=0->∀x∈l,f x=0
 | [],_,_,x,h=>by cases h
 |a::l,dw,h,x,hx=>by
  unfold scan at h;by_cases h0:f a≠0
  ·rw[if_pos h0] at h;exact absurd h h0
  ·rw[if_neg h0] at h
   rcases List.mem_cons.1 hx with rfl|hx
   ·simpa using h0
   ·exact Xa l _ h x hx
def abc{b:ao}{l:List Cut}(h:ez b l=0):l.length=b.pieces.length:=by
 unfold ez at h;split at h
 ·contradiction
 ·rename_i h1;simpa using h1
def GI{b:ao}(hv:Valid b){l:List Cut}(h:ez b l=0):Km b l:=by
 have hlen:=abc h;refine⟨hlen,hv.np.2,λi c hc=>?_,⟨hv.ag.1,by have:=hv.ag.2;omega⟩⟩
 unfold ez at h;rw[if_neg (by simpa using hlen)] at h
 have h1:=Xa (f:=fO b.aF.length) l [] h c (ϩ hc);unfold fO at h1;split at h1
 ·rename_i h2
  split at h1
  ·rename_i h3
   have a:=nJ h2;have d:=nJ h3;refine⟨⟨c.bp.toNat,by omega,by omega⟩,d⟩
  ·contradiction
 ·contradiction
def R6{b:ao}(hv:Valid b):∀(f i:Nat) (n:an),i+f=b.pieces.length->n.Ok->∀L∈eu b f i n,L.Ok
 |0,i,n,hi,hn,L,hL=>by
  unfold eu at hL;split at hL
  ·simp at hL;subst hL;exact hn
  ·simp at hL
 |f+1,i,n,hi,hn,L,hL=>by
  unfold eu at hL;cases h:b.pieces[i]? with
  |none=>rw[h] at hL;simp at hL
  |some p=>
   rw[h] at hL;simp only[Ahw] at hL;obtain⟨k,hk,hL⟩:=hL;have hp:=hv.piece p (ϩ h);have:=hv.np.2;simp only[mR,Ahx,Ahy] at hk;obtain⟨j,hj,rfl⟩:=hk;have:=hp.lo;have:=hp.hi;have:=hp.le
   exact R6 hv f (i+1) _ (by omega) (hn.set (by omega) (by omega) (by omega)) L hL
def uG{b:ao}(hv:Valid b):∀L∈aD b,L.Ok:=R6 hv _ _ _ (by omega) (λq=>by unfold an.at;simp)
def Zo{b:ao}{l:List Cut}{pv bv tv lv:υ}{w:Ψ}{B g:Nat}(hB:B<=w.heap.size)(ai:bg w B b pv bv tv)(hl:Row w B 2 Cut.R lv l)(hg:Bk w g 27 #[lv]):sK b pv bv tv w 108 #[π (φ ⟨g,0,ν⟩)] (ez b l):=by
 refine⟨call108,λ_ W hW=>?_⟩
 have k7:=hg.lt;have st:Δ B w (W.alloc (Ξ #[ξ κ b.ag,pv,bv,tv] 117)):=(Δ.aK hW hB).alloc (by have:=hW.size;omega) _
 have g0: W.cell? ⟨g,0,ν⟩=φ lv:=(hg.below hW k7).cell 0;have aB:=ψ (LX (ai.still st) (hl.still st λ_ _ h=>h) (by have:=hW.size;simp;omega))
 have hz:g<W.heap.size:=by have:=hW.size;omega
 have Vs:g<=W.heap.size:=by omega
 obtain⟨A1,n1,c1,rfl,-⟩:=ai.pieces.Φ;obtain⟨A2,n2,c2,rfl,-⟩:=ai.aF.Φ;obtain⟨A3,n3,c3,rfl,-⟩:=ai.aJ.Φ;obtain⟨A,n,c,rfl,-⟩:=hl.Φ;clear ai hl hW hg st;refine app1 ?_
 go_enter func108,Tryz.ntmps108;go_wp2_with (first
  | (go_at_call 109;refine aB.e.mono ?_;rintro e w1 ⟨rfl,ae⟩))
 go_ret;exact⟨aX rfl,cU (Ϗ _ _) ae (ϊ _)⟩
def iI(p:an->Bool)(l:List an):Int:=(l.filter p).length
def aa3(p:an->Bool)(l:List an):0<=iI p l/\iI p l<=l.length:=by
 unfold iI;exact⟨by omega,by have:=Agd p l;omega⟩
def Zy(p:an->Bool)(l:List an)(x:an):iI p (l++ [x])=iI p l+if p x then 1 else 0:=by
 unfold iI;rw[List.filter_append];cases h:p x<;>simp[List.filter_cons,h]
def wz(b:ao)(l:List Cut):Int:=if cj b (ez b l)≠0 then 0 else za (iI (λL=>fp b L l) (aD b)) (aD b).length
def L4{w:Ψ}{b:ao}{l:List Cut}{pv bv tv lv:υ}{B:Nat}(hB:B<=w.heap.size)(ai:bg w B b pv bv tv)(hl:Row w B 2 Cut.R lv l)(h:cj b (ez b l)=0):
 ύ prog 28 #[η #[ξ κ b.ag,pv,bv,tv],lv] w λe w'=>e=Ω (μ #[ξ κ (za (iI (λL=>fp b L l) (aD b)) (aD b).length),ξ κ 0])/\Γ w.heap.size w w':=by
 have st:Δ B w ((w.alloc (Ξ #[ξ κ b.ag,pv,bv,tv] 26)).alloc (Ξ #[lv] 27)):=((Δ.refl w).alloc hB _).alloc (by simp;omega) _
 have aB:=ψ (yL (w:=((w.alloc (Ξ #[ξ κ b.ag,pv,bv,tv] 26)).alloc (Ξ #[lv] 27))) (B:=B) (by simp;omega) (ai.still st) (Zo (by simp;omega) (ai.still st) (hl.still st λ_ _ h=>h) (Bk.cG (g:=w.heap.size+1) (by simp) _ _)) h)
 have hz:=pq h;have hv:=iy hz.1;have OK:=ψ (ϐ (GI hv hz.2.1) (uG hv));have bT:=ψ ai;have uB:=ψ hl;have HV:=ψ hv;obtain⟨A1,n1,c1,rfl,-⟩:=ai.pieces.Φ;obtain⟨A2,n2,c2,rfl,-⟩:=ai.aF.Φ;obtain⟨A3,n3,c3,rfl,-⟩:=ai.aJ.Φ;obtain⟨A,n,c,rfl,-⟩:=hl.Φ;clear ai hl st hz hv h;go_enter func28,Tryz.ntmps28;go_wp2_with (first
  | (go_at_call 98;refine aB.e.mono ?_;rintro e w1 ⟨sv,rfl,aG,ae⟩
     obtain⟨A9,n9,c9,rfl,cY,nG,py,iN⟩:=aG.row.Φ;have lF:=ψ iN;have pO:=ψ cY;have HO:=ψ aG;have kb:Hid (Bk w1 w.heap.size 26 #[ξ κ b.ag,ζ A1 n1 c1,ζ A2 n2 c2,ζ A3 n3 c3]):=ψ (((Bk.new w _ _).alloc _).below ae (by simp;omega))
     have kl:Hid (Bk w1 (w.heap.size+1) 27 #[ζ A n c]):=ψ ((Bk.cG (by simp) _ _).below ae (by simp))
     have aN:w.heap.size+2<=w1.heap.size:=by have:=ae.size;simpa using this
     have aY:Hid (Γ w.heap.size w w1):=ψ ((((Ϗ _ _).alloc (ϊ _) _).alloc (by simp) _).trans (ae.mono (by simp;omega)));clear ae aG cY iN))
 unfold ϗ at py;go_loopw [8,23] (λm k wr=>∃i:Nat,i<=n9/\k=ξ κ i/\m=ξ κ (iI (λL=>fp b L l) ((aD b).take i))/\Hid (Γ (w1.heap.size+1) (w1.alloc (Ξ #[ξ κ b.ag,ζ A1 n1 c1,ζ A2 n2 c2,ζ A3 n3 c3,ζ A9 n9 c9] 122)) wr)) (λ_ k _=>n9 - (ϙ k).toNat)
 case atStart=>exact⟨0,ϡ _,rfl,by simp[iI],ψ (Ϗ _ _)⟩
 case round=>
  obtain⟨i,hi,rfl,rfl,hb⟩:=hrel;have rV:w1.heap.size+1<=wr.heap.size:=by have:=hb.e.size;simpa using this
  have ux:Hid (Γ w.heap.size w wr):=ψ (aY.e.trans (((Ϗ _ _).alloc (by omega) _).trans (hb.e.mono (by omega))))
  have nV:Hid (Γ w1.heap.size w1 wr):=ψ (((Ϗ _ _).alloc (by omega) _).trans (hb.e.mono (by omega)))
  have kf:Bk wr w1.heap.size 122 #[ξ κ b.ag,ζ A1 n1 c1,ζ A2 n2 c2,ζ A3 n3 c3,ζ A9 n9 c9]:=(Bk.new w1 _ _).below hb.e (by omega)
  have Ii:Bk wr (w.heap.size+1) 27 #[ζ A n c]:=kl.e.below nV.e (by omega)
  have f0:=kf.cell 0;have f1:=kf.cell 1;have f2:=kf.cell 2;have f3:=kf.cell 3;have f4:=kf.cell 4;have l0:=Ii.cell 0;have KH:=pO.e;have de:=aa3 (λL=>fp b L l) ((aD b).take i)
  have fY:((aD b).take i).length<=i:=List.length_take_le _ _;have aec:0<=iI (λL=>fp b L l) ((aD b).take i):=de.1
  have aed:iI (λL=>fp b L l) ((aD b).take i)<=i:=by have:=de.2;omega
  clear kf Ii KH de fY;by_cases al:i<n9
  ·obtain⟨ad,x,cs,kX,aC,hx,rfl,-,au⟩:=lF.e i al
   subst kX;have st:Δ w1.heap.size w1 wr:=Δ.aK nV.e (ϊ _);have g0:=cC au st aC rfl;have g1:=bK au st aC 0 rfl;have g2:=bK au st aC 1 rfl;have xD:(ad.add (i * 3)).block<wr.heap.size:=by rw[cq];omega
   have HX:=ψ hx;have uf:Δ B w (wr.alloc (Ξ #[ξ κ x.a,ξ κ x.b,ξ κ x.c] 128)):=(Δ.aK ux.e hB).alloc (by omega) _
   have uv:=ψ (L3 (w:=wr.alloc (Ξ #[ξ κ x.a,ξ κ x.b,ξ κ x.c] 128)) (B:=B) (L:=x) (bT.e.still uf) (uB.e.still uf λ_ _ h=>h) (by simp;omega) OK.e.1.len OK.e.1.three OK.e.1.kD (OK.e.2 x (ϩ hx)) OK.e.1.ag)
   have a1:w.heap.size+1<wr.heap.size:=by omega
   have a2:w.heap.size+1<=wr.heap.size:=by omega
   have a3:w1.heap.size<wr.heap.size:=by omega
   have a4:w1.heap.size<=wr.heap.size:=by omega
   clear hx au st uf;cases hd:fp b x l with
   |false=>
    have NX:Hid (iI (λL=>fp b L l) ((aD b).take i)=iI (λL=>fp b L l) ((aD b).take (i+1))):=ψ (by rw[oJ HX.e,Zy,hd];simp)
    go_wp2_with (first
     | (go_at_call 110;refine uv.e.mono ?_;rintro e w2 ⟨rfl,ak⟩;have dV:=ψ (cU hb.e ak (by omega));clear ak))
    go_roundw;case rel=>exact⟨i+1,by omega,by go_num,by rw[NX.e],dV⟩
    case measure=>simp[ϙ];omega
   |true=>
    have NX:Hid (iI (λL=>fp b L l) ((aD b).take i)+1=iI (λL=>fp b L l) ((aD b).take (i+1))):=ψ (by rw[oJ HX.e,Zy,hd];simp)
    go_wp2_with (first
     | (go_at_call 110;refine uv.e.mono ?_;rintro e w2 ⟨rfl,ak⟩;have dV:=ψ (cU hb.e ak (by omega));clear ak))
    go_roundw;case rel=>exact⟨i+1,by omega,by go_num,by rw[<-NX.e],dV⟩
    case measure=>simp[ϙ];omega
  ·obtain rfl:i=n9:=by omega
   obtain⟨q,hq⟩:∃q,q=iI (λL=>fp b L l) ((aD b).take i):=⟨_,rfl⟩
   have HQ:Hid (q=iI (λL=>fp b L l) (aD b)):=ψ (by rw[hq,Agf (Agw pO.e)])
   rw[<-hq] at aec aed |-
   clear hq;go_wp2;all_goals go_ret2
   all_goals (refine⟨I0 ?_ rfl,ux.e⟩;simp only[beq_iff_eq,beq_eq_false_iff_ne,ne_eq] at *;rw[<-HQ.e,pO.e];unfold za;first| (rw[if_pos (by omega)];done) | (rw[if_neg (by omega),if_pos (by omega)];done) | (rw[if_neg (by omega),if_neg (by omega)];done))
def Bh(b:ao)(k:Int):Int:=if bX k 0 (b.pieces.length - 1) then 0 else 6
def Zp{b:ao}{k:Int}{pv bv tv:υ}{w:Ψ}{B g:Nat}(hB:B<=w.heap.size)(ai:bg w B b pv bv tv)(hg:Bk w g 3 #[ξ κ k]):sK b pv bv tv w 99 #[π (φ ⟨g,0,ν⟩)] (Bh b k):=by
 refine⟨call99,λ_ W hW=>?_⟩
 have k7:=hg.lt;have g0: W.cell? ⟨g,0,ν⟩=φ (ξ κ k):=(hg.below hW k7).cell 0;have hz:g<W.heap.size:=by have:=hW.size;omega
 have Vs:g<=W.heap.size:=by omega
 obtain⟨A1,n1,c1,rfl,e1,h1,eA,-⟩:=ai.pieces.Φ;obtain⟨A2,n2,c2,rfl,-⟩:=ai.aF.Φ;obtain⟨A3,n3,c3,rfl,-⟩:=ai.aJ.Φ;unfold ϗ at eA;have call:∀w:Ψ,ύ prog 100 #[ξ κ k,ξ κ n1] w λe w'=>e=Ω (ξ κ (Bh b k))/\w=w':=λw=>by
  have:=there k n1 (by omega) w (by omega)
  unfold Bh;rw[e1];exact this
 have aB:=ψ call;clear ai hW hg e1 call;refine app1 ?_
 go_enter func99,Tryz.ntmps99;go_wp2_with (first
  | (go_at_call 100;refine(aB.e _).mono ?_;rintro e w1 ⟨rfl,rfl⟩))
 go_ret;exact⟨aX rfl,(Ϗ _ _).alloc (ϊ _) _⟩
def Gp{b:ao}{pv bv tv:υ}{w:Ψ}{B:Nat}(ai:bg w B b pv bv tv):sK b pv bv tv w 107 #[] 0:=by
 refine⟨call107,λ_ W hW=>?_⟩
 obtain⟨A1,n1,c1,rfl,e1,h1,eA,-⟩:=ai.pieces.Φ;obtain⟨A2,n2,c2,rfl,-⟩:=ai.aF.Φ;obtain⟨A3,n3,c3,rfl,-⟩:=ai.aJ.Φ;exact nothing W
def Il(b:ao)(k:Nat):List Int:=Lib.compact (ga ((aD b).map (·.at k)))
def aki{v:υ}{a c:Int}(h:a=c):Ending.returned (μ #[v,ξ κ a])=Ω (μ #[v,ξ κ c]):=by rw[h]
def ag8{w:Ψ}{b:ao}{k:Nat}{pv bv tv:υ}{B:Nat}(hB:B<=w.heap.size)(ai:bg w B b pv bv tv)(h:cj b (Bh b k)=0):
 ύ prog 24 #[η #[ξ κ b.ag,pv,bv,tv],ξ κ k] w λe w'=>∃v,e=Ω (μ #[v,ξ κ 0])/\w'.ownsRow w.heap.size 3 1 v (Il b k).length ((Il b k).map (ξ κ))/\Γ w.heap.size w w':=by
 have st:Δ B w ((w.alloc (Ξ #[ξ κ b.ag,pv,bv,tv] 26)).alloc (Ξ #[ξ κ k] 3)):=((Δ.refl w).alloc hB _).alloc (by simp;omega) _
 have aB:=ψ (yL (w:=((w.alloc (Ξ #[ξ κ b.ag,pv,bv,tv] 26)).alloc (Ξ #[ξ κ k] 3))) (B:=B) (by simp;omega) (ai.still st) (Zp (by simp;omega) (ai.still st) (Bk.cG (g:=w.heap.size+1) (by simp) _ _)) h)
 have hz:=pq h;have hv:=iy hz.1;have fh:k<3:=by
  have h1:=hz.2.1;unfold Bh at h1;split at h1
  ·rename_i h2;have:=nJ h2;have:=hv.np;omega
  ·contradiction
 have aeZ:=Ct hv;obtain⟨i0,cR,cT,aN,ba⟩:=Ag9 Oo;have dv:=ψ (ϐ cR (ϐ cT (ϐ aN ba)));obtain⟨A1,n1,c1,rfl,-⟩:=ai.pieces.Φ;obtain⟨A2,n2,c2,rfl,-⟩:=ai.aF.Φ;obtain⟨A3,n3,c3,rfl,-⟩:=ai.aJ.Φ;clear ai st hz hv h cR cT aN ba;go_enter func24,Tryz.ntmps24;go_wp2_with (first
  | (go_at_call 98;refine aB.e.mono ?_;rintro e w1 ⟨sv,rfl,aG,ae⟩
     obtain⟨A9,n9,c9,rfl,cY,nG,py,iN⟩:=aG.row.Φ;have lF:=ψ iN;have pO:=ψ cY;have kk:Hid (Bk w1 (w.heap.size+1) 3 #[ξ κ k]):=ψ ((Bk.cG (by simp) _ _).below ae (by simp))
     have aN:w.heap.size+2<=w1.heap.size:=by have:=ae.size;simpa using this
     have afb:n9<=27:=by omega
     have aY:Hid (Γ w.heap.size w w1):=ψ ((((Ϗ _ _).alloc (ϊ _) _).alloc (by simp) _).trans (ae.mono (by simp;omega)));clear ae aG cY iN))
 unfold ϗ at py;go_loopw [8,23] (λo u wr=>∃i:Nat,i<=n9/\u=ξ κ i/\Hid (wr.ownsRow (w1.heap.size+1) 3 1 o i (((aD b).take i).map λL=>ξ κ (L.at k)))/\Hid (Γ (w1.heap.size+1) (w1.alloc (Ξ #[ξ κ b.ag,ζ A1 n1 c1,ζ A2 n2 c2,ζ A3 n3 c3,ζ A9 n9 c9] 122)) wr)) (λ_ u _=>n9 - (ϙ u).toNat)
 case atStart=>exact⟨0,ϡ _,rfl,ψ ⟨by simp,.inl ⟨rfl,rfl⟩⟩,ψ (Ϗ _ _)⟩
 case round=>
  obtain⟨i,hi,rfl,HO,hb⟩:=hrel;have rV:w1.heap.size+1<=wr.heap.size:=by have:=hb.e.size;simpa using this
  have nV:Hid (Γ w1.heap.size w1 wr):=ψ (((Ϗ _ _).alloc (by omega) _).trans (hb.e.mono (by omega)))
  have VO:Bk wr (w.heap.size+1) 3 #[ξ κ k]:=kk.e.below nV.e (by omega)
  have k0:=VO.cell 0;clear VO;by_cases al:i<n9
  ·obtain⟨ad,x,cs,kX,aC,hx,rfl,-,au⟩:=lF.e i al
   subst kX;have st:Δ w1.heap.size w1 wr:=Δ.aK nV.e (ϊ _);have g0:=cC au st aC rfl;have g1:=bK au st aC 0 rfl;have g2:=bK au st aC 1 rfl;have xD:(ad.add (i * 3)).block<wr.heap.size:=by rw[cq];omega
   have HX:=ψ hx;have a1:w.heap.size+1<wr.heap.size:=by omega
   have a2:w.heap.size+1<=wr.heap.size:=by omega
   have aeJ:(k:Int)<3:=by omega
   have gk:(wr.alloc (Ξ #[ξ κ x.a,ξ κ x.b,ξ κ x.c] 128)).cell? ⟨wr.heap.size,k,ν⟩=φ (ξ κ (x.at k)):=(Bk.new wr _ _).cell k|>.trans (an.uR (n:=x) fh)
   clear hx au st;go_wp2_with (first
    | (at_builtin
       refine Ahc _ rfl (.tmp 27) (.tmp 31) 33 rfl (w1.heap.size+1) 3 i0 (ξ κ 0) 1 8 (U Tryz.underlying33) dv.e.1 dv.e.2.1 dv.e.2.2.1 dv.e.2.2.2 rfl (by decide) _ i _ rfl ((HO.e.alloc _).alloc _) ⟨wr.heap.size+1,0,ν⟩ 1 1 [ξ κ (x.at k)] rfl rfl ?c1 ?c2 ?c3 ?c4 ?c5 ?_
       case c1=>(intro j u hu;match j,hu with|0,hu=>(simp at hu;subst hu;simp[go_sem,Ahe]))
       case c2=>simp[Value.oneCell']
       case c3=>(simp only[ϗ];omega)
       case c4=>omega
       case c5=>(simp;omega)
       intro v' w2 cK dT _;have gW:=ψ cK;have gV:=ψ dT;clear cK dT))
   go_roundw;case rel=>exact⟨i+1,by omega,by go_num,ψ (by rw[oJ HX.e,Ahz];exact gW.e),
    ψ ((hb.e.trans (((Ϗ _ _).alloc rV _).alloc (by simp;omega) _)).grown gV.e (by simp;omega) (λk hk=>ei HO.e k hk))⟩
   case measure=>simp[ϙ];omega
  ·obtain rfl:i=n9:=by omega
   have vq:(((aD b).take i).map λL=>ξ κ (L.at k))=((aD b).map (·.at k)).map (ξ κ):=by
    rw[Agf (Agw pO.e),List.map_map];rfl
   have rf:Hid (wr.ownsRow (w1.heap.size+1) 3 1 u8 i (((aD b).map (·.at k)).map (ξ κ))):=ψ (vq▸HO.e)
   have ux:Hid (Γ w.heap.size w wr):=ψ (aY.e.trans (nV.e.mono (by omega)))
   clear vq HO;go_wp2_with (first
    | (go_at_call 101;refine(PW rf.e (by omega) rV).mono ?_;rintro e w2 ⟨rfl,cK,ak⟩;have uC:=ψ cK;have fw:=ψ ak;clear cK ak)
    | (go_at_call 102;refine(Sz uC.e (by omega)).mono ?_;rintro e w3 ⟨u,rfl,vX,bD⟩;have wQ:=ψ vX;have jK:=ψ bD;clear vX bD))
   go_ret2
   exact⟨_,aki rfl,wQ.e.base (by omega),ux.e.trans ((fw.e.trans jK.e).mono (by omega))⟩
def an.sum(L:an):Int:=L.a+L.b+L.c
def BE(s:Span)(L:an):Span:=⟨min s.lo L.sum,max s.hi L.sum⟩
def oK:List an->Span
 | []=>⟨0,0⟩
 |x::l=>l.foldl BE ⟨x.sum,x.sum⟩
def aml{l:List an}(h:l≠ [])(x:an):oK (l++ [x])=BE (oK l) x:=by
 cases l with
 |nil=>exact absurd rfl h
 |cons a l=>simp[oK]
def amk(x:an):oK [x]=BE ⟨x.sum,x.sum⟩ x:=by simp[oK,BE]
def amm{w:Ψ}{b:ao}{pv bv tv:υ}{B:Nat}(hB:B<=w.heap.size)(ai:bg w B b pv bv tv)(h:cj b 0=0):
 ύ prog 26 #[η #[ξ κ b.ag,pv,bv,tv]] w λe w'=>e=Ω (μ #[η #[ξ κ (oK (aD b)).lo,ξ κ (oK (aD b)).hi],ξ κ 0])/\Γ w.heap.size w w':=by
 have st:Δ B w ((w.alloc (Ξ #[ξ κ b.ag,pv,bv,tv] 26)).alloc (Ξ #[ξ κ 0,ξ κ 0] 37)):=((Δ.refl w).alloc hB _).alloc (by simp;omega) _
 have aB:=ψ (yL (w:=((w.alloc (Ξ #[ξ κ b.ag,pv,bv,tv] 26)).alloc (Ξ #[ξ κ 0,ξ κ 0] 37))) (B:=B) (by simp;omega) (ai.still st) (Gp (ai.still st)) h)
 have hz:=pq h;have hv:=iy hz.1;have OK:=ψ (uG hv);have HNE:=ψ hz.2.2;obtain⟨A1,n1,c1,rfl,-⟩:=ai.pieces.Φ;obtain⟨A2,n2,c2,rfl,-⟩:=ai.aF.Φ;obtain⟨A3,n3,c3,rfl,-⟩:=ai.aJ.Φ;clear ai st hz hv h;go_enter func26,Tryz.ntmps26;go_wp2_with (first
  | (go_at_call 98;refine aB.e.mono ?_;rintro e w1 ⟨sv,rfl,aG,ae⟩
     obtain⟨A9,n9,c9,rfl,cY,nG,py,iN⟩:=aG.row.Φ;have lF:=ψ iN;have pO:=ψ cY;have k2:Hid (Bk w1 (w.heap.size+1) 37 #[ξ κ 0,ξ κ 0]):=ψ ((Bk.cG (by simp) _ _).below ae (by simp))
     have aN:w.heap.size+2<=w1.heap.size:=by have:=ae.size;simpa using this
     have aY:Hid (Γ w.heap.size w w1):=ψ ((((Ϗ _ _).alloc (ϊ _) _).alloc (by simp) _).trans (ae.mono (by simp;omega)));clear ae aG cY iN))
 unfold ϗ at py;go_loopw [24] (λu wr=>∃i:Nat,i<=n9/\u=ξ κ i/\Hid (Bk wr (w1.heap.size+1) 37 #[ξ κ (oK ((aD b).take i)).lo,ξ κ (oK ((aD b).take i)).hi])/\Hid (Γ w1.heap.size w1 wr)) (λu _=>n9 - (ϙ u).toNat)
 case atStart=>exact⟨0,ϡ _,rfl,ψ (by simpa [oK] using Bk.cG (by simp) _ _),ψ (((Ϗ _ _).alloc (ϊ _) _).alloc (by simp) _)⟩
 case round=>
  obtain⟨i,hi,rfl,hk,hb⟩:=hrel;have rV:w1.heap.size+1<wr.heap.size:=hk.e.lt;have ux:Hid (Γ w.heap.size w wr):=ψ (aY.e.trans (hb.e.mono (by omega)))
  obtain⟨T,hT⟩:∃T,T=oK ((aD b).take i):=⟨_,rfl⟩
  rw[<-hT] at hk;have HT:=ψ hT;clear hT;have t0: wr.cell? ⟨w1.heap.size+1,0,ν⟩=φ (ξ κ T.lo):=hk.e.cell 0;have t1: wr.cell? ⟨w1.heap.size+1,1,ν⟩=φ (ξ κ T.hi):=hk.e.cell 1;have z0:=hk.e.frozen 0;have z1:=hk.e.frozen 1;by_cases al:i<n9
  ·obtain⟨ad,x,cs,kX,aC,hx,rfl,-,au⟩:=lF.e i al
   subst kX;have st:Δ w1.heap.size w1 wr:=Δ.aK hb.e (ϊ _);have g0:=cC au st aC rfl;have g1:=bK au st aC 0 rfl;have g2:=bK au st aC 1 rfl;have xD:(ad.add (i * 3)).block<wr.heap.size:=by rw[cq];omega
   have HX:=ψ hx;have IE:=OK.e x (ϩ hx);have oka:0<=x.a/\x.a<=1000:=IE 0;have okb:0<=x.b/\x.b<=1000:=IE 1;have ID:0<=x.c/\x.c<=1000:=IE 2;have i0:∀w:Ψ,(Afl 128 (η #[ξ κ x.a,ξ κ x.b,ξ κ x.c]) (ξ κ 0)).run prog w=.ok (ξ κ x.a) w:=λw=>by simp[Afl,go_sem]
   have i1:∀w:Ψ,(Afl 128 (η #[ξ κ x.a,ξ κ x.b,ξ κ x.c]) (ξ κ 1)).run prog w=.ok (ξ κ x.b) w:=λw=>by simp[Afl,go_sem]
   have i2:∀w:Ψ,(Afl 128 (η #[ξ κ x.a,ξ κ x.b,ξ κ x.c]) (ξ κ 2)).run prog w=.ok (ξ κ x.c) w:=λw=>by simp[Afl,go_sem]
   clear hx au st IE;go_wp2;go_loopw [9,30] (λs z W=>∃j:Nat,j<=3/\z=ξ κ j/\s=ξ κ (if j=0 then 0 else if j=1 then x.a else if j=2 then x.a+x.b else x.a+x.b+x.c)/\W=wr.alloc (Ξ #[ξ κ x.a,ξ κ x.b,ξ κ x.c] 128)) (λ_ z _=>3 - (ϙ z).toNat)
   case atStart=>exact⟨0,by omega,rfl,rfl,rfl⟩
   case round=>
    obtain⟨j,hj,rfl,rfl,rfl⟩:=hrel;match j,hj with
    |0,_=>
     go_wp2;go_roundw;case rel=>exact⟨1,by omega,rfl,by simp,trivial⟩
     case measure=>simp[ϙ]
    |1,_=>
     go_wp2;go_roundw;case rel=>exact⟨2,by omega,rfl,by simp,trivial⟩
     case measure=>simp[ϙ]
    |2,_=>
     go_wp2;go_roundw;case rel=>exact⟨3,by omega,rfl,by simp,trivial⟩
     case measure=>simp[ϙ]
    |3,_=>
     obtain⟨S,hS⟩:∃S,S=x.a+x.b+x.c:=⟨_,rfl⟩
     have HS:Hid (S=x.sum):=ψ hS;have e3:(if 3=0 then 0 else if 3=1 then x.a else if 3=2 then x.a+x.b else x.a+x.b+x.c)=S:=by simp[hS]
     rw[e3];clear hS e3;have q1:w1.heap.size+1<wr.heap.size+1:=by omega
     have cP:=hk.e.alloc (Ξ #[ξ κ x.a,ξ κ x.b,ξ κ x.c] 128);by_cases h0:i=0
     ·subst h0
      go_wp2;go_roundw;case rel=>exact⟨1,by omega,by simp,ψ (by
           have e:(aD b).take 1=[x]:=by have:=oJ HX.e;simpa using this
           rw[e,amk];have:=(((hk.e.set 0 (ξ κ S)).set 1 (ξ κ S)).set 0 (ξ κ S)).set 1 (ξ κ S);simpa [BE,HS.e] using this.alloc (Ξ #[ξ κ x.a,ξ κ x.b,ξ κ x.c] 128)),
          ψ (Ahk (by(repeat refine Ahj ?_ (by simp) _);exact hb.e) (by simp[Ad2];omega) _)⟩
      case measure=>simp[ϙ];omega
     ·have aw:((i:Int)==0)=χ:=by simp;omega
      go_wp2;go_roundw;case rel=>exact⟨i+1,by omega,by go_num,ψ (by
           have hn:(aD b).take i≠ []:=by
            intro e;have h1:((aD b).take i).length=i:=by rw[List.length_take,pO.e];omega
            rw[e] at h1;simp at h1;omega
           rw[oJ HX.e,aml hn,<-HT.e];have:=(hk.e.set 0 (ξ κ (min T.lo S))).set 1 (ξ κ (max T.hi S));simpa [BE,HS.e] using this.alloc (Ξ #[ξ κ x.a,ξ κ x.b,ξ κ x.c] 128)),
          ψ (Ahk (by(repeat refine Ahj ?_ (by simp) _);exact hb.e) (by simp[Ad2];omega) _)⟩
      case measure=>simp[ϙ];omega
  ·obtain rfl:i=n9:=by omega
   have YY:Hid (T=oK (aD b)):=ψ (by rw[HT.e,Agf (Agw pO.e)])
   have kr:=k2.e.below hb.e (by omega)
   have r0: wr.cell? ⟨w.heap.size+1,0,ν⟩=φ (ξ κ 0):=kr.cell 0;have r1: wr.cell? ⟨w.heap.size+1,1,ν⟩=φ (ξ κ 0):=kr.cell 1;have y0:=kr.frozen 0;have y1:=kr.frozen 1;have e1:w.heap.size+1<w1.heap.size+1:=by omega
   clear kr;go_wp2;refine Ahb (v:=μ #[η #[ξ κ T.lo,ξ κ T.hi],ξ κ 0]) (by simp[results,Tryz.results26,go_sem,r0,r1]) rfl ⟨by rw[YY.e],?_⟩
   repeat refine Ahj ?_ (by simp) _
   exact ux.e
def agA:prog.keyTypeAt 10 225=θ:=by kernel_rfl
def amg:prog.tiled 10 225=θ:=by kernel_rfl
def small:10+1<=10000:=by omega
def Eu:Maps.Keyed prog 225:=Maps.Keyed.of_law (deep_law small agA amg (by kernel_rfl))
def kt:prog.keyType 225=θ:=by kernel_rfl
def sz:prog.types.size=260:=by kernel_rfl
def Sf:prog.cellsOf 225=4:=by kernel_rfl
def c3:prog.cellsOf 3=1:=by kernel_rfl
def fm(a b c d:Int):(Value.agg #[.int .i64 a,.int .i64 b,.int .i64 c,.int .i64 d]).formed prog 225=θ:=by
 have u:=U Tryz.underlying225;simp only[Value.formed,u,Sf];rfl
def agy(n:Nat)(a b c d:Int)(ha:(Lit.int .i64 a).wf=θ)(hb:(Lit.int .i64 b).wf=θ)(hc:(Lit.int .i64 c).wf=θ)(hd:(Lit.int .i64 d).wf=θ):
 prog.keyLits (n+1+1) 225 [.int .i64 a,.int .i64 b,.int .i64 c,.int .i64 d]=φ [.int .i64 a,.int .i64 b,.int .i64 c,.int .i64 d]:=by
 have u:=U Tryz.underlying225;have u3:=U Tryz.underlying3;simp[Program.keyLits,u,u3,Sf,c3,ha,hb,hc,hd]
def agv(a b c d:Int)(ha:(Lit.int .i64 a).wf=θ)(hb:(Lit.int .i64 b).wf=θ)(hc:(Lit.int .i64 c).wf=θ)(hd:(Lit.int .i64 d).wf=θ):∃l,keyOf prog 225 (η #[.int .i64 a,.int .i64 b,.int .i64 c,.int .i64 d])=φ l:=by
 have u:=U Tryz.underlying225;refine⟨.string (keyBytes [.int .i64 a,.int .i64 b,.int .i64 c,.int .i64 d]),?_⟩
 unfold keyOf;simp only[u,kt,fm,Bool.and_self,if_true];rw[sz];have:=agy 259 a b c d ha hb hc hd;simp only[Value.cells,Array.toList] at this |-
 rw[this];rfl
def kv(bd fr ln be:Int):υ:=η #[.int .i64 bd,.int .i64 fr,.int .i64 ln,.int .i64 be]
def lI(a:Int):Prop:= -9223372036854775808<=a/\a<=9223372036854775807
def BJ{a:Int}(h:lI a):(Lit.int .i64 a).wf=θ:=WalkArith.wf_i64 h
def tZ(b:ao)(bd fr ln be:Int):Bool:=match b.aF[bd.toNat]? with
 |some x=>tR x be ln ⟨bd,fr⟩
 |none=>χ
structure zt(bd fr ln be:Int):Prop where
 a:lI bd
 b:lI fr
 c:lI ln
 d:lI be
def zt.key{bd fr ln be:Int}(h:zt bd fr ln be):∃l,keyOf prog 225 (kv bd fr ln be)=φ l:=agv bd fr ln be (BJ h.a) (BJ h.b) (BJ h.c) (BJ h.d)
def Ko(b:ao)(e:MapEntry):Prop:=∃bd fr ln be,zt bd fr ln be/\e.key=kv bd fr ln be/\e.val=.bool (tZ b bd fr ln be)
def dK(W:Ψ)(g:Nat)(b:ao):Prop:=∃es clock,W.heap[g]?=φ (.map es clock)/\∀e∈es.toList,Ko b e
def dK.lt{W:Ψ}{g:Nat}{b:ao}(h:dK W g b):g<W.heap.size:=by
 obtain⟨es,clock,h,_⟩:=h;exact(Ϟ.1 h).1
def agB{a b c d a' b' c' d':Int}(h:kv a b c d=kv a' b' c' d'):a=a'/\b=b'/\c=c'/\d=d':=by
 simp[kv] at h;exact h
def Ko.key{b:ao}{e:MapEntry}(h:Ko b e):∃l,keyOf prog 225 e.key=φ l:=by
 obtain⟨bd,fr,ln,be,h1,h2,_⟩:=h;obtain⟨l,hl⟩:=h1.key;exact⟨l,by rw[h2];exact hl⟩
def ahm{W:Ψ}{g:Nat}{b:ao}(h:dK W g b){bd fr ln be:Int}(hk:zt bd fr ln be):
 ∃v ok,(Ac7 149 (.map (φ g)) (kv bd fr ln be) θ).run prog W=.ok (μ #[.bool v,.bool ok]) W/\(ok=θ->v=tZ b bd fr ln be):=by
 obtain⟨es,clock,hg,rF⟩:=h;obtain⟨l,hl⟩:=hk.key;have hc:=Eu.check W es.isEmpty hl;have hz:(zeroValue 4).run prog W=.ok (.bool χ) W:=by rw[Qb];kernel_rfl
 have hgo:(getObj g).run prog W=.ok (.map es clock) W:=by simp[getObj,Sem.run,hg]
 rcases Eu.find W hl es.toList (λe he=>(rF e he).key) with⟨hf,_⟩ | ⟨j,e,hf,hj,Ns⟩
 ·refine⟨χ,χ,?_,by simp⟩
  unfold Ac7;simp[Sem.run_bind,hgo,Ahh,hc,hf,hz,go_sem]
 ·obtain⟨bd',aV,ln',be',_,h2,h3⟩:=rF e (ϩ hj)
  rw[Ns] at h2;obtain⟨rfl,rfl,rfl,rfl⟩:=agB h2;refine⟨_,θ,?_,λ_=>rfl⟩
  unfold Ac7;simp[Sem.run_bind,hgo,Ahh,hc,hf,h3,go_sem]
def amD{W:Ψ}{g:Nat}{b:ao}(h:dK W g b){bd fr ln be:Int}(hk:zt bd fr ln be):
 ∃W',(Ada 149 (.map (φ g)) (kv bd fr ln be) (.bool (tZ b bd fr ln be))).run prog W=.ok () W'/\dK W' g b/\W.grownBy W' (φ g):=by
 obtain⟨es,clock,hg,rF⟩:=h;have al:=(Ϟ.1 hg).1
 obtain⟨l,hl⟩:=hk.key;have hc:=Eu.check W χ hl;have hgo:(getObj g).run prog W=.ok (.map es clock) W:=by simp[getObj,Sem.run,hg]
 have jy:∀es' CM,(setObj g (.map es' CM)).run prog W=.ok () (W.putObj g (.map es' CM)):=λes' CM=>by
  have e:W.heap[g]=.map es clock:=(Ϟ.1 hg).2
  simp[setObj,Sem.run,World.putObj,al,e]
 have gr:∀es' CM,W.grownBy (W.putObj g (.map es' CM)) (φ g):=λ_ _=>Ag8 _ _ _
 rcases Eu.find W hl es.toList (λe he=>(rF e he).key) with⟨hf,_⟩ | ⟨j,e,hf,hj,Ns⟩
 ·refine⟨W.putObj g (.map (es.push {key:=kv bd fr ln be,val:=.bool (tZ b bd fr ln be),born:=clock}) (clock+1)),?_,?_,gr _ _⟩
  ·unfold Ada
   simp[Sem.run_bind,hgo,Ahh,hc,hf,go_sem,jy]
  ·refine⟨_,_,Ahl al,λe he=>?_⟩
   simp at he;rcases he with he|rfl
   ·exact rF e (by simpa using he)
   ·exact⟨bd,fr,ln,be,hk,rfl,rfl⟩
 ·have aQ:=Eu.stays W hl
  refine⟨W.putObj g (.map (es.modify j λe=> {e with key:=kv bd fr ln be,val:=.bool (tZ b bd fr ln be)}) clock),?_,?_,gr _ _⟩
  ·unfold Ada
   have qq:es[j]?=φ e:=by simpa using hj
   simp[Sem.run_bind,hgo,Ahh,hc,hf,go_sem,qq,Ns,aQ,jy]
  ·refine⟨_,_,Ahl al,λe' he'=>?_⟩
   obtain⟨i,hi⟩:=Ah0 he'
   rw[Ag4,Array.getElem?_modify] at hi
   split at hi
   ·cases h:es[i]? with
    |none=>rw[h] at hi;cases hi
    |some e0=>
     rw[h] at hi;cases hi;exact⟨bd,fr,ln,be,hk,rfl,rfl⟩
   ·exact rF e' (by rw[<-Ag4] at hi;exact ϩ hi)
def Ye{P:ϑ}{ops:Array Oper}{rest:List Oper}{o:Oper}{a:Act}{w:Ψ}{Q:Exit->Act->Ψ->Prop}(hg:o.guard=ν)(m x:Abp)(t:ό)(ab:o.op=Op.lookup t m x θ)(r:υ)
 (bz:(Ac7 t (a.eval m) (a.eval x) θ).run P w=.ok r w)(hK:Ahd P ops Q rest (a.put o.dst r) w):Ahd P ops Q (o::rest) a w:=by
 refine wpList_plain hg λK' Db=>?_
 unfold Oper.wp;simp[execOp,ab,bz,Ahh];exact Db _ _ hK
def anf{P:ϑ}{ops:Array Oper}{rest:List Oper}{o:Oper}{a:Act}{w w':Ψ}{Q:Exit->Act->Ψ->Prop}(hg:o.guard=ν)(m x v:Abp)(t:ό)(ab:o.op=Op.mapUpdate t m x v)
 (bz:(Ada t (a.eval m) (a.eval x) (a.eval v)).run P w=.ok () w')(hK:Ahd P ops Q rest (a.put o.dst ω) w'):Ahd P ops Q (o::rest) a w:=by
 refine wpList_plain hg λK' Db=>?_
 unfold Oper.wp;simp[execOp,ab,bz,Ahh];exact Db _ _ hK
def dK.grown{W W':Ψ}{g:Nat}{b:ao}{row:Option Nat}(h:dK W g b)(hg:W.grownBy W' row)(hr:row≠φ g):dK W' g b:=by
 have hl:=h.lt;obtain⟨es,clock,h1,h2⟩:=h;exact⟨es,clock,(hg.block g hl (λe=>hr e.symm)).trans h1,h2⟩
def dK.below{W W':Ψ}{g B:Nat}{b:ao}(h:dK W g b)(hb:Γ B W W')(hg:g<B):dK W' g b:=by
 obtain⟨es,clock,h1,h2⟩:=h;exact⟨es,clock,(hb.block g hg).trans h1,h2⟩
def je{w w':Ψ}{B:Nat}(h:Γ B w w')(hB:w.heap.size<=B)(row:Option Nat):w.grownBy w' row:=⟨h.os,h.tape,h.output,h.size,λk hk _=>h.block k (by omega)⟩
def XW{w w':Ψ}{row:Option Nat}(h:w.drew.grownBy w' row):w.grownBy w' row:=⟨h.os,h.tape,h.output,h.size,h.block⟩
def can{b:ao}{i k g:Nat}{p:Piece}{x:bR}{from_ length:Int}{pv bv tv sv:υ}{w:Ψ}{B:Nat}(ai:bg w B b pv bv tv)(hB:B<=w.heap.size)(oD:∃A n c,sv=ζ A n c)(hm:dK w g b)(hgB:B<=g)
 (hp:b.pieces[i]?=φ p)(hx:b.aF[k]?=φ x)(hf:0<=from_/\from_<=1000)(hl:0<=length/\length<=1000)(MQ:0<=p.bears/\p.bears<=2)(fh:k<=3):
 ύ prog 176 #[η #[ξ κ b.ag,pv,bv,tv,sv,.map (φ g)],ξ κ i,ξ κ length,η #[ξ κ k,ξ κ from_]] w λe w'=>e=Ω (.bool (tZ b k from_ length p.bears))/\w.grownBy w' (φ g)/\dK w' g b:=by
 obtain⟨A4,n4,c4,rfl⟩:=oD;have bT:=ψ ai;have Ux:zt k from_ length p.bears:=⟨by unfold lI;omega,by unfold lI;omega,by unfold lI;omega,by unfold lI;omega⟩
 have Q1:=ψ Ux;have HM:=ψ hm;obtain⟨A1,n1,c1,rfl,e1,h1,eA,r1⟩:=ai.pieces.Φ;obtain⟨A2,n2,c2,rfl,e2,h2,dW,r2⟩:=ai.aF.Φ;obtain⟨A3,n3,c3,rfl,-⟩:=ai.aJ.Φ;unfold ϗ at eA dW;have hi:i<n1:=by have:=(ϱ.1 hp).1;omega
 obtain⟨ee,p',uQ,rfl,Ac,DV,⟨rfl,UX⟩,-,ff⟩:=r1 i hi;obtain rfl:p'=p:=by rw[DV] at hp;exact ϟ hp
 have st:=Δ.refl (B:=B) w;have g3: w.cell? ⟨(ee.add (i * 4)).block,(ee.add (i * 4)).off+3,ν⟩=φ (ξ κ p'.bears):=bK ff st Ac 2 rfl;have s0:(ee.add (i * 4)).block<w.heap.size:=by rw[cq];omega
 have s1:(ee.add (i * 4)).block<=w.heap.size:=by omega
 have s2:(ee.add (i * 4)).block<=w.heap.size+1:=by omega
 have k7:=hm.lt;have aB:=λ(W:Ψ) (aQ:Δ B w W) (hs:B<=W.heap.size)=>VW (w:=W) (bT.e.still aQ) hs hp hx hf hl
 have ig:tZ b k from_ length p'.bears=tR x p'.bears length ⟨k,from_⟩:=by unfold tZ;simp[hx]
 have HC:=ψ aB;have sR:=ψ ig;clear ai e1 e2 r1 r2 hp hx DV ff st Ux hm aB ig UX;have gB:((w.alloc (Ϧ #[ξ κ b.ag,ζ (φ ee) n1 c1,ζ A2 n2 c2,ζ A3 n3 c3,ζ A4 n4 c4,.map (φ g)] 151)).alloc (Ϧ #[ξ κ k,ξ κ from_] 56)).cell? ⟨(ee.add (i * 4)).block,(ee.add (i * 4)).off+3,ν⟩=φ (ξ κ p'.bears):=
  (Afz _ _ _ (by simp;omega)).trans ((Afz _ _ _ (by simp;omega)).trans g3)
 have gA:(((w.alloc (Ϧ #[ξ κ b.ag,ζ (φ ee) n1 c1,ζ A2 n2 c2,ζ A3 n3 c3,ζ A4 n4 c4,.map (φ g)] 151)).alloc (Ϧ #[ξ κ k,ξ κ from_] 56)).alloc (Ϧ #[ξ κ 0,ξ κ 0,ξ κ 0,ξ κ 0] 225)).cell? ⟨(ee.add (i * 4)).block,(ee.add (i * 4)).off+3,ν⟩=φ (ξ κ p'.bears):=
  (Afz _ _ _ (by simp;omega)).trans gB
 go_enter func176,Tryz.ntmps176;go_wp2;go_region
 clear gA gB;obtain⟨W4,Aa⟩:∃W4,W4=(((w.alloc (Ϧ #[ξ κ b.ag,ζ (φ ee) n1 c1,ζ A2 n2 c2,ζ A3 n3 c3,ζ A4 n4 c4,.map (φ g)] 151)).alloc (Ϧ #[ξ κ k,ξ κ from_] 56)).alloc (Ϧ #[ξ κ k,ξ κ from_,ξ κ length,ξ κ p'.bears] 225)).drew:=⟨_,rfl⟩
 rw[<-Aa];have b4:Bk W4 w.heap.size 151 #[ξ κ b.ag,ζ (φ ee) n1 c1,ζ A2 n2 c2,ζ A3 n3 c3,ζ A4 n4 c4,.map (φ g)]:=by rw[Aa];exact((Bk.new w _ _).alloc _).alloc _
 have Gw:Bk W4 (w.heap.size+1) 56 #[ξ κ k,ξ κ from_]:=by rw[Aa];exact(Bk.cG (by simp) _ _).alloc _
 have k4:Bk W4 (w.heap.size+1+1) 225 #[ξ κ k,ξ κ from_,ξ κ length,ξ κ p'.bears]:=by rw[Aa];exact Bk.cG (by simp) _ _
 have B4:Γ w.heap.size w W4:=by rw[Aa];exact iY ((((Ϗ _ _).alloc (ϊ _) _).alloc (by simp) _).alloc (by simp;omega) _)
 have jK:=ψ (ϐ b4 (ϐ Gw (ϐ k4 B4)));have Xb:=ψ (HM.e.below B4 k7);have vG:w.heap.size+1+1<W4.heap.size:=k4.lt;have m0:=b4.cell 0;have m1:=b4.cell 1;have m2:=b4.cell 2;have m3:=b4.cell 3;have m5: W4.cell? ⟨w.heap.size,5,ν⟩=φ (.map (φ g)):=b4.cell 5;have LK:=Gw.cell 0;have LM:=Gw.cell 1;have q0: W4.cell? ⟨w.heap.size+1+1,0,ν⟩=φ (ξ κ k):=k4.cell 0;have q1: W4.cell? ⟨w.heap.size+1+1,1,ν⟩=φ (ξ κ from_):=k4.cell 1;have q2: W4.cell? ⟨w.heap.size+1+1,2,ν⟩=φ (ξ κ length):=k4.cell 2;have q3: W4.cell? ⟨w.heap.size+1+1,3,ν⟩=φ (ξ κ p'.bears):=k4.cell 3;obtain⟨v,ok,UL,dh⟩:=ahm Xb.e Q1.e;have Q5:=ψ UL;have aB:=ψ (HC.e W4 (Δ.aK B4 hB) (by have:=B4.size;omega))
 clear Aa b4 Gw k4 B4 UL;cases ok with
 |true=>
  obtain rfl:=dh rfl;clear dh;go_wp2_with (first
   | (at_lookup;refine Ye rfl (.tmp 29) (.tmp 30) 149 rfl _ Q5.e ?_))
  go_ret;exact⟨b9 rfl,je jK.e.2.2.2 (ϊ _) _,Xb.e⟩
 |false=>
  clear dh;go_wp2_with (first
   | (at_lookup;refine Ye rfl (.tmp 29) (.tmp 30) 149 rfl _ Q5.e ?_)
   | (go_at_call 165;refine aB.e.mono ?_;rintro e w1 ⟨rfl,ae⟩
      have m5: w1.cell? ⟨w.heap.size,5,ν⟩=φ (.map (φ g)):=(jK.e.1.below ae (by omega)).cell 5
      have q0: w1.cell? ⟨w.heap.size+1+1,0,ν⟩=φ (ξ κ k):=(jK.e.2.2.1.below ae (by omega)).cell 0
      have q1: w1.cell? ⟨w.heap.size+1+1,1,ν⟩=φ (ξ κ from_):=(jK.e.2.2.1.below ae (by omega)).cell 1
      have q2: w1.cell? ⟨w.heap.size+1+1,2,ν⟩=φ (ξ κ length):=(jK.e.2.2.1.below ae (by omega)).cell 2
      have q3: w1.cell? ⟨w.heap.size+1+1,3,ν⟩=φ (ξ κ p'.bears):=(jK.e.2.2.1.below ae (by omega)).cell 3
      obtain⟨w2,Of,cP,kG⟩:=amD (Xb.e.below ae (by omega)) Q1.e
      rw[sR.e] at Of;have Y0:=ψ Of;have HE:=ψ (ϐ cP kG);have mi:=ψ (chain jK.e.2.2.2 ae (by omega))
      clear ae Of cP kG)
   | (at_mapUpdate;refine anf rfl (.tmp 44) (.tmp 45) (.tmp 46) 149 rfl Y0.e ?_))
  go_ret;exact⟨b9 (by rw[sR.e]),(je mi.e (ϊ _) _).trans HE.e.2,HE.e.1⟩
def mJ(b:ao)(k:Nat):Nat:=match b.aF[k]? with
 |some x=>x.aH.toNat
 |none=>0
def tT(b:ao)(n:an)(cs:List Cut)(c:Cut):Bool:=AW b cs.length (n.at cs.length) c && (ϸ cs.length).all (rm b n cs cs.length c)
def kj(b:ao)(n:an)(S:List Cut->Option (List Cut))(cs:List Cut)(k fr:Nat):Option (List Cut):=if tT b n cs ⟨k,fr⟩ then S (cs++ [⟨k,fr⟩]) else ν
def pC(b:ao)(n:an)(out:Nat->Bool)(S:List Cut->Option (List Cut))(cs:List Cut)(k:Nat):Option (List Cut):=
 if out k then ν else(ϸ (mJ b k)).findSome? (kj b n S cs k)
def search(b:ao)(n:an)(out:Nat->Bool):Nat->List Cut->Option (List Cut)
 |0,cs=>φ cs
 |f+1,cs=>(ϸ b.aF.length).findSome? (pC b n out (search b n out f) cs)
def C6{α:Type}{F:Nat->Option α}{n:Nat}:(ϸ n).findSome? F=ν↔∀i,i<n->F i=ν:=by simp
def Ts{α:Type}{F:Nat->Option α}{n k:Nat}{x:α}(hk:k<n)(h0:∀i,i<k->F i=ν)(h:F k=φ x):(ϸ n).findSome? F=φ x:=by
 have e:ϸ n=ϸ k++k::(ϸ n).drop (k+1):=by
  have h1:(ϸ n).take k=ϸ k:=by rw[List.take_range,Aif (by omega)]
  have h2:=List.take_append_drop k (ϸ n);rw[h1,List.drop_eq_getElem_cons (by simpa using hk)] at h2
  rw[List.getElem_range] at h2;exact h2.symm
 rw[e,List.findSome?_append,C6.2 h0,List.findSome?_cons,h]
 rfl
def Cut.vs(c:Cut):List υ:=[ξ κ c.bp,ξ κ c.from_]
structure ep where
 w:Ψ
 b:ao
 pv:υ
 bv:υ
 tv:υ
 sv:υ
 n:an
 gs:Nat
 go:Nat
 gn:Nat
 gm:Nat
 KO:Nat
 jD:Array υ
 e:Nat->Bool
 l:Nat
def ep.s(X:ep):Nat:=X.w.heap.size
def ep.np(X:ep):Nat:=X.b.pieces.length
def ep.args(X:ep):Array υ:=#[π (φ ⟨X.s+2,0,ν⟩),π (φ ⟨X.gs,0,ν⟩),π (φ ⟨X.s,0,ν⟩),π (φ ⟨X.go,0,ν⟩),π (φ ⟨X.gn,0,ν⟩),π (φ ⟨X.s+3,0,ν⟩)]
structure ep.Ok(X:ep)(B:Nat):Prop where
 book:bg X.w B X.b X.pv X.bv X.tv
 valid:Valid X.b
 lens:X.n.Ok
 sv:∃A n c,X.sv=ζ A n c
 B:B<=X.gm
 s:X.gs<X.s
 o:X.go<X.s
 gn:X.gn<X.s
 gm:X.gm<X.s
 ns:X.gs≠X.gm
 no:X.go≠X.gm
 nn:X.gn≠X.gm
 cs:Bk X.w X.gs 151 #[ξ κ X.b.ag,X.pv,X.bv,X.tv,X.sv,.map (φ X.gm)]
 co:Bk X.w X.go 158 #[fv X.KO X.jD]
 cn:Bk X.w X.gn 128 X.n.cs
 eg:∀args w,(callFunc X.KO args).run prog w=.ok (.enter X.KO args) w
 e:∀(k:Nat) (W:Ψ),k<X.b.aF.length->X.w.grownBy W (φ X.gm)->ύ prog X.KO (#[ξ κ k]++X.jD) W λe W'=>e=Ω (.bool (X.e k))/\Γ W.heap.size W W'
structure DI(X:ep)(cs:List Cut)(W:Ψ):Prop where
 y:Bk W X.s 139 #[.func (.yield X.l) #[] #[]]
 arr:W.ownsRow (X.s+1) 56 2 (ζ (φ ⟨X.s+1,0,ν⟩) cs.length X.np) cs.length (cs.flatMap Cut.vs)
 lv:Bk W (X.s+2) 27 #[ζ (φ ⟨X.s+1,0,ν⟩) cs.length X.np]
 nx:Bk W (X.s+3) 29 #[.func (.func 175) #[] X.args]
 gr:X.w.grownBy W (φ X.gm)
 known:dK W X.gm X.b
def Bk.grown{W W':Ψ}{g:Nat}{t:ό}{cs:Array υ}{row:Option Nat}(h:Bk W g t cs)(hg:W.grownBy W' row)(hr:φ g≠row):Bk W' g t cs:=(hg.block g h.lt hr).trans h
def ajv{w w':Ψ}{base:Nat}{e:ό}{sz n:Nat}{v:υ}{xs:List υ}{row:Option Nat}(h:w.ownsRow base e sz v n xs)(hg:w.grownBy w' row)(hr:∀k,row=φ k->k<base):w'.ownsRow base e sz v n xs:=by
 refine⟨h.1,?_⟩
 rcases h.2 with h0| ⟨g,cap,cur,h1,h2,h3,h4⟩
 ·exact .inl h0
 ·exact .inr ⟨g,cap,cur,h1,h2,(hg.block g (Ϟ.1 h3).1 (λe=>by have:=hr g e.symm;omega)).trans h3,h4⟩
def DI.grown{X:ep}{B:Nat}{cs:List Cut}{W W':Ψ}(ok:X.Ok B)(h:DI X cs W)(hg:W.grownBy W' (φ X.gm))(hk:dK W' X.gm X.b):DI X cs W':=by
 have:=ok.gm;exact⟨h.y.grown hg (by simp;omega),ajv h.arr hg (λk e=>by cases e;omega),h.lv.grown hg (by simp;omega),h.nx.grown hg (by simp;omega),h.gr.trans hg,hk⟩
def DI.below{X:ep}{B:Nat}{cs:List Cut}{W W':Ψ}(ok:X.Ok B)(h:DI X cs W)(hb:Γ W.heap.size W W'):DI X cs W':=
 h.grown ok (je hb (ϊ _) _) (h.known.below hb h.known.lt)
def FH{B g:Nat}{w W:Ψ}(h:w.grownBy W (φ g))(hg:B<=g)(hB:B<=w.heap.size):Δ B w W:=λp hp=>Aho (h.block p.block (by omega) (by simp;omega))
def ajw{w:Ψ}{base:Nat}{e:ό}{sz n g cap:Nat}{xs:List υ}(h:w.ownsRow base e sz (ζ (φ ⟨g,0,ν⟩) n cap) n xs){m:Nat}(hm:m<=n):w.ownsRow base e sz (ζ (φ ⟨g,0,ν⟩) m cap) m (xs.take (m * sz)):=by
 have RM:m * sz<=n * sz:=Aid _ hm;refine⟨by rw[List.length_take,h.1];omega,?_⟩
 rcases h.2 with⟨h0,_⟩ | ⟨g',zd,cur,h1,h2,h3,h4,h5,h6,h7⟩
 ·cases h0
 ·cases h1
  exact .inr ⟨g,cap,cur,rfl,h2,h3,by omega,h5,h6,by rw[<-h7,List.take_take,Aif RM]⟩
def acN(l:List Cut)(c:Cut):((l++ [c]).flatMap Cut.vs).take (l.length * 2)=l.flatMap Cut.vs:=by
 have hl:∀l:List Cut,(l.flatMap Cut.vs).length=l.length * 2:=by
  intro l;induction l with
  |nil=>rfl
  |cons a l ih=>rw[Aht,Af6,ih];simp[Cut.vs];omega
 rw[Agt,<-hl l,List.take_left]
def xr{w W:Ψ}{row:Option Nat}{p:ϕ}{u:υ}(h:w.grownBy W row)(hp:w.heap.size<=p.block):w.grownBy (W.setCell p u) row:=
 ⟨h.os,h.tape,h.output,by simp[Ad2];exact h.size,λk hk aw=>(Afu _ _ _ _ (by omega)).trans (h.block k hk aw)⟩
def xq{w W W':Ψ}{row WI:Option Nat}(h:w.grownBy W row)(k:W.grownBy W' WI)(hr:∀g,WI=φ g->w.heap.size<=g):w.grownBy W' row:=
 ⟨k.os.trans h.os,k.tape.trans h.tape,k.output.trans h.output,Ϥ h.size k.size,λi hi aw=>(k.block i (Ϡ hi h.size) (λe=>by have:=hr i e.symm;omega)).trans (h.block i hi aw)⟩
def DI.back{X:ep}{B:Nat}{cs:List Cut}{c:Cut}{W:Ψ}(ok:X.Ok B)(h:DI X (cs++ [c]) W):DI X cs (W.setCell ⟨X.s+2,0,ν⟩ (ζ (φ ⟨X.s+1,0,ν⟩) cs.length X.np)):=by
 have Ar:=ok.gm;have hx:=h.nx.lt;have hs:X.w.heap.size=X.s:=rfl;have ha:W.ownsRow (X.s+1) 56 2 (ζ (φ ⟨X.s+1,0,ν⟩) cs.length X.np) cs.length (cs.flatMap Cut.vs):=by
  have:=ajw (m:=cs.length) (by have:=h.arr;rwa[Af6,Af7] at this) (by omega)
  rwa[acN] at this
 refine⟨h.y.cu (by simp) _,?_,h.lv.set 0 _,h.nx.cu (by simp) _,xr h.gr (by simp[ep.s]),?_⟩
 ·refine⟨ha.1,?_⟩
  rcases ha.2 with⟨h0,_⟩ | ⟨g,cap,cur,h1,h2,h3,h4⟩
  ·cases h0
  ·cases h1
   exact .inr ⟨_,_,cur,rfl,h2,(Afu _ _ _ _ (by simp)).trans h3,h4⟩
 ·obtain⟨es,clock,h1,h2⟩:=h.known
  exact⟨es,clock,(Afu _ _ _ _ (by simp;omega)).trans h1,h2⟩
def DI.push{X:ep}{B:Nat}{cs:List Cut}{c:Cut}{W W1:Ψ}{o:Obj}(ok:X.Ok B)(h:DI X cs W)
 (aG:W1.ownsRow (X.s+1) 56 2 (ζ (φ ⟨X.s+1,0,ν⟩) (cs.length+1) X.np) (cs.length+1) (cs.flatMap Cut.vs++c.vs))(hg:(W.alloc o).grownBy W1 (φ (X.s+1))):
 DI X (cs++ [c]) (W1.setCell ⟨X.s+2,0,ν⟩ (ζ (φ ⟨X.s+1,0,ν⟩) (cs.length+1) X.np)):=by
 have Ar:=ok.gm;have hx:=h.nx.lt;have hl:(cs++ [c]).length=cs.length+1:=by simp
 have dB:W.grownBy W1 (φ (X.s+1)):=(ϻ W o _).trans hg;have hz:=dB.size;refine⟨(h.y.grown dB (by simp)).cu (by simp) _,?_,?_,(h.nx.grown dB (by simp)).cu (by simp) _,xr (xq h.gr dB (λg e=>by cases e;simp[ep.s])) (by simp[ep.s]),?_⟩
 ·rw[hl,Agt,Ahr]
  refine⟨aG.1,?_⟩
  rcases aG.2 with⟨h0,_⟩ | ⟨g,cap,cur,h1,h2,h3,h4⟩
  ·cases h0
  ·cases h1
   exact .inr ⟨_,_,cur,rfl,h2,(Afu _ _ _ _ (by simp)).trans h3,h4⟩
 ·rw[hl];exact(h.lv.grown dB (by simp)).set 0 _
 ·obtain⟨es,clock,h1,h2⟩:=h.known.grown dB (by simp;omega)
  exact⟨es,clock,(Afu _ _ _ _ (by simp;omega)).trans h1,h2⟩
end Go.Tw
namespace Go.Tw
variable [Go.Tw.aR]
open Go Go.Proofs Go.RowKit
attribute [local go_sem] ze K0 Oper.semAt_some
structure zx(X:ep)(Z:List Cut->Ψ->Prop):Prop where
 lv:∀full W,Z full W->∃i,Bk W (X.s+2) 27 #[ζ (φ ⟨X.s+1,0,ν⟩) i X.np]
 set:∀full W i,Z full W->Z full (W.setCell ⟨X.s+2,0,ν⟩ (ζ (φ ⟨X.s+1,0,ν⟩) i X.np))
 yield:∀(m:Nat) (full:List Cut) (W:Ψ),full.length=X.np->DI X full W->YieldAt Afk m prog X.l #[ζ (φ ⟨X.s+1,0,ν⟩) X.np X.np] W λe W'=>e=Ω (.bool χ)/\Z full W'
def Gg(X:ep)(Z:List Cut->Ψ->Prop)(cs:List Cut)(r:Option (List Cut))(e:Ag7)(W':Ψ):Prop:=
 (∃full,r=φ full/\e=Ω (.bool χ)/\Z full W')\/(r=ν/\e=Ω (.bool θ)/\DI X cs W')
def ala{X:ep}{B:Nat}(ok:X.Ok B){Z:List Cut->Ψ->Prop}(hZ:zx X Z){cs:List Cut}(hc:cs.length=X.np){W:Ψ}(h:DI X cs W):
 ύ prog 175 X.args W (Gg X Z cs (φ cs)):=by
 refine(callsIn_wide (n:=0)).1 ?_
 have HZ:=ψ hZ;have HI:=ψ h;have HC:=ψ hc;obtain⟨n,hn⟩:∃n,n=X.np:=⟨_,rfl⟩
 have aoy:n<=9223372036854775807:=by have:=ok.valid.np.2;rw[hn];unfold ep.np;omega
 obtain⟨A1,n1,c1,pd,e1,h1,eA,-⟩:=ok.book.pieces.Φ;have ks:Bk W X.gs 151 #[ξ κ X.b.ag,ζ A1 n1 c1,X.bv,X.tv,X.sv,.map (φ X.gm)]:=by
  have:=ok.cs.grown h.gr (by simpa using ok.ns);rwa[pd] at this
 have PE:n1=n:=by rw[hn];unfold ep.np;omega
 have s1: W.cell? ⟨X.gs,1,ν⟩=φ (ζ A1 n1 c1):=ks.cell 1;have v0: W.cell? ⟨X.s+2,0,ν⟩=φ (ζ (φ ⟨X.s+1,0,ν⟩) n n):=by rw[hn];have:=h.lv.cell 0;rw[hc] at this;exact this
 have y0: W.cell? ⟨X.s,0,ν⟩=φ (.func (.yield X.l) #[] #[]):=h.y.cell 0;obtain⟨f1,t1,a1,b1,jA,oq⟩:=hZ.yield (0 - 1) cs W hc h;rw[<-hn] at jA;have Lw:=ψ oq;subst PE;clear hZ h hc hn ks pd e1 oq;unfold ep.args;refine callsIn_of_wp func175 rfl trivial ?_
 simp only[Tryz.ntmps175,Agn,Af5,Ago,Ag0,Ag1,Aeq,Aer,Agp,Agq,Agr,Ags]
 gi_wp2
 refine Lw.e.mono ?_
 rintro e W' ⟨rfl,hz⟩
 gi_wp2
 go_ret;exact .inl ⟨cs,rfl,b9 rfl,hz⟩
end Go.Tw
namespace Go.Tw
variable [Go.Tw.aR]
open Go Go.Proofs Go.RowKit
def nu(g n:Nat):(⟨g,0,ν⟩:ϕ).add n=⟨g,n,ν⟩:=by
 unfold Ahe;split
 ·rename_i h;rw[h]
 ·simp
def qd(w:Ψ)(o:Obj)(row:Option Nat):w.grownBy (w.alloc o).drew row:=let h:=ϻ w o row;⟨h.os,h.tape,h.output,h.size,h.block⟩
def agd:∃i0,prog.info? 56=φ i0/\i0.size=2:=by
 have h:(prog.info? 56).map (λi=>i.size)=φ 2:=by rw[pB];kernel_rfl
 cases e: prog.info? 56 with
 |none=>rw[e] at h;cases h
 |some i=>rw[e] at h;exact⟨i,rfl,by simpa using h⟩
def acP{X:ep}{f:Nat}{cs:List Cut}{k fr:Nat}{full:List Cut}(hk:k<X.b.aF.length)(h0:∀j,j<k->pC X.b X.n X.e (search X.b X.n X.e f) cs j=ν)(ho:X.e k=χ)
 (hf:fr<mJ X.b k)(h1:∀j,j<fr->kj X.b X.n (search X.b X.n X.e f) cs k j=ν)(h2:kj X.b X.n (search X.b X.n X.e f) cs k fr=φ full):search X.b X.n X.e (f+1) cs=φ full:=by
 unfold search;refine Ts hk h0 ?_
 unfold pC;rw[ho];exact Ts hf h1 h2
def alb{X:ep}{B:Nat}(ok:X.Ok B)(hB:B<=X.s){Z:List Cut->Ψ->Prop}(hZ:zx X Z){f:Nat}
 (ih:∀(cs:List Cut) (W:Ψ),cs.length+f=X.np->(∀c∈cs,oO X.b c)->DI X cs W->ύ prog 175 X.args W (Gg X Z cs (search X.b X.n X.e f cs)))
 {cs:List Cut}(hc:cs.length+(f+1)=X.np)(fg:∀c∈cs,oO X.b c){W:Ψ}(h:DI X cs W):
 ύ prog 175 X.args W (Gg X Z cs (search X.b X.n X.e (f+1) cs)):=by
 obtain⟨i,hi⟩:∃i,i=cs.length:=⟨_,rfl⟩
 obtain⟨i56,Up,Uq⟩:=agd;have F6:=ψ (ϐ Up Uq);clear Up Uq;obtain⟨A1,n1,c1,pd,e1,h1,eA,-⟩:=ok.book.pieces.Φ;obtain⟨A2,nb,c2,Dr,e2,h2,dW,jZ⟩:=ok.book.aF.Φ;obtain⟨A3,n3,c3,Oc,-⟩:=ok.book.aJ.Φ;obtain⟨A4,n4,c4,oD⟩:=ok.sv;have dL:i<n1:=by unfold ep.np at hc;omega
 have lQ:n1<=3:=by have:=ok.valid.np.2;omega
 have UT:nb<=3:=by have:=ok.valid.nb;omega
 have qy:((i:Int)==(n1:Int))=χ:=by simp;omega
 unfold ϗ at eA dW;have mL:X.np=n1:=by unfold ep.np;exact e1
 have ks:Bk W X.gs 151 #[ξ κ X.b.ag,ζ A1 n1 c1,ζ A2 nb c2,ζ A3 n3 c3,ζ A4 n4 c4,.map (φ X.gm)]:=by
  have:=ok.cs.grown h.gr (by simpa using ok.ns);rwa[pd,Dr,Oc,oD] at this
 have s1: W.cell? ⟨X.gs,1,ν⟩=φ (ζ A1 n1 c1):=ks.cell 1;have s2: W.cell? ⟨X.gs,2,ν⟩=φ (ζ A2 nb c2):=ks.cell 2;have v0: W.cell? ⟨X.s+2,0,ν⟩=φ (ζ (φ ⟨X.s+1,0,ν⟩) i n1):=by rw[hi,<-mL];exact h.lv.cell 0
 have HI:=ψ h;have OK:=ψ ok;have jL:=ψ (ϐ hi (ϐ hc fg));have lD:=ψ (ϐ pd (ϐ Dr (ϐ Oc (ϐ oD (ϐ e1 e2)))));have YS:=ψ jZ;have IH:=ψ ih;have HZ:=ψ hZ;have NP:=ψ mL;clear ks h ok hi hc fg pd Dr Oc oD e1 e2 jZ ih hZ mL;have Af:X.args=#[π (φ ⟨X.s+2,0,ν⟩),π (φ ⟨X.gs,0,ν⟩),π (φ ⟨X.s,0,ν⟩),π (φ ⟨X.go,0,ν⟩),π (φ ⟨X.gn,0,ν⟩),π (φ ⟨X.s+3,0,ν⟩)]:=rfl;rw[Af];have R0:=ψ Af;clear Af;go_enter func175,Tryz.ntmps175;go_wp2;go_loopw [34] (λu wr=>∃k:Nat,k<=nb/\u=ξ κ k/\(Hid (∀j,j<k->pC X.b X.n X.e (search X.b X.n X.e f) cs j=ν))/\Hid (DI X cs wr)) (λu _=>nb - (ϙ u).toNat)
 case atStart=>exact⟨0,ϡ _,rfl,ψ (λj hj=>by omega),HI⟩
 case round=>
  obtain⟨wo,rfl⟩:∃wo:Ψ,wo=wr:=⟨_,rfl⟩
  obtain⟨k,hk,rfl,bj,hD⟩:=hrel;by_cases al:k<nb
  ·obtain⟨ad,x,jQ,kX,aC,hx,⟨Bi,rfl,dH,da⟩,-,au⟩:=YS.e k al
   subst kX;obtain⟨A5,n5,c5,rfl,-⟩:=da.Φ;have st:Δ B X.w wo:=FH hD.e.gr OK.e.B hB;have g0:=cC au st aC rfl;have g1:=bK au st aC 0 rfl;have g2:=bK au st aC 1 rfl;have hzw:X.s+3<wo.heap.size:=hD.e.nx.lt;have xD:(ad.add (k * 3)).block<wo.heap.size:=by rw[cq];omega
   have HX:=ψ hx;have ko:Bk wo X.go 158 #[fv X.KO X.jD]:=OK.e.co.grown hD.e.gr (by simpa using OK.e.no)
   have hgo:=OK.e.o;have o0:(wo.alloc (Ξ #[.string x.name,ξ κ x.aH,ζ A5 n5 c5] 59)).cell? ⟨X.go,0,ν⟩=φ (.func (.func X.KO) #[] X.jD):=(ko.alloc _).cell 0;have a1:X.go<wo.heap.size:=by omega
   have a2:X.go<=wo.heap.size:=by omega
   have eg:=OK.e.eg;have QQ:=ψ (OK.e.e k (wo.alloc (Ξ #[.string x.name,ξ κ x.aH,ζ A5 n5 c5] 59)) (by have:=lD.e.2.2.2.2.2;omega) (hD.e.gr.trans (ϻ _ _ _)))
   have Eg:1<=x.aH/\x.aH<=40:=(OK.e.valid.bp x (ϩ hx)).aH;clear hx au st ko dH da;go_wp2
   go_step3
   go_wp2;refine QQ.e.mono ?_
   rintro e w1 ⟨rfl,ae⟩;have TM:=ψ (hD.e.grown OK.e (ϻ wo (Ξ #[.string x.name,ξ κ x.aH,ζ A5 n5 c5] 59) _) (hD.e.known.grown (ϻ wo (Ξ #[.string x.name,ξ κ x.aH,ζ A5 n5 c5] 59) ν) (by simp)))
   have TN:=ψ (TM.e.below OK.e ae);have kx:Hid (Bk w1 wo.heap.size 59 #[.string x.name,ξ κ x.aH,ζ A5 n5 c5]):=ψ ((Bk.new wo _ _).below ae (by simp))
   have x1: w1.cell? ⟨wo.heap.size,1,ν⟩=φ (ξ κ x.aH):=kx.e.cell 1;clear ae;cases ho:X.e k with
   |true=>
    go_wp2;rw[Exit.noGoto_exit];go_wp2;go_roundw;case rel=>exact⟨k+1,by omega,by go_num,ψ (λj hj=>by
     rcases Agv.1 hj with h|rfl
     ·exact bj.e j h
     ·unfold pC;rw[ho];rfl),TN⟩
    case measure=>simp[ϙ];omega
   |false=>
    go_wp2
    go_step3
    go_wp2;have rL:mJ X.b k=x.aH.toNat:=by unfold mJ;rw[HX.e]
    have Q4:=ψ rL;have hp:∃p,X.b.pieces[i]?=φ p:=⟨_,Af9 (by have:=lD.e.2.2.2.2.1;omega)⟩
    obtain⟨p,hp⟩:=hp;have nI:=OK.e.valid.piece p (ϩ hp);have HP:=ψ (ϐ hp nI.bears);obtain⟨ln,rJ⟩:∃ln,ln=X.n.at i:=⟨_,rfl⟩
    have UK:0<=ln/\ln<=1000:=by rw[rJ];exact OK.e.lens i
    have nh:=ψ rJ;have fZ:i<3:=by omega
    have Uo:(i:Int)<3:=by omega
    have Uh:=OK.e.s;have qm:=OK.e.gn;clear rL hp nI rJ hD TM QQ o0 x1 g0 g1 g2 s1 s2 v0;go_loopw [44] (λu W2=>∃fr:Nat,(fr:Int)<=x.aH/\u=ξ κ fr/\(Hid (∀j,j<fr->kj X.b X.n (search X.b X.n X.e f) cs k j=ν))/\Hid (DI X cs W2)) (λu _=>(x.aH - ϙ u).toNat)
    case atStart=>exact⟨0,by omega,rfl,ψ (λj hj=>by omega),TN⟩
    case round=>
     obtain⟨fr,b7,rfl,DO,hE⟩:=hrel;obtain⟨wp,rfl⟩:∃wp:Ψ,wp=wr:=⟨_,rfl⟩
     by_cases hf:(fr:Int)<x.aH
     ·have Vw:X.s+3<wp.heap.size:=hE.e.nx.lt
      have ks:Bk wp X.gs 151 #[ξ κ X.b.ag,ζ A1 n1 c1,ζ (φ ad) nb c2,ζ A3 n3 c3,ζ A4 n4 c4,.map (φ X.gm)]:=by
          have:=OK.e.cs.grown hE.e.gr (by simpa using OK.e.ns);rwa[lD.e.1,lD.e.2.1,lD.e.2.2.1,lD.e.2.2.2.1] at this
      have k0:=ks.cell 0;have k1:=ks.cell 1;have k2:=ks.cell 2;have k3:=ks.cell 3;have k4:=ks.cell 4;have k5:=ks.cell 5;have gi: wp.cell? ⟨X.gn,i,ν⟩=φ (ξ κ ln):=by
          have:=(OK.e.cn.grown hE.e.gr (by simpa using OK.e.nn)).cell i
          rw[an.uR fZ,<-nh.e] at this;exact this
      have b1:X.gs<wp.heap.size:=by omega
      have b2:X.gs<=wp.heap.size:=by omega
      have b3:X.gn<wp.heap.size:=by omega
      have b4:X.gn<=wp.heap.size:=by omega
      have vg:(fr:Int)<=1000:=by omega
      have gw:0<=(fr:Int):=by omega
      clear ks;go_wp2;refine ua 6 (by kernel_rfl) (by kernel_rfl) ?_
      simp only[Agi,Agj,Agk,Agl];repeat still_step
      refine wpStill_nil ?_
      have bt:X.w.grownBy (wp.alloc (Ϧ #[ϝ Ϛ ↑k,ϝ Ϛ ↑fr] 56)).drew (φ X.gm):=hE.e.gr.trans (qd wp _ _);have vp:dK (wp.alloc (Ϧ #[ϝ Ϛ ↑k,ϝ Ϛ ↑fr] 56)).drew X.gm X.b:=hE.e.known.grown (qd wp (Ϧ #[ϝ Ϛ ↑k,ϝ Ϛ ↑fr] 56) ν) (by simp)
      have call:ύ prog 176 #[η #[ξ κ X.b.ag,ζ A1 n1 c1,ζ (φ ad) nb c2,ζ A3 n3 c3,ζ A4 n4 c4,.map (φ X.gm)],ξ κ i,ξ κ ln,η #[ξ κ k,ξ κ fr]] (wp.alloc (Ϧ #[ϝ Ϛ ↑k,ϝ Ϛ ↑fr] 56)).drew
           λe w'=>e=Ω (.bool (tZ X.b k fr ln p.bears))/\(wp.alloc (Ϧ #[ϝ Ϛ ↑k,ϝ Ϛ ↑fr] 56)).drew.grownBy w' (φ X.gm)/\dK w' X.gm X.b:=by
          have ai:=OK.e.book.still (FH bt OK.e.B hB);rw[lD.e.1,lD.e.2.1,lD.e.2.2.1] at ai;exact can (B:=B) ai (by have:=bt.size;have:X.w.heap.size=X.s:=rfl;omega) ⟨_,_,_,rfl⟩ vp OK.e.B HP.e.1 HX.e ⟨gw,vg⟩ UK HP.e.2 (by omega)
      have aB:=ψ call;have UH:AW X.b i (X.n.at i) ⟨k,fr⟩=tZ X.b k fr ln p.bears:=by unfold AW tZ;rw[<-nh.e];simp[HP.e.1,HX.e]
      have Q3:=ψ UH;have aN:Hid (wp.heap.size<(wp.alloc (Ϧ #[ϝ Ϛ ↑k,ϝ Ϛ ↑fr] 56)).drew.heap.size):=ψ (by simp)
      have Ku:Hid (Bk (wp.alloc (Ϧ #[ϝ Ϛ ↑k,ϝ Ϛ ↑fr] 56)).drew wp.heap.size 56 #[ξ κ k,ξ κ fr]):=ψ (Bk.new wp _ _);clear call UH bt vp;cases Aw:tZ X.b k fr ln p.bears with
      |false=>
       have NX:Hid (kj X.b X.n (search X.b X.n X.e f) cs k fr=ν):=ψ (by unfold kj tT;rw[<-jL.e.1,Q3.e,Aw];rfl)
       go_wp2_with (first
           | (go_at_call 176;refine aB.e.mono ?_;rintro e w1 ⟨rfl,dB,dg⟩
              have F5:=ψ (hE.e.grown OK.e ((ϻ wp _ _).trans (XW dB)) dg);clear dB dg))
       go_roundw;case rel=>exact⟨fr+1,by omega,by go_num,ψ (λj hj=>by
           rcases Agv.1 hj with h|rfl
           ·exact DO.e j h
           ·exact NX.e),F5⟩
       case measure=>simp[ϙ];omega
      |true=>
       go_wp2_with (first
           | (go_at_call 176;refine aB.e.mono ?_;rintro e w3 ⟨rfl,dB,dg⟩
              have F5:=ψ (hE.e.grown OK.e ((ϻ wp _ _).trans (XW dB)) dg);have zk:=ψ (Ku.e.grown dB (by have:=hE.e.known.lt;simp;omega))
              have v0: w3.cell? ⟨X.s+2,0,ν⟩=φ (ζ (φ ⟨X.s+1,0,ν⟩) i n1):=by rw[jL.e.1,<-NP.e];exact F5.e.lv.cell 0
              clear dB dg))
       have jB:wp.heap.size<w3.heap.size:=zk.e.lt;clear k0 k1 k2 k3 k4 k5 gi;go_loopw [60] (λu wr=>∃j:Nat,j<=i/\u=ξ κ j/\(Hid (∀q,q<j->rm X.b X.n cs i ⟨k,fr⟩ q=θ))/\Hid (DI X cs wr)/\Hid (Bk wr wp.heap.size 56 #[ξ κ k,ξ κ fr])) (λu _=>i - (ϙ u).toNat)
       case atStart=>exact⟨0,ϡ _,rfl,ψ (λj hj=>by omega),F5,zk⟩
       case round=>
           obtain⟨j,hj,rfl,Ae,hF,cX⟩:=hrel;have rV:X.s+3<wr.heap.size:=hF.e.nx.lt;have hzc:wp.heap.size<wr.heap.size:=cX.e.lt;have aoW:wp.heap.size<=wr.heap.size:=by omega
           have b1:X.gs<wr.heap.size:=by omega
           have b2:X.gs<=wr.heap.size:=by omega
           have b3:X.gn<wr.heap.size:=by omega
           have b4:X.gn<=wr.heap.size:=by omega
           have LK: wr.cell? ⟨wp.heap.size,0,ν⟩=φ (ξ κ k):=cX.e.cell 0;have LM: wr.cell? ⟨wp.heap.size,1,ν⟩=φ (ξ κ fr):=cX.e.cell 1;by_cases pa:j<i
           ·have ks:Bk wr X.gs 151 #[ξ κ X.b.ag,ζ A1 n1 c1,ζ (φ ad) nb c2,ζ A3 n3 c3,ζ A4 n4 c4,.map (φ X.gm)]:=by
             have:=OK.e.cs.grown hF.e.gr (by simpa using OK.e.ns);rwa[lD.e.1,lD.e.2.1,lD.e.2.2.1,lD.e.2.2.2.1] at this
            have k0:=ks.cell 0;have k1:=ks.cell 1;have k2:=ks.cell 2;have k3:=ks.cell 3;have DE:j<3:=by omega
            have Us:(j:Int)<3:=by omega
            have kn:=OK.e.cn.grown hF.e.gr (by simpa using OK.e.nn)
            have gi: wr.cell? ⟨X.gn,i,ν⟩=φ (ξ κ ln):=by
             have:=kn.cell i;rw[an.uR fZ,<-nh.e] at this;exact this
            have gj: wr.cell? ⟨X.gn,j,ν⟩=φ (ξ κ (X.n.at j)):=by
             have:=kn.cell j;rw[an.uR DE] at this;exact this
            have eI:=lu (R:=Cut.R) hF.e.arr (λ_=>rfl) (λ_ _=>rfl)
            obtain⟨A8,n8,c8,e8,hl8,-,-,yh⟩:=eI.Φ;cases e8;obtain⟨ad8,d,cs8,abE,an2,hd,rfl,-,abm⟩:=yh j (by rw[<-jL.e.1];exact pa)
            cases abE;obtain⟨mn,iJ⟩:=d;have Wo:=jL.e.2.2 _ (ϩ hd);have h0: wr.cell? ⟨X.s+1,j * 2,ν⟩=φ (ξ κ mn):=by have:=abm 0 _ rfl;rwa[nu] at this
            have h1: wr.cell? ⟨X.s+1,j * 2+1,ν⟩=φ (ξ κ iJ):=by have:=abm 1 _ rfl;rwa[nu] at this
            have my:0<=iJ/\iJ<=40:=Wo.from_;have HD:=ψ hd;clear ks kn eI hl8 yh hd abm Wo;have e1:X.s+1<wr.heap.size:=by omega
            go_wp2;refine ua 11 (by kernel_rfl) (by kernel_rfl) ?_
            simp only[Agi,Agj,Agk,Agl];repeat still_step
            refine wpStill_nil ?_
            have TV:rm X.b X.n cs i ⟨k,fr⟩ j=nv X.b.ag ⟨k,fr⟩ ⟨mn,iJ⟩ ln (X.n.at j):=by unfold rm;rw[HD.e,nh.e]
            have EP:=ψ TV;have call:∀W:Ψ,ύ prog 166 #[η #[ξ κ X.b.ag,ζ A1 n1 c1,ζ (φ ad) nb c2,ζ A3 n3 c3],η #[ξ κ k,ξ κ fr],η #[ξ κ mn,ξ κ iJ],ξ κ ln,ξ κ (X.n.at j)] W
             λe w'=>e=Ω (.bool (nv X.b.ag ⟨k,fr⟩ ⟨mn,iJ⟩ ln (X.n.at j)))/\Γ W.heap.size W w':=λW=>
             apart (c:=⟨k,fr⟩) (d:=⟨mn,iJ⟩) ⟨OK.e.valid.ag.1,by have:=OK.e.valid.ag.2;omega⟩ UK (OK.e.lens j) ⟨gw,vg⟩ ⟨my.1,by have:=my.2;show iJ<=1000;omega⟩ ⟨_,_,_,rfl⟩ ⟨_,_,_,rfl⟩ ⟨_,_,_,rfl⟩
            have uv:=ψ call;clear TV call;cases DK:nv X.b.ag ⟨k,fr⟩ ⟨mn,iJ⟩ ln (X.n.at j) with
            |false=>
             have NX:Hid (kj X.b X.n (search X.b X.n X.e f) cs k fr=ν):=ψ (by
              unfold kj;rw[if_neg];unfold tT;rw[<-jL.e.1,Gn pa (by rw[EP.e,DK])]
              simp)
             go_wp2_with (first
              | (go_at_call 166;refine(uv.e _).mono ?_;rintro e w4 ⟨rfl,cO⟩
                 have Kz:=ψ ((hF.e.grown OK.e (qd wr _ _) (hF.e.known.grown (qd wr (Ξ #[ξ κ mn,ξ κ iJ] 56) ν) (by simp))).below OK.e cO);clear cO))
             go_roundw;case rel=>exact⟨fr+1,by omega,by go_num,ψ (λj hj=>by
              rcases Agv.1 hj with h|rfl
              ·exact DO.e j h
              ·exact NX.e),Kz⟩
             case measure=>simp[ϙ];omega
            |true=>
             go_wp2_with (first
              | (go_at_call 166;refine(uv.e _).mono ?_;rintro e w4 ⟨rfl,cO⟩
                 have Kz:=ψ ((hF.e.grown OK.e (qd wr _ _) (hF.e.known.grown (qd wr (Ξ #[ξ κ mn,ξ κ iJ] 56) ν) (by simp))).below OK.e cO)
                 have HC4:=ψ ((cX.e.grown (qd wr (Ξ #[ξ κ mn,ξ κ iJ] 56) ν) (by simp)).below cO (by simp;omega));clear cO))
             go_roundw;case rel=>exact⟨j+1,by omega,by go_num,ψ (λq hq=>by
              rcases Agv.1 hq with h|rfl
              ·exact Ae.e q h
              ·rw[EP.e,DK]),Kz,HC4⟩
             case measure=>simp[ϙ];omega
           ·obtain rfl:j=i:=by omega
            have Ra:Hid (tT X.b X.n cs ⟨k,fr⟩=θ):=ψ (by
             unfold tT;rw[<-jL.e.1,Q3.e,Aw,v8.2 Ae.e];rfl)
            have v0: wr.cell? ⟨X.s+2,0,ν⟩=φ (ζ (φ ⟨X.s+1,0,ν⟩) j n1):=by rw[jL.e.1,<-NP.e];exact hF.e.lv.cell 0
            have e2:X.s+2<wr.heap.size:=by omega
            have e2':X.s+2<=wr.heap.size:=by omega
            have Rb:Hid (wr.ownsRow (X.s+1) 56 2 (ζ (φ ⟨X.s+1,0,ν⟩) j n1) j (cs.flatMap Cut.vs)):=ψ (by rw[jL.e.1,<-NP.e];exact hF.e.arr)
            have QZ:Hid (∀c∈cs++ [(⟨k,fr⟩:Cut)],oO X.b c):=ψ (λc hc=>by
             rcases Af8.1 hc with hc|hc
             ·exact jL.e.2.2 c hc
             ·simp at hc;subst hc;exact⟨⟨k,rfl,by have:=lD.e.2.2.2.2.2;omega⟩,by show 0<=(fr:Int)/\(fr:Int)<=40;omega⟩)
            clear Ae;cases hs:search X.b X.n X.e f (cs++ [⟨k,fr⟩]) with
            |none=>
             have NX:Hid (kj X.b X.n (search X.b X.n X.e f) cs k fr=ν):=ψ (by unfold kj;rw[Ra.e,if_pos rfl,hs])
             go_wp2_with (first
              | (at_builtin
                 refine wpList_append_fits _ rfl (.tmp 79) (.tmp 81) 27 rfl (X.s+1) 56 i56 2 (U Tryz.underlying27) F6.e.1 F6.e.2 (X.s+1) j n1 _ rfl (Rb.e.alloc _) ⟨wr.heap.size,0,ν⟩ 1 1 [ξ κ k,ξ κ fr] rfl rfl ?c1 ?c2 ?c3 ?_
                 case c1=>(intro q u hu;match q,hu with|0,hu=>(simp at hu;subst hu;simp[go_sem,Ahe]) |1,hu=>(simp at hu;subst hu;simp[go_sem,Ahe]))
                 case c2=>simp[Value.oneCell']
                 case c3=>omega
                 intro W1 cK dB;have KW:Hid (DI X (cs++ [⟨k,fr⟩]) (W1.setCell ⟨X.s+2,0,ν⟩ (ζ (φ ⟨X.s+1,0,ν⟩) (j+1) n1))):=ψ (by
                  have:=DI.push (c:=⟨k,fr⟩) OK.e hF.e (by rw[<-jL.e.1,NP.e];exact cK) dB
                  rwa[<-jL.e.1,NP.e] at this)
                 have vh:=(ϻ wr (Ξ #[ξ κ k,ξ κ fr] 56) (φ (X.s+1))).trans dB;have oA:=hF.e.lv.grown vh (by simp)
                 have DS:=hF.e.nx.grown vh (by simp)
                 have v0: W1.cell? ⟨X.s+2,0,ν⟩=φ (ζ (φ ⟨X.s+1,0,ν⟩) j n1):=by rw[jL.e.1,<-NP.e];exact oA.cell 0
                 have v1:=oA.frozen 0;have x0: W1.cell? ⟨X.s+3,0,ν⟩=φ (.func (.func 175) #[] #[π (φ ⟨X.s+2,0,ν⟩),π (φ ⟨X.gs,0,ν⟩),π (φ ⟨X.s,0,ν⟩),π (φ ⟨X.go,0,ν⟩),π (φ ⟨X.gn,0,ν⟩),π (φ ⟨X.s+3,0,ν⟩)]):=by rw[<-R0.e];exact DS.cell 0
                 have L1:=ψ (IH.e (cs++ [⟨k,fr⟩]) _ (by have:=jL.e.2.1;simp;omega) QZ.e KW.e)
                 rw[R0.e,hs] at L1;clear cK dB vh oA DS)
              | (go_at_call 175;refine L1.e.mono ?_;rintro e w6 (⟨full,hr,-,-⟩ | ⟨-,rfl,hd⟩)
                 ·cases hr
                 have v0: w6.cell? ⟨X.s+2,0,ν⟩=φ (ζ (φ ⟨X.s+1,0,ν⟩) (j+1) n1):=by have:=hd.lv.cell 0;rw[Af6,Af7,<-jL.e.1,NP.e] at this;exact this
                 have v1:=hd.lv.frozen 0;have gU:=ψ (hd.back OK.e);rw[<-jL.e.1,NP.e] at gU;clear hd))
             go_roundw;case rel=>exact⟨fr+1,by omega,by go_num,ψ (λq hq=>by
              rcases Agv.1 hq with h|rfl
              ·exact DO.e q h
              ·exact NX.e),gU⟩
             case measure=>simp[ϙ];omega
            |some full=>
             have Yr:Hid (search X.b X.n X.e (f+1) cs=φ full):=ψ (acP (k:=k) (fr:=fr) (by have:=lD.e.2.2.2.2.2;omega) bj.e ho (by rw[Q4.e];omega) DO.e (by unfold kj;rw[Ra.e,if_pos rfl,hs]))
             go_wp2_with (first
              | (at_builtin
                 refine wpList_append_fits _ rfl (.tmp 79) (.tmp 81) 27 rfl (X.s+1) 56 i56 2 (U Tryz.underlying27) F6.e.1 F6.e.2 (X.s+1) j n1 _ rfl (Rb.e.alloc _) ⟨wr.heap.size,0,ν⟩ 1 1 [ξ κ k,ξ κ fr] rfl rfl ?c1 ?c2 ?c3 ?_
                 case c1=>(intro q u hu;match q,hu with|0,hu=>(simp at hu;subst hu;simp[go_sem,Ahe]) |1,hu=>(simp at hu;subst hu;simp[go_sem,Ahe]))
                 case c2=>simp[Value.oneCell']
                 case c3=>omega
                 intro W1 cK dB;have KW:Hid (DI X (cs++ [⟨k,fr⟩]) (W1.setCell ⟨X.s+2,0,ν⟩ (ζ (φ ⟨X.s+1,0,ν⟩) (j+1) n1))):=ψ (by
                  have:=DI.push (c:=⟨k,fr⟩) OK.e hF.e (by rw[<-jL.e.1,NP.e];exact cK) dB
                  rwa[<-jL.e.1,NP.e] at this)
                 have vh:=(ϻ wr (Ξ #[ξ κ k,ξ κ fr] 56) (φ (X.s+1))).trans dB;have oA:=hF.e.lv.grown vh (by simp)
                 have DS:=hF.e.nx.grown vh (by simp)
                 have v0: W1.cell? ⟨X.s+2,0,ν⟩=φ (ζ (φ ⟨X.s+1,0,ν⟩) j n1):=by rw[jL.e.1,<-NP.e];exact oA.cell 0
                 have v1:=oA.frozen 0;have x0: W1.cell? ⟨X.s+3,0,ν⟩=φ (.func (.func 175) #[] #[π (φ ⟨X.s+2,0,ν⟩),π (φ ⟨X.gs,0,ν⟩),π (φ ⟨X.s,0,ν⟩),π (φ ⟨X.go,0,ν⟩),π (φ ⟨X.gn,0,ν⟩),π (φ ⟨X.s+3,0,ν⟩)]):=by rw[<-R0.e];exact DS.cell 0
                 have L1:=ψ (IH.e (cs++ [⟨k,fr⟩]) _ (by have:=jL.e.2.1;simp;omega) QZ.e KW.e)
                 rw[R0.e,hs] at L1;clear cK dB vh oA DS)
              | (go_at_call 175;refine L1.e.mono ?_;rintro e w6 (⟨ac8,hr,rfl,hz⟩ | ⟨hr,-,-⟩)
                 rotate_left
                 ·cases hr
                 cases hr;obtain⟨i6,NC⟩:=HZ.e.lv _ _ hz;have v0: w6.cell? ⟨X.s+2,0,ν⟩=φ (ζ (φ ⟨X.s+1,0,ν⟩) i6 n1):=by have:=NC.cell 0;rw[NP.e] at this;exact this
                 have v1:=NC.frozen 0;have Rg:=ψ (HZ.e.set full w6 j hz);rw[NP.e] at Rg;clear hz NC))
             rw[Exit.noGoto_ret];go_ret;exact .inl ⟨full,Yr.e,b9 rfl,Rg.e⟩
     ·have ql:(fr:Int)=x.aH:=by omega
      have NX:Hid (pC X.b X.n X.e (search X.b X.n X.e f) cs k=ν):=ψ (by
          unfold pC;rw[ho,if_neg (by simp)]
          exact C6.2 (λj hj=>DO.e j (by rw[Q4.e] at hj;omega)))
      clear ql;go_wp2;go_roundw;case rel=>exact⟨k+1,by omega,by go_num,ψ (λq hq=>by
          rcases Agv.1 hq with h|rfl
          ·exact bj.e q h
          ·exact NX.e),hE⟩
      case measure=>simp[ϙ];omega
  ·obtain rfl:k=nb:=by omega
   go_wp2;go_ret;exact .inr ⟨by unfold search;rw[lD.e.2.2.2.2.2];exact C6.2 bj.e,b9 rfl,hD.e⟩
def Xd{X:ep}{B:Nat}(ok:X.Ok B)(hB:B<=X.s){Z:List Cut->Ψ->Prop}(hZ:zx X Z):∀(f:Nat) (cs:List Cut) (W:Ψ),cs.length+f=X.np->(∀c∈cs,oO X.b c)->DI X cs W->ύ prog 175 X.args W (Gg X Z cs (search X.b X.n X.e f cs))
 |0,cs,W,hc,_,h=>ala ok hZ (by omega) h
 |f+1,cs,W,hc,fg,h=>alb ok hB hZ (Xd ok hB hZ f) hc fg h
def age:(prog.info? 56).map (λi=>(i.zero,i.size,i.bytes))=φ (φ (η #[ξ κ 0,ξ κ 0]),2,16):=by
 rw[pB];kernel_rfl
def SJ{X:ep}{B:Nat}(ok:X.Ok B)(hB:B<=X.s){Z:List Cut->Ψ->Prop}(hZ:zx X Z)(hk:dK X.w X.gm X.b):
 ύ prog 174 #[.func (.yield X.l) #[] #[],π (φ ⟨X.gs,0,ν⟩),π (φ ⟨X.go,0,ν⟩),π (φ ⟨X.gn,0,ν⟩)] X.w λe W'=>
  (∃v,e=Ω v)/\((∃full,search X.b X.n X.e X.np []=φ full/\Z full W')\/(search X.b X.n X.e X.np []=ν/\DI X [] W')):=by
 obtain⟨A1,n1,c1,pd,e1,h1,eA,-⟩:=ok.book.pieces.Φ;have hn:=ok.valid.np;have ks:=ok.cs;rw[pd] at ks;have s1: X.w.cell? ⟨X.gs,1,ν⟩=φ (ζ A1 n1 c1):=ks.cell 1;have Uh:=ok.s;have Ar:=ok.gm;have hs:X.w.heap.size=X.s:=rfl;have b1:X.gs<X.w.heap.size:=by omega
 have b2:X.gs<=X.w.heap.size:=by omega
 obtain⟨i0,cR,cT,aN,ba⟩:=Ag9 age;have aow:1<=n1/\n1<=3:=by omega
 have Ay:∀w:Ψ,(Instr.makeSlice 27 (ξ κ 0) (ξ κ n1)).run prog w=.ok (ζ (φ ⟨w.heap.size,0,ν⟩) 0 n1) (w.alloc (.cells (madeCells [ξ κ 0,ξ κ 0].toArray (n1 * 2)) 56)):=λw=>by
  have hr:=run_makeSlice (P:=prog) w 27 56 i0 _ (U Tryz.underlying27) cR cT .i64 .i64 0 n1 (Int.le_refl _) (by omega) (by rw[aN];omega) (by rw[ba];omega) (by omega)
  rw[aN] at hr;simpa [Value.cells] using hr
 obtain⟨mc,NF⟩:∃mc,mc=madeCells [ξ κ 0,ξ κ 0].toArray (n1 * 2):=⟨_,rfl⟩
 rw[<-NF] at Ay;have UQ:mc.size=n1 * 2:=by rw[NF];exact size_madeCells _ _
 have mL:X.np=n1:=by unfold ep.np;exact e1
 have Ui:DI X [] ((((X.w.alloc (Ξ #[.func (.yield X.l) #[] #[]] 139)).alloc (.cells mc 56)).alloc (Ξ #[ζ (φ ⟨X.w.heap.size+1,0,ν⟩) 0 n1] 27)).alloc (Ξ #[.func (.func 175) #[] #[π (φ ⟨X.w.heap.size+1+1,0,ν⟩),π (φ ⟨X.gs,0,ν⟩),π (φ ⟨X.w.heap.size,0,ν⟩),π (φ ⟨X.go,0,ν⟩),π (φ ⟨X.gn,0,ν⟩),π (φ ⟨X.w.heap.size+1+1+1,0,ν⟩)]] 29)):=by
  refine⟨(((Bk.cG rfl _ _).alloc _).alloc _).alloc _,?_,?_,Bk.cG (by simp[ep.s]) _ _,?_,?_⟩
  ·refine⟨rfl,.inr ⟨X.s+1,n1,mc,(by rw[mL];try rfl),ϊ _,mm (mm (uI (by simp[ep.s]))),ϡ _,by unfold ϗ;omega,UQ,by simp⟩⟩
  ·rw[mL];exact(Bk.cG (by simp[ep.s]) _ _).alloc _
  ·exact((((ϻ _ _ _).trans (ϻ _ _ _)).trans (ϻ _ _ _)).trans (ϻ _ _ _))
  ·have:=hk
   exact(((this.grown (ϻ _ _ ν) (by simp)).grown (ϻ _ _ ν) (by simp)).grown (ϻ _ _ ν) (by simp)).grown (ϻ _ _ ν) (by simp)
 have call:=Xd ok hB hZ X.np [] _ (by simp) (by simp) Ui
 have Af:X.args=#[π (φ ⟨X.w.heap.size+1+1,0,ν⟩),π (φ ⟨X.gs,0,ν⟩),π (φ ⟨X.w.heap.size,0,ν⟩),π (φ ⟨X.go,0,ν⟩),π (φ ⟨X.gn,0,ν⟩),π (φ ⟨X.w.heap.size+1+1+1,0,ν⟩)]:=rfl;rw[Af] at call;have call2:=call.mono (R':=λe W'=>(∃bb:Bool,e=Ω (.bool bb))/\Hid ((∃full,search X.b X.n X.e X.np []=φ full/\Z full W')\/(search X.b X.n X.e X.np []=ν/\DI X [] W'))) (by
  rintro e W' (⟨full,h1,h2,h3⟩ | ⟨h1,h2,h3⟩)
  ·exact⟨⟨_,h2⟩,ψ (.inl ⟨full,h1,h3⟩)⟩
  ·exact⟨⟨_,h2⟩,ψ (.inr ⟨h1,h3⟩)⟩)
 have aB:=ψ call2;clear NF UQ mL Ui call call2 Af;have OK:=ψ ok;have HZ:=ψ hZ;have HK:=ψ hk;have E1:=ψ e1;clear ok hZ hk e1 pd ks cR cT aN ba hs hn;go_enter func174,Tryz.ntmps174;go_wp2_with (first
  | (go_at_call 175;refine aB.e.mono ?_;rintro e w1 ⟨⟨bb,rfl⟩,jY⟩))
 go_end0
 exact⟨⟨_,rfl⟩,jY.e⟩
def VH:(prog.info? 56).map (λi=>(i.zero,i.size,i.bytes))=φ (φ (η #[ξ κ 0,ξ κ 0]),2,16):=by
 rw[pB];kernel_rfl
def aaC{ad:ϕ}{n c:Nat}{news:List υ}{w:Ψ}(hl:news.length=n * 2)(hc:∀j u,news[j]?=φ u-> w.cell? (ad.add j)=φ u)(h1:∀u∈news,u.oneCell'=θ)(hn:n<=1000000)(aC:ad.block<w.heap.size):
 ύ prog 201 #[ζ (φ ad) n c] w λe w'=>∃v,e=Ω v/\w'.ownsRow w.heap.size 56 2 v n news/\Γ w.heap.size w w':=by
 obtain⟨i0,cR,cT,aN,ba⟩:=Ag9 VH;have dv:=ψ (ϐ cR (ϐ cT (ϐ aN ba)));have HC:Hid (∀j u,news[j]?=φ u->(w.alloc (Ξ #[] 56)).cell? (ad.add j)=φ u):=ψ (λj u hu=>(Afz w _ _ (by rw[cq];exact aC)).trans (hc j u hu))
 have HL:=ψ (ϐ hl h1);have HO:Hid ((w.alloc (Ξ #[] 56)).ownsRow w.heap.size 56 2 (ζ (φ ⟨w.heap.size,0,ν⟩) 0 0) 0 []):=ψ ⟨rfl,.inr ⟨w.heap.size,0,#[],rfl,ϊ _,Ag6 w _,ϊ _,by unfold ϗ;omega,rfl,rfl⟩⟩
 clear hl hc h1 cR cT aN ba;have q:∀(w:Ψ) (a:Option ϕ) (n c n' c':Nat),(binOp .eql 27 (ζ a n c) (ζ ν n' c')).run prog w=.ok (.bool a.isNone) w:=λw a n c n' c'=>Ahf w _ _ a n c n' c' (U Tryz.underlying27)
 go_enter func201,Tryz.ntmps201;go_wp2_with (first
  | (at_builtin
     refine Ahc _ rfl (.tmp 5) (.tmp 6) 27 rfl w.heap.size 56 i0 (η #[ξ κ 0,ξ κ 0]) 2 16 (U Tryz.underlying27) dv.e.1 dv.e.2.1 dv.e.2.2.1 dv.e.2.2.2 rfl (by decide) _ 0 _ rfl HO.e ad n c news rfl HL.e.1 HC.e HL.e.2 ?c3 ?c4 ?c5 ?_
     case c3=>(simp only[ϗ];omega)
     case c4=>omega
     case c5=>simp
     intro v' w1 cK dT _;have gW:=ψ cK;have gV:=ψ dT;clear cK dT))
 go_ret;refine⟨_,rfl,by have:=gW.e;rwa[Aib,Agr] at this,((Ϗ _ _).alloc (ϊ _) _).grown gV.e (by simp) (λk hk=>ei HO.e k hk)⟩
def ep.Ok.alloc{X:ep}{B:Nat}(ok:X.Ok B)(hB:B<=X.w.heap.size)(o:Obj):ep.Ok {X with w:=X.w.alloc o} B where
 book:=ok.book.still ((Δ.refl _).alloc hB o)
 valid:=ok.valid
 lens:=ok.lens
 sv:=ok.sv
 B:=ok.B
 s:=by have:=ok.s;simp[ep.s] at this |-;omega
 o:=by have:=ok.o;simp[ep.s] at this |-;omega
 gn:=by have:=ok.gn;simp[ep.s] at this |-;omega
 gm:=by have:=ok.gm;simp[ep.s] at this |-;omega
 ns:=ok.ns
 no:=ok.no
 nn:=ok.nn
 cs:=ok.cs.alloc o
 co:=ok.co.alloc o
 cn:=ok.cn.alloc o
 eg:=ok.eg
 e:=λk W hk hg=>ok.e k W hk ((ϻ X.w o _).trans hg)
def ep.Ok.adH{X:ep}{B:Nat}(ok:X.Ok B)(l:Nat):ep.Ok {X with l:=l} B:=⟨ok.book,ok.valid,ok.lens,ok.sv,ok.B,ok.s,ok.o,ok.gn,ok.gm,ok.ns,ok.no,ok.nn,ok.cs,ok.co,ok.cn,ok.eg,ok.e⟩
end Go.Tw
namespace Go.Tw
variable [Go.Tw.aR]
open Go Go.Proofs Go.RowKit
attribute [local go_sem] ze K0 Oper.semAt_some
structure FZ(w0:Ψ)(gm:Nat)(b:ao)(rc:Loop)(np:Nat)(full:List Cut)(W:Ψ):Prop where
 r0:∃v,Bk W w0.heap.size 27 #[v]/\W.ownsRow (w0.heap.size+8) 56 2 v np (full.flatMap Cut.vs)
 r1:Bk W (w0.heap.size+1) 4 #[.bool θ]
 d:W.heap[w0.heap.size+2]?=φ (.deferred (φ []))
 l:W.heap[w0.heap.size+3]?=φ (.loop {rc with state:=.done,pending:=φ .ret})
 lv:∃i,Bk W (w0.heap.size+4+2) 27 #[ζ (φ ⟨w0.heap.size+4+1,0,ν⟩) i np]
 gr:w0.grownBy W (φ gm)
 known:dK W gm b
def Es{W:Ψ}{g:Nat}{b:ao}{p:ϕ}{u:υ}(h:dK W g b)(hp:g≠p.block):dK (W.setCell p u) g b:=by
 obtain⟨es,clock,h1,h2⟩:=h;exact⟨es,clock,(Afu _ _ _ _ hp).trans h1,h2⟩
def FZ.set{w0:Ψ}{gm:Nat}{b:ao}{rc:Loop}{np:Nat}{full:List Cut}{W:Ψ}(h:FZ w0 gm b rc np full W)(Ar:gm<w0.heap.size)(i:Nat):FZ w0 gm b rc np full (W.setCell ⟨w0.heap.size+4+2,0,ν⟩ (ζ (φ ⟨w0.heap.size+4+1,0,ν⟩) i np)):=by
 obtain⟨v,v1,v2⟩:=h.r0;obtain⟨i',hi⟩:=h.lv;exact⟨⟨v,v1.cu (by simp;omega) _,eo v2 (by simp)⟩,h.r1.cu (by simp) _,(Afu _ _ _ _ (by simp)).trans h.d,(Afu _ _ _ _ (by simp)).trans h.l,⟨i,hi.set 0 _⟩,xr h.gr (by simp;omega),Es h.known (by simp;omega)⟩
def Yu(X:ep)(e:Ag7)(W':Ψ):Prop:=
 ((∃full v,search X.b X.n X.e X.np []=φ full/\e=Ω (μ #[v,.bool θ])/\W'.ownsRow X.w.heap.size 56 2 v X.np (full.flatMap Cut.vs))\/(search X.b X.n X.e X.np []=ν/\e=Ω (μ #[ζ ν 0 0,.bool χ])))/\
 X.w.grownBy W' (φ X.gm)/\dK W' X.gm X.b
def vT{w:Ψ}{base:Nat}{e:ό}{sz n g cap:Nat}{xs:List υ}(h:w.ownsRow base e sz (ζ (φ ⟨g,0,ν⟩) n cap) n xs):∀j u,xs[j]?=φ u-> w.cell? ((⟨g,0,ν⟩:ϕ).add j)=φ u:=by
 intro j u hu;rcases h.2 with⟨h0,_⟩ | ⟨g',zd,cur,h1,h2,h3,h4,h5,h6,h7⟩
 ·cases h0
 ·cases h1
  rw[nu];refine(cell_of_row w g j cur _ (0,0) h3).trans ?_
  rw[<-h7,List.getElem?_take] at hu
  split at hu
  ·rw[<-Ag4];exact hu
  ·cases hu
def aba(l:List Cut):∀u∈l.flatMap Cut.vs,u.oneCell'=θ:=by
 intro u hu;simp only[Ahw,Cut.vs,List.mem_cons,List.not_mem_nil,or_false] at hu;obtain⟨c,_,rfl|rfl⟩:=hu<;>rfl
def S9{X:ep}{B:Nat}(ok:X.Ok B)(hB:B<=X.w.heap.size)(hk:dK X.w X.gm X.b):
 ύ prog 170 #[fv 174 #[π (φ ⟨X.gs,0,ν⟩),π (φ ⟨X.go,0,ν⟩),π (φ ⟨X.gn,0,ν⟩)]] X.w (Yu X):=by
 refine(callsIn_wide (n:=0)).1 ?_
 have Ar:=ok.gm;have hs:X.s=X.w.heap.size:=rfl;have aol:X.gm<X.w.heap.size:=Ar;have OK:=ψ ok;have HK:=ψ hk;have kH:1<=X.np/\X.np<=3:=ok.valid.np;clear ok hk;refine callsIn_of_wp_marks func170 rfl trivial ?_
 simp only[Tryz.ntmps170,Agn,Af5,Ago,Ag0,Ag1,Aeq,Aer,Agp,Agq,Agr,Ags]
 gi_wp2
 refine Pr (gf:=174) (pre:=#[]) (lb:=#[π (φ ⟨X.gs,0,ν⟩),π (φ ⟨X.go,0,ν⟩),π (φ ⟨X.gn,0,ν⟩)]) rfl call174 λfn rc gP=>?_
 simp only[Ahn,Nat.add_assoc,Ag0,Agq,Ags,Agr,Ahs];obtain⟨W1,eJ⟩:∃W1,W1=(((X.w.alloc (Ϧ #[Value.slice ν 0 0] 27)).alloc (Ϧ #[Value.bool χ] 4)).alloc (Obj.deferred (φ []))).alloc (Obj.loop rc):=⟨_,rfl⟩
 have AA:=((((OK.e.alloc hB (Ξ #[ζ ν 0 0] 27)).alloc (by simp;omega) (Ξ #[.bool χ] 4)).alloc (by simp;omega) (.deferred (φ []))).alloc (by simp;omega) (.loop rc)).adH (X.w.heap.size+3)
 have ML:W1.heap.size=X.w.heap.size+4:=by rw[eJ];simp
 have xT:W1.heap[X.w.heap.size+3]?=φ (.loop rc):=by rw[eJ];exact uI (by simp)
 have jT:W1.heap[X.w.heap.size+2]?=φ (.deferred (φ [])):=by rw[eJ];exact mm (uI (by simp))
 have k0:Bk W1 X.w.heap.size 27 #[ζ ν 0 0]:=by rw[eJ];exact(((Bk.new _ _ _).alloc _).alloc _).alloc _
 have k1:Bk W1 (X.w.heap.size+1) 4 #[.bool χ]:=by rw[eJ];exact((Bk.cG (by simp) _ _).alloc _).alloc _
 have dB:X.w.grownBy W1 (φ X.gm):=by rw[eJ];exact(((ϻ _ _ _).trans (ϻ _ _ _)).trans (ϻ _ _ _)).trans (ϻ _ _ _)
 have dg:dK W1 X.gm X.b:=HK.e.grown (row:=ν) (by rw[eJ];exact(((ϻ _ _ _).trans (ϻ _ _ _)).trans (ϻ _ _ _)).trans (ϻ _ _ _)) (by simp)
 rw[<-eJ] at AA |-
 clear eJ;obtain⟨X1,gv⟩:∃X1:ep,X1={X with w:=W1,l:=X.w.heap.size+3}:=⟨_,rfl⟩
 have dh:X1.Ok B:=by rw[gv];exact AA
 have e0:X1.s=X.w.heap.size+4:=by rw[gv];exact ML
 have hZ:zx X1 (FZ X.w X.gm X.b rc X.np):=by
  refine⟨λfull W hz=>?_,λfull W i hz=>?_,?yr⟩
  ·obtain⟨i,hi⟩:=hz.lv
   rw[e0,show X1.np=X.np by rw[gv];rfl];exact⟨i,hi⟩
  ·rw[e0,show X1.np=X.np by rw[gv];rfl];exact hz.set (by rw[<-hs];exact Ar) i
  ·intro m full W hlen hD
   have xY:X1.np=X.np:=by rw[gv];rfl
   have Np:X1.gm=X.gm:=by rw[gv]
   have yo:X1.w=W1:=by rw[gv]
   have ae:X1.b=X.b:=by rw[gv]
   have UA:X1.l=X.w.heap.size+3:=by rw[gv]
   have eh:=hD.gr;rw[yo,Np] at eh;have oz:W.heap[X.w.heap.size+3]?=φ (.loop rc):=(eh.block _ (by omega) (by simp;omega)).trans xT
   have fJ:W.heap[X.w.heap.size+2]?=φ (.deferred (φ [])):=(eh.block _ (by omega) (by simp;omega)).trans jT
   have Eo:Bk W X.w.heap.size 27 #[ζ ν 0 0]:=k0.grown eh (by simp;omega)
   have tP:Bk W (X.w.heap.size+1) 4 #[.bool χ]:=k1.grown eh (by simp;omega)
   have oA:Bk W (X.w.heap.size+4+2) 27 #[ζ (φ ⟨X.w.heap.size+4+1,0,ν⟩) X.np X.np]:=by have:=hD.lv;rw[e0,hlen,xY] at this;exact this
   have Ag:W.ownsRow (X.w.heap.size+4+1) 56 2 (ζ (φ ⟨X.w.heap.size+4+1,0,ν⟩) X.np X.np) X.np (full.flatMap Cut.vs):=by have:=hD.arr;rw[e0,hlen,xY] at this;exact this
   have da:dK W X.gm X.b:=by have:=hD.known;rw[Np,ae] at this;exact this
   have mG:X.w.heap.size+4+3<W.heap.size:=by have:=hD.nx.lt;rw[e0] at this;exact this
   rw[UA,e0,xY];refine Qy (n:=0) gP oz rfl ?_
   gi_wp2
   refine⟨_,abC gP oz,?_⟩
   obtain⟨Wb,qe⟩:∃Wb,Wb=W.putObj (X.w.heap.size+3) (.loop {rc with state:=.busy}):=⟨_,rfl⟩
   rw[<-qe];have k8:∀g,g≠X.w.heap.size+3->Wb.heap[g]?=W.heap[g]?:=λg hg=>by rw[qe];exact Ahm hg
   have tE:Wb.heap[X.w.heap.size+3]?=φ (.loop {rc with state:=.busy}):=by rw[qe];exact Ahl (by omega)
   have DZ:Wb.heap.size=W.heap.size:=by rw[qe];simp
   have Aq:X.w.grownBy Wb (φ X.gm):=by
    rw[qe];exact xq (dB.trans eh) (Ag8 W _ _) (λg e=>by cases e;omega)
   have ig:dK Wb X.gm X.b:=by
    obtain⟨es,clock,h1,h2⟩:=da;exact⟨es,clock,(k8 _ (by omega)).trans h1,h2⟩
   have VL:Bk Wb X.w.heap.size 27 #[ζ ν 0 0]:=(k8 _ (by omega)).trans Eo
   have VM:Bk Wb (X.w.heap.size+1) 4 #[.bool χ]:=(k8 _ (by omega)).trans tP
   have Uf:Wb.heap[X.w.heap.size+2]?=φ (.deferred (φ [])):=(k8 _ (by omega)).trans fJ
   have UO:Bk Wb (X.w.heap.size+4+2) 27 #[ζ (φ ⟨X.w.heap.size+4+1,0,ν⟩) X.np X.np]:=(k8 _ (by omega)).trans oA
   have hab:Wb.ownsRow (X.w.heap.size+4+1) 56 2 (ζ (φ ⟨X.w.heap.size+4+1,0,ν⟩) X.np X.np) X.np (full.flatMap Cut.vs):=by
    rw[qe];exact EK Ag (by omega)
   have UG:full.length=X.np:=hlen.trans xY;have eI:=lu (R:=Cut.R) (f:=Cut.vs) (l:=full) (by rw[UG];exact hab) (λ_=>rfl) (λ_ _=>rfl)
   have Hs:∀j u,(full.flatMap Cut.vs)[j]?=φ u-> Wb.cell? ((⟨X.w.heap.size+4+1,0,ν⟩:ϕ).add j)=φ u:=λj u hu=>vT hab j u hu
   have AB:∀u∈full.flatMap Cut.vs,u.oneCell'=θ:=aba full
   have Az:(full.flatMap Cut.vs).length=X.np * 2:=hab.1;have aB:=ψ (aaC (n:=X.np) (c:=X.np) Az Hs AB (by omega) (by simp;omega))
   have FR:=ψ (ϐ Aq (ϐ ig (ϐ VL (ϐ VM (ϐ Uf (ϐ UO tE))))));clear qe k8 hab eI Hs AB Az Aq ig VL VM Uf UO tE oz fJ Eo tP oA Ag da eh hD gv dh AA UG hlen xY Np yo ae UA e0 k0 k1 dB dg xT jT ML hs
   gi_wp2_with (first
    | (gi_at_call 201;refine(callsIn_wide.2 aB.e).mono ?_;rintro e w1 ⟨v,rfl,aG,ae⟩
       obtain⟨A9,m9,c9,rfl⟩:=j8 aG;have q0:Bk w1 X.w.heap.size 27 #[ζ ν 0 0]:=FR.e.2.2.1.below ae (by omega)
       have q1:Bk w1 (X.w.heap.size+1) 4 #[.bool χ]:=FR.e.2.2.2.1.below ae (by omega)
       have r0: w1.cell? ⟨X.w.heap.size,0,ν⟩=φ (ζ ν 0 0):=q0.cell 0;have z0:=q0.frozen 0;have r1: w1.cell? ⟨X.w.heap.size+1,0,ν⟩=φ (.bool χ):=q1.cell 0;have z1:=q1.frozen 0;have sO:=ψ (ϐ aG (ϐ ae (ϐ q0 q1)));clear aG ae q0 q1))
   have hzb:X.w.heap.size+7<Wb.heap.size:=by omega
   have aN:=sO.e.2.1.size;refine⟨_,_,SQ .ret ((Afu _ _ _ _ (by simp)).trans ((Afu _ _ _ _ (by simp)).trans ((sO.e.2.1.block _ (by omega)).trans FR.e.2.2.2.2.2.2))),rfl,?_⟩
   refine⟨⟨_,(Ahm (by omega)).trans ((sO.e.2.2.1.set 0 _).cu (by simp) _),EK (eo (eo (sO.e.1.base (by omega)) (by simp)) (by simp)) (by omega)⟩,
    (Ahm (by omega)).trans ((sO.e.2.2.2.cu (by simp) _).set 0 _),(Ahm (by omega)).trans ((Afu _ _ _ _ (by simp)).trans ((Afu _ _ _ _ (by simp)).trans ((sO.e.2.1.block _ (by omega)).trans FR.e.2.2.2.2.1))),
    Ahl (by simp[Ad2];omega),⟨_,(Ahm (by omega)).trans (((FR.e.2.2.2.2.2.1.below sO.e.2.1 (by omega)).cu (by simp;omega) _).cu (by simp) _)⟩,?_,?_⟩
   ·exact xq (xr (xr (FR.e.1.trans (je sO.e.2.1 (ϊ _) _)) (by simp)) (by simp)) (Ag8 _ _ _) (λg e=>by cases e;omega)
   ·have fh:=Es (u:=.bool θ) (p:=⟨X.w.heap.size+1,0,ν⟩) (Es (u:=ζ A9 m9 c9) (p:=⟨X.w.heap.size,0,ν⟩) (FR.e.2.1.below sO.e.2.1 FR.e.2.1.lt) (by simp;omega)) (by simp;omega)
    obtain⟨es,clock,h1,h2⟩:=fh;exact⟨es,clock,(Ahm (by omega)).trans h1,h2⟩
 have call:=SJ dh (by rw[e0];omega) hZ (by rw[gv];exact dg)
 rw[show X1.l=X.w.heap.size+3 by rw[gv],show X1.gs=X.gs by rw[gv],show X1.go=X.go by rw[gv],show X1.gn=X.gn by rw[gv],show X1.w=W1 by rw[gv],show X1.b=X.b by rw[gv],show X1.n=X.n by rw[gv],show X1.e=X.e by rw[gv],show X1.np=X.np by rw[gv];rfl] at call
 refine(callsIn_wide.2 call).mono ?_
 rintro e W2 ⟨⟨v,rfl⟩,(⟨full,tM,hz⟩ | ⟨tM,hD⟩)⟩
 ·have HZ:=ψ hz
  have HS:=ψ tM;obtain⟨v2,v21,v22⟩:=hz.r0;obtain⟨A9,m9,c9,rfl⟩:=j8 v22;refine⟨φ .ret,_,SW hz.l,?_⟩
  obtain⟨W3,iL⟩:∃W3,W3=W2.putObj (X.w.heap.size+3) (.loop {rc with state:=.exhausted,pending:=φ .ret}):=⟨_,rfl⟩
  have q0:Bk W3 X.w.heap.size 27 #[ζ A9 m9 c9]:=by rw[iL];exact(Ahm (by omega)).trans v21
  have q1:Bk W3 (X.w.heap.size+1) 4 #[.bool θ]:=by rw[iL];exact(Ahm (by omega)).trans hz.r1
  have Ky:Hid (W3.heap[X.w.heap.size+2]?=φ (.deferred (φ []))):=ψ (by rw[iL];exact(Ahm (by omega)).trans hz.d)
  have iD:Hid (X.w.grownBy W3 (φ X.gm)/\dK W3 X.gm X.b/\W3.ownsRow (X.w.heap.size+8) 56 2 (ζ A9 m9 c9) X.np (full.flatMap Cut.vs)):=ψ (by
   rw[iL];refine⟨xq hz.gr (Ag8 _ _ _) (λg e=>by cases e;omega),?_,EK v22 (by omega)⟩
   obtain⟨es,clock,h1,h2⟩:=hz.known;exact⟨es,clock,(Ahm (by omega)).trans h1,h2⟩)
  have Q:=ψ (ϐ q0 q1);have cT:X.w.heap.size+1<W3.heap.size:=q1.lt;rw[<-iL];clear iL hz v21 v22 tM q0 q1;show Code.wpIn Afk 0 prog Code.ret _ _ _
  gi_wp2
  refine⟨by simp,.inl ⟨_,_,rfl,Aha Ky.e,?_⟩⟩
  have r0:(W3.putObj (X.w.heap.size+2) (.deferred ν)).cell? ⟨X.w.heap.size,0,ν⟩=φ (ζ A9 m9 c9):=Bk.cell (g:=X.w.heap.size) ((Ahm (by omega)).trans Q.e.1) 0
  have r1:(W3.putObj (X.w.heap.size+2) (.deferred ν)).cell? ⟨X.w.heap.size+1,0,ν⟩=φ (.bool θ):=Bk.cell (g:=X.w.heap.size+1) ((Ahm (by omega)).trans Q.e.2) 0
  refine⟨μ #[ζ A9 m9 c9,.bool θ],by simp[results,Tryz.results170,go_sem,r0,r1],.inl ⟨full,ζ A9 m9 c9,HS.e,rfl,(EK iD.e.2.2 (by omega)).base (by omega)⟩,xq iD.e.1 (Ag8 _ _ _) (λg e=>by cases e;omega),?_⟩
  obtain⟨es,clock,h1,h2⟩:=iD.e.2.1;exact⟨es,clock,(Ahm (by omega)).trans h1,h2⟩
 ·have HS:=ψ tM
  have eh:=hD.gr;rw[show X1.w=W1 by rw[gv],show X1.gm=X.gm by rw[gv]] at eh
  have da:dK W2 X.gm X.b:=by have:=hD.known;rw[show X1.gm=X.gm by rw[gv],show X1.b=X.b by rw[gv]] at this;exact this
  have oz:W2.heap[X.w.heap.size+3]?=φ (.loop rc):=(eh.block _ (by omega) (by simp;omega)).trans xT
  have fJ:W2.heap[X.w.heap.size+2]?=φ (.deferred (φ [])):=(eh.block _ (by omega) (by simp;omega)).trans jT
  have Eo:Bk W2 X.w.heap.size 27 #[ζ ν 0 0]:=k0.grown eh (by simp;omega)
  have tP:Bk W2 (X.w.heap.size+1) 4 #[.bool χ]:=k1.grown eh (by simp;omega)
  refine⟨ν,_,L7 gP oz,?_⟩
  obtain⟨W3,iL⟩:∃W3,W3=W2.putObj (X.w.heap.size+3) (.loop {rc with state:=.exhausted}):=⟨_,rfl⟩
  have q0:Bk W3 X.w.heap.size 27 #[ζ ν 0 0]:=by rw[iL];exact(Ahm (by omega)).trans Eo
  have q1:Bk W3 (X.w.heap.size+1) 4 #[.bool χ]:=by rw[iL];exact(Ahm (by omega)).trans tP
  have Ky:Hid (W3.heap[X.w.heap.size+2]?=φ (.deferred (φ []))):=ψ (by rw[iL];exact(Ahm (by omega)).trans fJ)
  have iD:Hid (X.w.grownBy W3 (φ X.gm)/\dK W3 X.gm X.b):=ψ (by
   rw[iL];refine⟨xq (dB.trans eh) (Ag8 _ _ _) (λg e=>by cases e;omega),?_⟩
   obtain⟨es,clock,h1,h2⟩:=da;exact⟨es,clock,(Ahm (by omega)).trans h1,h2⟩)
  have Q:=ψ (ϐ q0 q1);have r0: W3.cell? ⟨X.w.heap.size,0,ν⟩=φ (ζ ν 0 0):=q0.cell 0;have r1: W3.cell? ⟨X.w.heap.size+1,0,ν⟩=φ (.bool χ):=q1.cell 0;have z0:=q0.frozen 0;have z1:=q1.frozen 0;have cT:X.w.heap.size+1<W3.heap.size:=q1.lt;rw[<-iL];clear iL hD tM eh da oz fJ Eo tP q0 q1 hZ call dh AA gv e0 k0 k1 dB dg xT jT ML hs;show Exit.inBlock _ _ _ _ _
  gi_wp2
  refine⟨by simp,.inl ⟨_,_,rfl,Aha ((Afu _ _ _ _ (by simp)).trans ((Afu _ _ _ _ (by simp)).trans Ky.e)),?_⟩⟩
  have t0:(((W3.setCell ⟨X.w.heap.size,0,ν⟩ (ζ ν 0 0)).setCell ⟨X.w.heap.size+1,0,ν⟩ (.bool χ)).putObj (X.w.heap.size+2) (.deferred ν)).cell? ⟨X.w.heap.size,0,ν⟩=φ (ζ ν 0 0):=Bk.cell (g:=X.w.heap.size) (t:=27) (cs:=#[ζ ν 0 0]) ((Ahm (by omega)).trans ((Q.e.1.set 0 (ζ ν 0 0)).cu (by simp) _)) 0
  have t1:(((W3.setCell ⟨X.w.heap.size,0,ν⟩ (ζ ν 0 0)).setCell ⟨X.w.heap.size+1,0,ν⟩ (.bool χ)).putObj (X.w.heap.size+2) (.deferred ν)).cell? ⟨X.w.heap.size+1,0,ν⟩=φ (.bool χ):=Bk.cell (g:=X.w.heap.size+1) (t:=4) (cs:=#[.bool χ]) ((Ahm (by omega)).trans ((Q.e.2.cu (by simp) _).set 0 (.bool χ))) 0
  refine⟨μ #[ζ ν 0 0,.bool χ],by simp[results,Tryz.results170,go_sem,t0,t1],.inr ⟨HS.e,rfl⟩,xq (xr (xr iD.e.1 (by simp)) (by simp)) (Ag8 _ _ _) (λg e=>by cases e;omega),?_⟩
  obtain⟨es,clock,h1,h2⟩:=Es (u:=.bool χ) (p:=⟨X.w.heap.size+1,0,ν⟩) (Es (u:=ζ ν 0 0) (p:=⟨X.w.heap.size,0,ν⟩) iD.e.2 (by simp;omega)) (by simp;omega)
  exact⟨es,clock,(Ahm (by omega)).trans h1,h2⟩
end Go.Tw
namespace Go.Tw
variable [Go.Tw.aR]
open Go Go.Proofs Go.RowKit
def Xl(w:Ψ)(b:ao)(pv bv tv:υ)(e:Ag7)(w':Ψ):Prop:=∃g,e=Ω (μ #[η #[ξ κ 0,ζ ν 0 0,ζ ν 0 0,ζ ν 0 0,ζ ν 0 0,.map (φ g)],ξ κ (cj b 0)])/\Γ w.heap.size w w'
def als{w:Ψ}{b:ao}{pv bv tv:υ}{B:Nat}(hB:B<=w.heap.size)(ai:bg w B b pv bv tv)(h:cj b 0≠0):
 ύ prog 119 #[η #[ξ κ b.ag,pv,bv,tv]] w (Xl w b pv bv tv):=by
 have st:Δ B w ((w.alloc (Ξ #[ξ κ b.ag,pv,bv,tv] 26)).alloc (Ξ #[ξ κ 0,ζ ν 0 0,ζ ν 0 0,ζ ν 0 0,ζ ν 0 0,.map ν] 151)):=((Δ.refl w).alloc hB _).alloc (by simp;omega) _
 have aB:=ψ (ajn (w:=((w.alloc (Ξ #[ξ κ b.ag,pv,bv,tv] 26)).alloc (Ξ #[ξ κ 0,ζ ν 0 0,ζ ν 0 0,ζ ν 0 0,ζ ν 0 0,.map ν] 151))) (B:=B) (by simp;omega) (ai.still st) (Gp (ai.still st)) h)
 obtain⟨s,hs⟩:∃s,s=cj b 0:=⟨_,rfl⟩
 have HS:=ψ hs;rw[<-hs] at aB h;obtain⟨A1,n1,c1,rfl,-⟩:=ai.pieces.Φ;obtain⟨A2,n2,c2,rfl,-⟩:=ai.aF.Φ;obtain⟨A3,n3,c3,rfl,-⟩:=ai.aJ.Φ;clear ai st hs;have hmm:= @run_makeMap prog;go_enter func119,Tryz.ntmps119;go_wp2_with (first
  | (go_at_call 98;refine aB.e.mono ?_;rintro e w1 ⟨rfl,ae⟩
     have k1:Bk w1 (w.heap.size+1) 151 #[ξ κ 0,ζ ν 0 0,ζ ν 0 0,ζ ν 0 0,ζ ν 0 0,.map ν]:=(Bk.cG (by simp) _ _).below ae (by simp)
     have r0:=k1.cell 0;have z0:=k1.frozen 0;have r1:=k1.cell 1;have z1:=k1.frozen 1;have r2:=k1.cell 2;have z2:=k1.frozen 2;have r3:=k1.cell 3;have z3:=k1.frozen 3;have r4:=k1.cell 4;have z4:=k1.frozen 4;have r5:=k1.cell 5;have z5:=k1.frozen 5;have aN:w.heap.size+1<w1.heap.size:=by have:=ae.size;simp at this;omega
     have ba:w.heap.size+1<=w1.heap.size:=by omega
     have jB:w.heap.size<w1.heap.size:=by omega
     have vG:w.heap.size<=w1.heap.size:=by omega
     have YI:=ψ k1;have aY:Hid (Γ w.heap.size w w1):=ψ ((((Ϗ _ _).alloc (ϊ _) _).alloc (by simp) _).trans (ae.mono (by simp;omega)))
     clear ae k1))
 refine Ahb (v:=μ #[η #[ξ κ 0,ζ ν 0 0,ζ ν 0 0,ζ ν 0 0,ζ ν 0 0,.map (φ (w1.heap.size+1))],ξ κ s]) (by simp[results,Tryz.results119,go_sem,r0,r1,r2,r3,r4,r5,aN,ba,jB,vG]) rfl ?_
 rw[show s=cj b 0 from HS.e]
 refine⟨_,rfl,?_⟩
 ((refine Ahk (Ahk ?_ (by simp[Ad2];omega) _) (by simp[Ad2];omega) _);(repeat refine Ahj ?_ (by simp) _);exact aY.e)
def alr(w:Ψ)(b:ao)(pv bv tv:υ)(e:Ag7)(w':Ψ):Prop:=∃sv g,e=Ω (μ #[η #[ξ κ b.ag,pv,bv,tv,sv,.map (φ g)],ξ κ 0])/\qQ w' w.heap.size sv (aD b)/\dK w' g b/\w.heap.size<=g/\Γ w.heap.size w w'
def PO{w:Ψ}{b:ao}{pv bv tv:υ}{B:Nat}(hB:B<=w.heap.size)(ai:bg w B b pv bv tv)(h:cj b 0=0):
 ύ prog 119 #[η #[ξ κ b.ag,pv,bv,tv]] w (alr w b pv bv tv):=by
 have st:Δ B w ((w.alloc (Ξ #[ξ κ b.ag,pv,bv,tv] 26)).alloc (Ξ #[ξ κ 0,ζ ν 0 0,ζ ν 0 0,ζ ν 0 0,ζ ν 0 0,.map ν] 151)):=((Δ.refl w).alloc hB _).alloc (by simp;omega) _
 have aB:=ψ (yL (w:=((w.alloc (Ξ #[ξ κ b.ag,pv,bv,tv] 26)).alloc (Ξ #[ξ κ 0,ζ ν 0 0,ζ ν 0 0,ζ ν 0 0,ζ ν 0 0,.map ν] 151))) (B:=B) (by simp;omega) (ai.still st) (Gp (ai.still st)) h)
 obtain⟨A1,n1,c1,rfl,-⟩:=ai.pieces.Φ;obtain⟨A2,n2,c2,rfl,-⟩:=ai.aF.Φ;obtain⟨A3,n3,c3,rfl,-⟩:=ai.aJ.Φ;clear ai st h;have hmm:= @run_makeMap prog;go_enter func119,Tryz.ntmps119;go_wp2_with (first
  | (go_at_call 98;refine aB.e.mono ?_;rintro e w1 ⟨sv,rfl,aG,ae⟩
     obtain⟨A9,m9,c9,rfl⟩:=j8 aG;have HO:=ψ aG;have k1:Bk w1 (w.heap.size+1) 151 #[ξ κ 0,ζ ν 0 0,ζ ν 0 0,ζ ν 0 0,ζ ν 0 0,.map ν]:=(Bk.cG (by simp) _ _).below ae (by simp)
     have r0:=k1.cell 0;have z0:=k1.frozen 0;have r1:=k1.cell 1;have z1:=k1.frozen 1;have r2:=k1.cell 2;have z2:=k1.frozen 2;have r3:=k1.cell 3;have z3:=k1.frozen 3;have r4:=k1.cell 4;have z4:=k1.frozen 4;have r5:=k1.cell 5;have z5:=k1.frozen 5;have aN:w.heap.size+1<w1.heap.size:=by have:=ae.size;simp at this;omega
     have ba:w.heap.size+1<=w1.heap.size:=by omega
     have jB:w.heap.size<w1.heap.size:=by omega
     have vG:w.heap.size<=w1.heap.size:=by omega
     have YI:=ψ k1;have aY:Hid (Γ w.heap.size w w1):=ψ ((((Ϗ _ _).alloc (ϊ _) _).alloc (by simp) _).trans (ae.mono (by simp;omega)))
     clear ae k1 aG))
 refine Ahb (v:=μ #[η #[ξ κ b.ag,ζ A1 n1 c1,ζ A2 n2 c2,ζ A3 n3 c3,ζ A9 m9 c9,.map (φ (w1.heap.size+1))],ξ κ 0]) (by simp[results,Tryz.results119,go_sem,r0,r1,r2,r3,r4,r5,aN,ba,jB,vG]) rfl ?_
 refine⟨_,_,rfl,?_,?_,?_,?_⟩
 ·refine qQ.base (base:=w.heap.size+2) ?_ (by omega)
  have h0:qQ w1 (w.heap.size+2) (ζ A9 m9 c9) (aD b):=by have:=HO.e;simpa using this
  first
   |exact((((((((h0.set (by simp)).set (by simp)).set (by simp)).set (by simp)).set (by simp)).set (by simp)).alloc _).alloc _)
   | (repeat(first|exact h0|refine qQ.set ?_ (by simp) |refine qQ.alloc ?_ _))
 ·exact⟨#[],0,uI (by simp[Ad2]),by simp⟩
 ·omega
 · ((refine Ahk (Ahk ?_ (by simp[Ad2];omega) _) (by simp[Ad2];omega) _);(repeat refine Ahj ?_ (by simp) _);exact aY.e)
def Yq(w:Ψ)(b:ao)(pv bv tv sv:υ)(g KO:Nat)(jD:Array υ)(ps:List an)(e:Ag7)(w':Ψ):Prop:=
 ∃gn,e=Ω (fv 174 #[π (φ ⟨w.heap.size,0,ν⟩),π (φ ⟨w.heap.size+1,0,ν⟩),π (φ ⟨gn,0,ν⟩)])/\Bk w' w.heap.size 151 #[ξ κ b.ag,pv,bv,tv,sv,.map (φ g)]/\
  Bk w' (w.heap.size+1) 158 #[fv KO jD]/\Bk w' gn 128 (cz ps).cs/\w.heap.size<=gn/\Γ w.heap.size w w'
def LY{w:Ψ}{b:ao}{pv bv tv sv:υ}{g KO:Nat}{jD:Array υ}{ps:List an}{B:Nat}(hs:Row w B 3 an.R sv ps)(hB:B<=w.heap.size)(hp:∃A n c,pv=ζ A n c)(hb:∃A n c,bv=ζ A n c)(ht:∃A n c,tv=ζ A n c):
 ύ prog 122 #[η #[ξ κ b.ag,pv,bv,tv,sv,.map (φ g)],fv KO jD] w (Yq w b pv bv tv sv g KO jD ps):=by
 have st:Δ B w ((w.alloc (Ξ #[ξ κ b.ag,pv,bv,tv,sv,.map (φ g)] 151)).alloc (Ξ #[fv KO jD] 158)):=((Δ.refl w).alloc hB _).alloc (by simp;omega) _
 have aB:=ψ (TC (s:=b.ag) (hs.still st λ_ _ h=>h) (by simp;omega) hp hb ht)
 obtain⟨A1,n1,c1,rfl⟩:=hp;obtain⟨A2,n2,c2,rfl⟩:=hb;obtain⟨A3,n3,c3,rfl⟩:=ht;obtain⟨A4,n4,c4,rfl,-⟩:=hs.Φ;obtain⟨G,hG⟩:∃G,G=cz ps:=⟨_,rfl⟩
 rw[<-hG] at aB;unfold an.cs at aB;have HG:=ψ hG;clear hs st hG;go_enter func122,Tryz.ntmps122;go_wp2_with (first
  | (go_at_call 115;refine aB.e.mono ?_;rintro e w1 ⟨rfl,ae⟩
     have aN:w.heap.size+1<w1.heap.size:=by have:=ae.size;simp at this;omega
     have k0:=ψ (Bk.below (g:=w.heap.size) (t:=151) (cs:=#[ξ κ b.ag,ζ A1 n1 c1,ζ A2 n2 c2,ζ A3 n3 c3,ζ A4 n4 c4,.map (φ g)]) ((Bk.new w _ _).alloc _) ae (by simp;omega))
     have k1:=ψ (Bk.below (g:=w.heap.size+1) (t:=158) (cs:=#[fv KO jD]) (Bk.cG (by simp) _ _) ae (by simp))
     have aY:Hid (Γ w.heap.size w w1):=ψ ((((Ϗ _ _).alloc (ϊ _) _).alloc (by simp) _).trans (ae.mono (by simp;omega)))
     clear ae))
 go_ret;refine⟨w1.heap.size,rfl,k0.e.alloc _,k1.e.alloc _,?_,by omega,aY.e.alloc (by omega) _⟩
 rw[<-HG.e];exact Bk.cG rfl _ _
def ah1{b:ao}{l:List Cut}{pv bv tv sv lv:υ}{g:Nat}{w:Ψ}{B:Nat}(hl:Row w B 2 Cut.R lv l)(hB:B<=w.heap.size)(xv:l.length<=1000)(hp:∃A n c,pv=ζ A n c)(hb:∃A n c,bv=ζ A n c)(ht:∃A n c,tv=ζ A n c)(hs:∃A n c,sv=ζ A n c):
 ύ prog 234 #[η #[ξ κ b.ag,pv,bv,tv,sv,.map (φ g)],lv] w λe w'=>e=Ω (ξ κ (jG l).length)/\Γ w.heap.size w w':=by
 have aB:=ψ (taken (w:=w.alloc (Ξ #[ξ κ b.ag,pv,bv,tv,sv,.map (φ g)] 151)) (hl.still ((Δ.refl w).alloc hB _) λ_ _ h=>h) (by simp;omega) xv)
 obtain⟨A1,n1,c1,rfl⟩:=hp;obtain⟨A2,n2,c2,rfl⟩:=hb;obtain⟨A3,n3,c3,rfl⟩:=ht;obtain⟨A4,n4,c4,rfl⟩:=hs;obtain⟨A,n,c,rfl,-⟩:=hl.Φ;clear hl;go_enter func234,Tryz.ntmps234;go_wp2_with (first
  | (go_at_call 235;refine aB.e.mono ?_;rintro e w1 ⟨u,rfl,aG,ae⟩
     obtain⟨A9,m9,c9,rfl⟩:=j8 aG;have hm:Hid ((m9:Int)=(jG l).length):=ψ (by
      rcases aG.2 with⟨h1,h2⟩ | ⟨_,_,_,h1,_⟩
      ·cases h1;rw[h2]
      ·cases h1;rfl)
     have HB:=ψ (cU (Ϗ _ _) ae (ϊ _));clear ae aG))
 go_ret;exact⟨aX hm.e,HB.e⟩
def jf(m k:Nat):Bool:= !(m.testBit k)
def RK{m k g:Nat}{w:Ψ}(hm:m<8)(hk:k<3)(hg:Bk w g 3 #[ξ κ m]):
 ύ prog 171 (#[ξ κ k]++#[π (φ ⟨g,0,ν⟩)]) w λe w'=>e=Ω (.bool (jf m k))/\Γ w.heap.size w w':=by
 refine app1 ?_
 have g0: w.cell? ⟨g,0,ν⟩=φ (ξ κ m):=hg.cell 0;clear hg;go_enter func171,Tryz.ntmps171;go_wp2;go_ret;refine⟨b9 ?_,Ϗ _ _⟩
 match m,hm,k,hk with
 |0,_,0,_=>rfl
 |0,_,1,_=>rfl
 |0,_,2,_=>rfl
 |1,_,0,_=>rfl
 |1,_,1,_=>rfl
 |1,_,2,_=>rfl
 |2,_,0,_=>rfl
 |2,_,1,_=>rfl
 |2,_,2,_=>rfl
 |3,_,0,_=>rfl
 |3,_,1,_=>rfl
 |3,_,2,_=>rfl
 |4,_,0,_=>rfl
 |4,_,1,_=>rfl
 |4,_,2,_=>rfl
 |5,_,0,_=>rfl
 |5,_,1,_=>rfl
 |5,_,2,_=>rfl
 |6,_,0,_=>rfl
 |6,_,1,_=>rfl
 |6,_,2,_=>rfl
 |7,_,0,_=>rfl
 |7,_,1,_=>rfl
 |7,_,2,_=>rfl
def ah3{zs:List Int}{x:Int}(h:x∈Lib.compact zs):x∈zs:=by
 unfold Lib.compact Lib.compactUpTo at h;simp only[Ahx,List.mem_filter,Ahy] at h;obtain⟨j,⟨hj,_⟩,rfl⟩:=h;have:zs.toArray[j]! =zs[j]:=by simp[hj]
 rw[this];exact List.getElem_mem hj
def ah4{l:List Cut}{x:Int}(h:x∈jG l):∃c∈l,c.bp=x:=by
 have h1:=ah3 h;unfold ga at h1;rw[List.mem_mergeSort] at h1;simpa using h1
def yC(b:ao)(k:Int):Int:=match b.aF[k.toNat]? with
 |some x=>x.aH
 |none=>0
def lY(b:ao)(l:List Int):Int:=(l.map (yC b)).sum
def ahj(b:ao)(l:List Int)(k:Int):lY b (l++ [k])=lY b l+yC b k:=by simp[lY]
def VZ{b:ao}(h:∀x∈b.aF,0<=x.aH/\x.aH<=40):∀l:List Int,0<=lY b l/\lY b l<=40 * l.length
 | []=>⟨by simp[lY],by simp[lY]⟩
 |k::l=>by
  have ih:=VZ h l;have:lY b (k::l)=yC b k+lY b l:=by simp[lY]
  rw[this];have h1:0<=yC b k/\yC b k<=40:=by
   unfold yC;cases e:b.aF[k.toNat]? with
   |none=>simp
   |some x=>exact h x (ϩ e)
  simp only[Af5,Int.natCast_add];omega
def oj:List Cut->List Cut->Int
 | [],[]=>0
 | [],_::_=> -1
 |_::_,[]=>1
 |a::x,c::y=>if po a c≠0 then po a c else oj x y
def Sx:∀ {i:Nat} {l m:List Cut} {c d:Cut},l[i]?=φ c->m[i]?=φ d->(∀(j:Nat) (c d:Cut),j<i->l[j]?=φ c->m[j]?=φ d->po c d=0)->po c d≠0->oj l m=po c d
 |0,a::l,b::m,c,d,hc,hd,_,h=>by
  simp at hc hd;subst hc;subst hd
  unfold oj;rw[if_pos h]
 |i+1,a::l,b::m,c,d,hc,hd,h0,h=>by
  have:=h0 0 a b (by omega) rfl rfl
  unfold oj;rw[if_neg (by simpa using this)]
  exact Sx (i:=i) (by simpa using hc) (by simpa using hd) (λj c d hj hc hd=>h0 (j+1) c d (by omega) (by simpa using hc) (by simpa using hd)) h
 |0,[],_,_,_,hc,_,_,_=>by simp at hc
 |i+1,[],_,_,_,hc,_,_,_=>by simp at hc
 |0,_::_,[],_,_,_,hd,_,_=>by simp at hd
 |i+1,_::_,[],_,_,_,hd,_,_=>by simp at hd
def Sy:∀ {l m:List Cut},l.length=m.length->(∀(j:Nat) (c d:Cut),l[j]?=φ c->m[j]?=φ d->po c d=0)->oj l m=0
 | [],[],_,_=>rfl
 |a::l,b::m,hl,h=>by
  have:=h 0 a b rfl rfl;unfold oj;rw[if_neg (by simpa using this)]
  exact Sy (by simpa using hl) λj c d hc hd=>h (j+1) c d (by simpa using hc) (by simpa using hd)
def Kl(c:Cut):Prop:=0<=c.bp/\c.bp<=1000/\0<=c.from_/\c.from_<=1000
def aaU{l m:List Cut}{lv mv:υ}{w:Ψ}{B:Nat}(hl:Row w B 2 Cut.R lv l)(hm:Row w B 2 Cut.R mv m)(hB:B<=w.heap.size)(UJ:l.length=m.length)(sl:∀c∈l,Kl c)(sm:∀c∈m,Kl c):
 ύ prog 172 #[lv,mv,.func (.func 173) #[] #[]] w λe w'=>e=Ω (ξ κ (oj l m))/\Γ w.heap.size w w':=by
 obtain⟨A1,n1,c1,rfl,e1,h1,eA,r1⟩:=hl.Φ;obtain⟨A2,n2,c2,rfl,e2,h2,dW,r2⟩:=hm.Φ;obtain rfl:n1=n2:=by omega
 unfold ϗ at eA dW;have HE:=ψ (ϐ e1 (ϐ e2 (ϐ UJ (ϐ sl sm))));have H1:=ψ r1;have H2:=ψ r2;clear hl hm e1 e2 r1 r2 UJ sl sm;go_enter func172,Tryz.ntmps172;go_wp2;go_loopw [13] (λu wr=>∃i:Nat,i<=n1/\u=ξ κ i/\Hid (∀(j:Nat) (c d:Cut),j<i->l[j]?=φ c->m[j]?=φ d->po c d=0)/\Hid (Γ w.heap.size w wr)) (λu _=>n1 - (ϙ u).toNat)
 case atStart=>exact⟨0,ϡ _,rfl,ψ (λj c d hj=>by omega),ψ (Ϗ _ _)⟩
 case round=>
  obtain⟨i,hi,rfl,hz,hb⟩:=hrel;have aI:=hb.e.size;by_cases al:i<n1
  ·obtain⟨ee,c,uQ,abD,Ac,hc,rfl,-,M7⟩:=H1.e i al
   obtain⟨cI,d,jQ,CO,fV,hd,rfl,-,ie⟩:=H2.e i al;subst abD;subst CO
   have st:Δ B w wr:=Δ.aK hb.e hB;have g0:=cC M7 st Ac rfl;have g1:=bK M7 st Ac 0 rfl;have f0:=cC ie st fV rfl;have f1:=bK ie st fV 0 rfl;have b1:(ee.add (i * 2)).block<wr.heap.size:=by rw[cq];omega
   have b2:(cI.add (i * 2)).block<wr.heap.size:=by rw[cq];omega
   have b2':(cI.add (i * 2)).block<=wr.heap.size:=by omega
   have fg:=HE.e.2.2.2.1 c (ϩ hc);have Ds:=HE.e.2.2.2.2 d (ϩ hd);have aB:=ψ (λW:Ψ=>less (c:=c) (d:=d) (w:=W) fg.1 Ds.1 fg.2.2.1 Ds.2.2.1 fg.2.1 Ds.2.1 fg.2.2.2 Ds.2.2.2)
   have HX:=ψ (ϐ hc hd);have jU:decide ((i:Int)>=(n1:Int))=χ:=by simp;omega
   clear hc hd M7 ie st fg Ds;by_cases h0:po c d=0
   ·go_wp2_with (first
     | (go_at_call 173;refine(aB.e _).mono ?_;rintro e w1 ⟨rfl,ae⟩;have aY:=ψ ((hb.e.trans (((Ϗ _ _).alloc aI _).alloc (by simp;omega) _)).trans (ae.mono (by simp;omega)));clear ae))
    go_roundw;case rel=>exact⟨i+1,by omega,by go_num,ψ (λj c' d' hj h1 h2=>by
     rcases Agv.1 hj with h|rfl
     ·exact hz.e j c' d' h h1 h2
     ·rw[HX.e.1] at h1;rw[HX.e.2] at h2;cases h1;cases h2;exact h0),aY⟩
    case measure=>simp[ϙ];omega
   ·obtain⟨q,hq⟩:∃q,q=po c d:=⟨_,rfl⟩
    have HQ:=ψ hq;rw[<-hq] at h0 aB;clear hq;go_wp2_with (first
     | (go_at_call 173;refine(aB.e _).mono ?_;rintro e w1 ⟨rfl,ae⟩;have aY:=ψ ((hb.e.trans (((Ϗ _ _).alloc aI _).alloc (by simp;omega) _)).trans (ae.mono (by simp;omega)));clear ae))
    go_ret;exact⟨aX (by rw[HQ.e];exact(Sx HX.e.1 HX.e.2 hz.e (by rw[<-HQ.e];exact h0)).symm),aY.e⟩
  ·obtain rfl:i=n1:=by omega
   go_wp2;go_ret;exact⟨aX (Sy HE.e.2.2.1 (λj c d h1 h2=>hz.e j c d (by have:=(ϱ.1 h1).1;have:=HE.e.1;omega) h1 h2)).symm,hb.e⟩
def Td(l:List Int):l.flatMap (λk=> [ξ κ k])=l.map (ξ κ):=by
 induction l with
 |nil=>rfl
 |cons a l ih=>rw[Aht,List.map_cons,ih];rfl
def Ih{w:Ψ}{base:Nat}{e:ό}{v:υ}{l:List Int}(h:w.ownsRow base e 1 v l.length (l.map (ξ κ))):Row w w.heap.size 1 cH v l:=
 lu (f:=λk:Int=> [ξ κ k]) (by rw[Td];exact h) (λ_=>rfl) (λ_ _=>rfl)
def ah2{b:ao}{l:List Cut}{pv bv tv sv lv:υ}{g:Nat}{w:Ψ}{B:Nat}(ai:bg w B b pv bv tv)(hl:Row w B 2 Cut.R lv l)(hB:B<=w.heap.size)(xv:l.length<=1000)(hs:∃A n c,sv=ζ A n c)
 (dh:∀c∈l,∃k:Nat,c.bp=k/\k<b.aF.length)(rL:∀x∈b.aF,0<=x.aH/\x.aH<=40):
 ύ prog 236 #[η #[ξ κ b.ag,pv,bv,tv,sv,.map (φ g)],lv] w λe w'=>e=Ω (ξ κ (lY b (jG l)))/\Γ w.heap.size w w':=by
 have aB:=ψ (taken (w:=w.alloc (Ξ #[ξ κ b.ag,pv,bv,tv,sv,.map (φ g)] 151)) (hl.still ((Δ.refl w).alloc hB _) λ_ _ h=>h) (by simp;omega) xv)
 have bT:=ψ ai;obtain⟨A1,n1,c1,rfl,-⟩:=ai.pieces.Φ;obtain⟨A2,n2,c2,rfl,e2,h2,dW,r2⟩:=ai.aF.Φ;obtain⟨A3,n3,c3,rfl,-⟩:=ai.aJ.Φ;obtain⟨A4,n4,c4,rfl⟩:=hs;obtain⟨A,n,c,rfl,rJ,-⟩:=hl.Φ;unfold ϗ at dW;have qG:(jG l).length<=1000:=by
  unfold jG;have:=aeE (ga (l.map (·.bp)));have h2:(ga (l.map (·.bp))).length=l.length:=by simp[ga]
  omega
 have E2:=ψ (ϐ e2 (ϐ dh (ϐ rL qG)));have H2:=ψ r2;clear hl ai e2 r2 dh rL rJ qG;go_enter func236,Tryz.ntmps236;go_wp2_with (first
  | (go_at_call 235;refine aB.e.mono ?_;rintro e w1 ⟨u,rfl,aG,ae⟩
     have eI:=Ih aG;obtain⟨A9,m9,c9,rfl,cY,nG,py,iN⟩:=eI.Φ;have lF:=ψ (ϐ cY iN);have kk:=ψ (Bk.below (g:=w.heap.size) (t:=151) (cs:=#[ξ κ b.ag,ζ A1 n1 c1,ζ A2 n2 c2,ζ A3 n3 c3,ζ A4 n4 c4,.map (φ g)]) (Bk.new w _ _) ae (by simp))
     have aY:=ψ (cU (Ϗ _ _) ae (ϊ _));clear ae aG eI cY iN))
 unfold ϗ at py;go_loopw [5,11] (λs u wr=>∃i:Nat,i<=m9/\u=ξ κ i/\s=ξ κ (lY b ((jG l).take i))/\wr=w1) (λ_ u _=>m9 - (ϙ u).toNat)
 case atStart=>exact⟨0,ϡ _,rfl,by simp[lY],rfl⟩
 case round=>
  obtain⟨i,hi,rfl,rfl,rfl⟩:=hrel;have adp:((jG l).take i).length<=1000:=by have:=E2.e.2.2.2;simp;omega
  have hle:=VZ (b:=b) E2.e.2.2.1 ((jG l).take i);obtain⟨S,hS⟩:∃S,S=lY b ((jG l).take i):=⟨_,rfl⟩
  rw[<-hS] at hle |-
  have HS:=ψ hS;have G3:0<=S:=hle.1;have fU:S<=40000:=by have:=hle.2;omega
  clear hS hle adp;by_cases al:i<m9
  ·obtain⟨ad,k,cs,kX,aC,hk,rfl,-,au⟩:=lF.e.2 i al
   subst kX;have g0: wr.cell? (ad.add i)=φ (ξ κ k):=by have:=cC au (Δ.refl wr) aC (u:=ξ κ k) rfl;rwa[Nat.mul_one] at this
   obtain⟨c0,ic,fB⟩:=ah4 (ϩ hk);obtain⟨kn,da,xR⟩:=E2.e.2.1 c0 ic;obtain rfl:k=kn:=by rw[<-fB,da]
   have Hm:kn<n2:=by have:=E2.e.1;omega
   have qu:(kn:Int)<n2:=by omega
   obtain⟨cI,x,jQ,CO,fV,hx,⟨Bi,rfl,dH,-⟩,-,ie⟩:=H2.e kn Hm;subst CO;have st:Δ B w wr:=Δ.aK aY.e hB;have x1: wr.cell? ⟨(cI.add (kn * 3)).block,(cI.add (kn * 3)).off+1,ν⟩=φ (ξ κ x.aH):=bK ie st fV 0 rfl;have p2: wr.cell? ⟨w.heap.size,2,ν⟩=φ (ζ (φ cI) n2 c2):=kk.e.cell 2;have Eg:=E2.e.2.2.1 x (ϩ hx);have vF:0<=x.aH:=Eg.1;have Ia:x.aH<=40:=Eg.2;have HK:=ψ (ϐ hk hx);clear hk hx au ie fB da st dH Eg ic;go_wp2;go_roundw;case rel=>exact⟨i+1,by omega,by go_num,by rw[oJ HK.e.1,ahj,<-HS.e];unfold yC;simp[HK.e.2],trivial⟩
   case measure=>simp[ϙ];omega
  ·obtain rfl:i=m9:=by omega
   go_wp2;go_ret;exact⟨aX (by rw[HS.e,Agf (Agw lF.e.1)]),aY.e⟩
def PI{b:ao}(hv:Valid b){n:an}{out:Nat->Bool}:∀(f:Nat) (cs full:List Cut),(∀c∈cs,oO b c)->search b n out f cs=φ full->full.length=cs.length+f/\∀c∈full,oO b c
 |0,cs,full,h,hs=>by
  unfold search at hs;cases hs;exact⟨rfl,h⟩
 |f+1,cs,full,h,hs=>by
  unfold search at hs;obtain⟨k,hk,hs⟩:=Ah1 hs
  unfold pC at hs;split at hs
  ·cases hs
  ·obtain⟨fr,b7,hs⟩:=Ah1 hs
   unfold kj at hs;split at hs
   ·have rH:k<b.aF.length:=by simpa using hk
    have Nk:fr<mJ b k:=by simpa using b7
    have hc:oO b ⟨k,fr⟩:=by
     refine⟨⟨k,rfl,rH⟩,?_⟩
     unfold mJ at Nk;cases e:b.aF[k]? with
     |none=>simp[e] at Nk
     |some x=>
      simp only[e] at Nk;have:=(hv.bp x (ϩ e)).aH;show 0<=(fr:Int)/\(fr:Int)<=40;omega
    have:=PI hv f (cs++ [⟨k,fr⟩]) full (λc tA=>by
     rcases Af8.1 tA with h1|h1
     ·exact h c h1
     ·simp at h1;subst h1;exact hc) hs
    refine⟨by rw[this.1];simp;omega,this.2⟩
   ·cases hs
def nw(mI:List Cut->Int)(st:Option (List Cut×Int))(l:List Cut):Option (List Cut×Int):=match st with
 |none=>φ (l,mI l)
 |some (c,m)=>if mI l<m\/(mI l=m/\oj l c<0) then φ (l,mI l) else φ (c,m)
def sY(b:ao)(n:an)(mI:List Cut->Int)(st:Option (List Cut×Int))(m:Nat):Option (List Cut×Int):=match search b n (jf m) b.pieces.length [] with
 |none=>st
 |some l=>nw mI st l
def iG(b:ao)(n:an)(mI:List Cut->Int)(M:Nat):Option (List Cut×Int):=(ϸ M).foldl (sY b n mI) ν
def kS(b:ao)(n:an)(mI:List Cut->Int)(M:Nat):iG b n mI (M+1)=sY b n mI (iG b n mI M) M:=by simp[iG,Ah2]
def wH(b:ao)(c:List Cut):Prop:=c.length=b.pieces.length/\∀x∈c,oO b x
def Cx{b:ao}(hv:Valid b){n:an}{mI:List Cut->Int}:∀(M:Nat) (c:List Cut) (m:Int),iG b n mI M=φ (c,m)->wH b c
 |0,c,m,h=>by simp[iG] at h
 |M+1,c,m,h=>by
  rw[kS] at h;unfold sY at h;split at h
  ·exact Cx hv M c m h
  ·rename_i l hl
   have hg:wH b l:=by
    have:=PI hv _ [] l (by simp) hl
    exact⟨by simpa using this.1,this.2⟩
   unfold nw at h;split at h
   ·simp at h;rw[<-h.1];exact hg
   ·split at h
    ·simp at h;rw[<-h.1];exact hg
    ·rename_i c' m' heq _
     simp at h;rw[<-h.1];exact Cx hv M c' m' heq
def Xo{b:ao}(hv:Valid b){c:List Cut}(h:wH b c):∀x∈c,Kl x:=λx hx=>by
 obtain⟨⟨k,hk,cP⟩,h2⟩:=h.2 x hx;have:=hv.nb;exact⟨by omega,by omega,h2.1,by have:=h2.2;omega⟩
def Lc(b:ao)(pv bv tv:υ)(KM:Nat)(mI:List Cut->Int)(w:Ψ)(B:Nat):Prop:=
 (∀args w,(callFunc KM args).run prog w=.ok (.enter KM args) w)/\∀(W:Ψ) (sv lv:υ) (g:Nat) (l:List Cut),Δ B w W->B<=W.heap.size->(∃A n c,sv=ζ A n c)->Row W W.heap.size 2 Cut.R lv l->wH b l->
   ύ prog KM #[η #[ξ κ b.ag,pv,bv,tv,sv,.map (φ g)],lv] W λe W'=>e=Ω (ξ κ (mI l))/\Γ W.heap.size W W'
def lJ(W:Ψ)(base np:Nat)(st:Option (List Cut×Int))(cv mv fv:υ):Prop:=match st with
 |none=>cv=ζ ν 0 0/\mv=ξ κ 0/\fv=.bool χ
 |some (c,m)=>W.ownsRow base 56 2 cv np (c.flatMap Cut.vs)/\mv=ξ κ m/\fv=.bool θ
def Zx(w:Ψ)(b:ao)(st:Option (List Cut×Int))(e:Ag7)(w':Ψ):Prop:=
 ∃cv mv fv,e=Ω (μ #[cv,mv,fv,ξ κ 0])/\lJ w' w.heap.size b.pieces.length st cv mv fv/\Γ w.heap.size w w'
def alq{n:Nat}(h:n<=3):wrap64 ((2:Int) ^ n)=((2 ^ n:Nat):Int):=by
 match n,h with
 |0,_=>simp[wrap64]
 |1,_=>simp[wrap64]
 |2,_=>simp[wrap64]
 |3,_=>simp[wrap64]
def ad9{mI:List Cut->Int}{c l:List Cut}{m:Int}(h:mI l<m\/(mI l=m/\oj l c<0)):nw mI (φ (c,m)) l=φ (l,mI l):=by
 show(if mI l<m\/(mI l=m/\oj l c<0) then φ (l,mI l) else φ (c,m))=_
 rw[if_pos h]
def RN{mI:List Cut->Int}{c l:List Cut}{m:Int}(h:¬ (mI l<m\/(mI l=m/\oj l c<0))):nw mI (φ (c,m)) l=φ (c,m):=by
 show(if mI l<m\/(mI l=m/\oj l c<0) then φ (l,mI l) else φ (c,m))=_
 rw[if_neg h]
def lJ.base{W:Ψ}{base sV np:Nat}{st:Option (List Cut×Int)}{cv mv fv:υ}(h:lJ W base np st cv mv fv)(hb:sV<=base):lJ W sV np st cv mv fv:=by
 unfold lJ at h |-
 cases st with
 |none=>exact h
 |some p=>exact⟨World.ownsRow.base h.1 hb,h.2⟩
def Bd{w w':Ψ}{base:Nat}{e:ό}{sz n g:Nat}{b:ao}{v:υ}{xs:List υ}(h:w.ownsRow base e sz v n xs)(hk:dK w g b)(hg:w.grownBy w' (φ g)):w'.ownsRow base e sz v n xs:=by
 refine⟨h.1,?_⟩
 rcases h.2 with h0| ⟨q,cap,cur,h1,h2,h3,h4⟩
 ·exact .inl h0
 ·obtain⟨es,clock,k1,_⟩:=hk
  exact .inr ⟨q,cap,cur,h1,h2,(hg.block q (Ϟ.1 h3).1 (λe=>by cases e;rw[k1] at h3;cases h3)).trans h3,h4⟩
def acI{X:ep}{B:Nat}(ok:X.Ok B)(hB:B<=X.w.heap.size)(hk:dK X.w X.gm X.b)(hs:search X.b X.n X.e X.np []=ν):
 ύ prog 170 #[fv 174 #[π (φ ⟨X.gs,0,ν⟩),π (φ ⟨X.go,0,ν⟩),π (φ ⟨X.gn,0,ν⟩)]] X.w λe W'=>e=Ω (μ #[ζ ν 0 0,.bool χ])/\X.w.grownBy W' (φ X.gm)/\dK W' X.gm X.b:=
 (S9 ok hB hk).mono λe W' ⟨h1,h2,h3⟩=>by
   rcases h1 with⟨full,v,k1,_,_⟩ | ⟨_,k2⟩
   ·rw[hs] at k1;cases k1
   ·exact⟨k2,h2,h3⟩
def acJ{X:ep}{B:Nat}(ok:X.Ok B)(hB:B<=X.w.heap.size)(hk:dK X.w X.gm X.b){full:List Cut}(hs:search X.b X.n X.e X.np []=φ full):
 ύ prog 170 #[fv 174 #[π (φ ⟨X.gs,0,ν⟩),π (φ ⟨X.go,0,ν⟩),π (φ ⟨X.gn,0,ν⟩)]] X.w λe W'=>∃v,e=Ω (μ #[v,.bool θ])/\W'.ownsRow X.w.heap.size 56 2 v X.np (full.flatMap Cut.vs)/\X.w.grownBy W' (φ X.gm)/\dK W' X.gm X.b:=
 (S9 ok hB hk).mono λe W' ⟨h1,h2,h3⟩=>by
   rcases h1 with⟨ac8,v,k1,k2,k3⟩ | ⟨k1,_⟩
   ·rw[hs] at k1;cases k1;exact⟨v,k2,k3,h2,h3⟩
   ·rw[hs] at k1;cases k1
def TE:∀(l:List an),(∀L∈l,L.Ok)->(cz l).Ok:=by
 have key:∀(l:List an) (M:an),M.Ok->(∀L∈l,L.Ok)->(l.foldl (λM x=>mU M x 3) M).Ok:=by
  intro l;induction l with
  |nil=>intro M h _;exact h
  |cons a l ih=>
   intro M h hl;refine ih _ ?_ λL hL=>hl L (by simp[hL])
   have ha:=hl a (by simp)
   have a0:=ha 0;have a1:=ha 1;have a2:=ha 2
   have m0:=h 0;have m1:=h 1;have m2:=h 2
   simp only[an.at] at a0 a1 a2 m0 m1 m2;intro q;unfold an.at mU;by_cases h0:q=0
   ·subst h0;simp at *;split<;>omega
   ·by_cases h1:q=1
    ·subst h1;simp at *;split<;>omega
    ·simp[h0,h1] at *;split<;>omega
 exactλl hl=>key l _ (λq=>by unfold an.at;simp) hl
def Bw(w2:Ψ)(b:ao)(pv bv tv sv:υ)(ps:List an)(gs gn g KO:Nat)(jD:Array υ)(out:Nat->Bool):ep:=
 ⟨w2,b,pv,bv,tv,sv,cz ps,gs,gs+1,gn,g,KO,jD,out,0⟩
def PJ{w2 Wa:Ψ}{b:ao}{pv bv tv sv:υ}{ps:List an}{gn g KO:Nat}{jD:Array υ}{out:Nat->Bool}{B:Nat}(ai:bg w2 B b pv bv tv)(hv:Valid b)(NU:∀L∈ps,L.Ok)(oD:∃A n c,sv=ζ A n c)
 (Mv:B<=g)(Hj:g<Wa.heap.size)(k0:Bk w2 Wa.heap.size 151 #[ξ κ b.ag,pv,bv,tv,sv,.map (φ g)])(k1:Bk w2 (Wa.heap.size+1) 158 #[fv KO jD])(k2:Bk w2 gn 128 (cz ps).cs)(qm:Wa.heap.size<=gn)
 (eg:∀args w,(callFunc KO args).run prog w=.ok (.enter KO args) w)(ho:∀(k:Nat) (W:Ψ),k<b.aF.length->w2.grownBy W (φ g)->ύ prog KO (#[ξ κ k]++jD) W λe W'=>e=Ω (.bool (out k))/\Γ W.heap.size W W'):
 (Bw w2 b pv bv tv sv ps Wa.heap.size gn g KO jD out).Ok B:=
 ⟨ai,hv,TE ps NU,oD,Mv,k0.lt,k1.lt,k2.lt,by show g<w2.heap.size;have:=k0.lt;omega,by show Wa.heap.size≠g;omega,by show Wa.heap.size+1≠g;omega,by show gn≠g;omega,k0,k1,k2,eg,ho⟩
def RR{w:Ψ}{b:ao}{pv bv tv:υ}{KM:Nat}{mI:List Cut->Int}{B:Nat}(hB:B<=w.heap.size)(ai:bg w B b pv bv tv)(hM:Lc b pv bv tv KM mI w B)(h:cj b 0=0):
 ύ prog 117 #[η #[ξ κ b.ag,pv,bv,tv],η #[.func (.func KM) #[] #[]]] w (Zx w b (iG b (cz (aD b)) mI (2 ^ b.aF.length))):=by
 have st:Δ B w ((w.alloc (Ξ #[ξ κ b.ag,pv,bv,tv] 26)).alloc (Ξ #[.func (.func KM) #[] #[]] 145)):=((Δ.refl w).alloc hB _).alloc (by simp;omega) _
 have aB:=ψ (PO (w:=((w.alloc (Ξ #[ξ κ b.ag,pv,bv,tv] 26)).alloc (Ξ #[.func (.func KM) #[] #[]] 145))) (B:=B) (by simp;omega) (ai.still st) h)
 have hv:=iy (pq h).1;have HV:=ψ hv;have bT:=ψ ai;have YN:=ψ hM.2;have egM:=hM.1;have gy:=hv.nb;obtain⟨A1,n1,c1,rfl,-⟩:=ai.pieces.Φ;obtain⟨A2,n2,c2,rfl,e2,h2,dW,-⟩:=ai.aF.Φ;obtain⟨A3,n3,c3,rfl,-⟩:=ai.aJ.Φ;have lQ:n2<=3:=by omega
 have vz:=alq lQ;obtain⟨M,G2⟩:∃M,M=2 ^ n2:=⟨_,rfl⟩
 rw[<-G2] at vz;have hM8:M<=8:=by
  rw[G2];exact Aie (n:=2) (by omega) lQ
 have E2:=ψ (ϐ e2 G2);clear G2;unfold ϗ at dW;clear ai hM st h hv gy e2;go_enter func117,Tryz.ntmps117;go_wp2_with (first
  | (go_at_call 119;refine aB.e.mono ?_;rintro e w1 ⟨sv,g,rfl,aG,da,hg,ae⟩
     obtain⟨A9,m9,c9,rfl⟩:=j8 aG;have kb:=Bk.below (g:=w.heap.size) (t:=26) (cs:=#[ξ κ b.ag,ζ A1 n1 c1,ζ A2 n2 c2,ζ A3 n3 c3]) ((Bk.new w _ _).alloc _) ae (by simp;omega)
     have km:=Bk.below (g:=w.heap.size+1) (t:=145) (cs:=#[.func (.func KM) #[] #[]]) (Bk.cG (by simp) _ _) ae (by simp)
     have b2: w1.cell? ⟨w.heap.size,2,ν⟩=φ (ζ A2 n2 c2):=kb.cell 2;have aN:w.heap.size+2<=w1.heap.size:=by have:=ae.size;simpa using this
     have ba:w.heap.size<w1.heap.size:=by omega
     have jB:w.heap.size<=w1.heap.size:=by omega
     have kG:w.heap.size+2<=g:=by simpa using hg
     have aY:Hid (Γ w.heap.size w w1):=ψ ((((Ϗ _ _).alloc (ϊ _) _).alloc (by simp) _).trans (ae.mono (by simp;omega)))
     have FR:=ψ (ϐ aG (ϐ da (ϐ kb km)));clear ae aG da kb km hg))
 obtain⟨G,TO⟩:∃G,G=cz (aD b):=⟨_,rfl⟩
 have HGD:=ψ TO;clear TO;rw[vz];clear vz;go_loopw [4,5,6,25] (λc m f u wr=>∃i:Nat,i<=M/\u=ξ κ i/\Hid (lJ wr (w1.heap.size+1) b.pieces.length (iG b (cz (aD b)) mI i) c m f)/\Hid ((w1.alloc (Ξ #[ξ κ b.ag,ζ A1 n1 c1,ζ A2 n2 c2,ζ A3 n3 c3,ζ A9 m9 c9,.map (φ g)] 151)).grownBy wr (φ g))/\Hid (dK wr g b)) (λ_ _ _ u _=>M - (ϙ u).toNat)
 case atStart=>exact⟨0,ϡ _,rfl,ψ (by simp[iG,lJ]),ψ (World.grownBy.refl _ _),ψ (FR.e.2.1.grown (ϻ w1 _ ν) (by simp))⟩
 case round=>
  obtain⟨i,hi,rfl,aQ,hG,hK⟩:=hrel;have hgw:g<w1.heap.size:=FR.e.2.1.lt;have rV:w1.heap.size+1<=wr.heap.size:=by have:=hG.e.size;simpa using this
  have yz:Bk wr w1.heap.size 151 #[ξ κ b.ag,ζ A1 n1 c1,ζ A2 n2 c2,ζ A3 n3 c3,ζ A9 m9 c9,.map (φ g)]:=(Bk.new w1 _ _).grown hG.e (by simp;omega)
  have r0:=yz.cell 0;have r1:=yz.cell 1;have r2:=yz.cell 2;have r3:=yz.cell 3;have r4:=yz.cell 4;have r5:=yz.cell 5;have U4:qQ wr (w.heap.size+2) (ζ A9 m9 c9) (aD b):=by
   have h0:qQ w1 (w.heap.size+2) (ζ A9 m9 c9) (aD b):=by have:=FR.e.1;simpa using this
   have h1:=h0.alloc (Ξ #[ξ κ b.ag,ζ A1 n1 c1,ζ A2 n2 c2,ζ A3 n3 c3,ζ A9 m9 c9,.map (φ g)] 151);exact Bd h1 (FR.e.2.1.grown (ϻ w1 _ ν) (by simp)) hG.e
  have eI:Row (wr.alloc (Ξ #[ξ κ i] 3)) wr.heap.size 3 an.R (ζ A9 m9 c9) (aD b):=U4.row.still ((Δ.refl wr).alloc (ϊ _) _) λ_ _ h=>h
  clear yz U4;by_cases al:i<M
  ·have a1:w1.heap.size<wr.heap.size:=by omega
   have a2:w1.heap.size<=wr.heap.size:=by omega
   cases hs:search b (cz (aD b)) (jf i) b.pieces.length [] with
   |none=>
    have NX:Hid (iG b (cz (aD b)) mI (i+1)=iG b (cz (aD b)) mI i):=ψ (by rw[kS];unfold sY;rw[hs])
    go_wp2_with (first
     | (go_at_call 122;refine(LY (B:=wr.heap.size) (ps:=aD b) eI (by simp) ⟨_,_,_,rfl⟩ ⟨_,_,_,rfl⟩ ⟨_,_,_,rfl⟩).mono ?_;rintro e w2 ⟨gn,rfl,k0,k1,k2,qm,ak⟩
        have ba:wr.heap.size+1<=w2.heap.size:=by have:=ak.size;simpa using this
        have vk:wr.grownBy w2 (φ g):=(ϻ wr (Ξ #[ξ κ i] 3) _).trans (je ak (ϊ _) _);have cP:dK w2 g b:=hK.out.grown (row:=ν) ((ϻ wr (Ξ #[ξ κ i] 3) _).trans (je ak (ϊ _) _)) (by simp)
        have Er:Bk w2 wr.heap.size 3 #[ξ κ i]:=(Bk.new wr _ _).below ak (by simp)
        have hX:=PJ (KO:=171) (jD:=#[π (φ ⟨wr.heap.size,0,ν⟩)]) (out:=jf i) (B:=B) (bT.e.still ((FH ((je aY.e (ϊ _) _).trans ((ϻ w1 (Ξ #[ξ κ b.ag,ζ A1 n1 c1,ζ A2 n2 c2,ζ A3 n3 c3,ζ A9 m9 c9,.map (φ g)] 151) _).trans (hG.e.trans vk))) (by omega) hB))) HV.e (uG HV.e) ⟨_,_,_,rfl⟩ (by omega) (by simp;omega) k0 k1 k2 qm call171 (λk W hk eh=>RK (by omega) (by have:=HV.e.nb;omega) (Er.grown eh (by simp;omega)))
        have wZ:=acI hX (by show B<=w2.heap.size;omega) cP hs
        simp only[Bw,Ahn] at wZ;have Kf:=ψ wZ;have uA:=ψ (ϐ vk cP);clear ak k0 k1 k2 vk cP Er hX wZ)
     | (go_at_call 170;refine Kf.e.mono ?_;rintro e w3 ⟨rfl,vi,fh⟩;have iD:=ψ (ϐ vi fh);clear vi fh))
    go_roundw;case rel=>exact⟨i+1,by omega,by go_num,ψ (by
     have h0:=aQ.e;rw[NX.e];unfold lJ at h0 |-
     revert h0
     cases iG b (cz (aD b)) mI i with
     |none=>exact id
     |some p=>
      rintro⟨k1,k2,k3⟩;exact⟨Bd (Bd k1 hK.out uA.e.1) uA.e.2 iD.e.1,k2,k3⟩),
     ψ (hG.e.trans (uA.e.1.trans iD.e.1)),ψ iD.e.2⟩
    case measure=>simp[ϙ];omega
   |some l=>
    have k7:wH b l:=by
     have:=PI HV.e _ [] l (by simp) hs
     exact⟨by simpa using this.1,this.2⟩
    have HL:=ψ k7;obtain⟨q,hq⟩:∃q,q=mI l:=⟨_,rfl⟩
    have HQ:=ψ hq;clear k7 hq;have NX:Hid (iG b (cz (aD b)) mI (i+1)=nw mI (iG b (cz (aD b)) mI i) l):=ψ (by rw[kS];unfold sY;rw[hs])
    go_wp2_with (first
     | (go_at_call 122;refine(LY (B:=wr.heap.size) (ps:=aD b) eI (by simp) ⟨_,_,_,rfl⟩ ⟨_,_,_,rfl⟩ ⟨_,_,_,rfl⟩).mono ?_;rintro e w2 ⟨gn,rfl,k0,k1,k2,qm,ak⟩
        have ba:wr.heap.size+1<=w2.heap.size:=by have:=ak.size;simpa using this
        have vk:wr.grownBy w2 (φ g):=(ϻ wr (Ξ #[ξ κ i] 3) _).trans (je ak (ϊ _) _);have cP:dK w2 g b:=hK.out.grown (row:=ν) ((ϻ wr (Ξ #[ξ κ i] 3) _).trans (je ak (ϊ _) _)) (by simp)
        have Er:Bk w2 wr.heap.size 3 #[ξ κ i]:=(Bk.new wr _ _).below ak (by simp)
        have hX:=PJ (KO:=171) (jD:=#[π (φ ⟨wr.heap.size,0,ν⟩)]) (out:=jf i) (B:=B) (bT.e.still ((FH ((je aY.e (ϊ _) _).trans ((ϻ w1 (Ξ #[ξ κ b.ag,ζ A1 n1 c1,ζ A2 n2 c2,ζ A3 n3 c3,ζ A9 m9 c9,.map (φ g)] 151) _).trans (hG.e.trans vk))) (by omega) hB))) HV.e (uG HV.e) ⟨_,_,_,rfl⟩ (by omega) (by simp;omega) k0 k1 k2 qm call171 (λk W hk eh=>RK (by omega) (by have:=HV.e.nb;omega) (Er.grown eh (by simp;omega)))
        have wZ:=acJ hX (by show B<=w2.heap.size;omega) cP hs
        simp only[Bw,Ahn] at wZ;have Kf:=ψ wZ;have uA:=ψ (ϐ vk cP);clear ak k0 k1 k2 vk cP Er hX wZ)
     | (go_at_call 170;refine Kf.e.mono ?_;rintro e w3 ⟨v,rfl,tG,vi,fh⟩
        obtain⟨A8,m8,c8,rfl⟩:=j8 tG;have GZ:=hG.e.trans (uA.e.1.trans vi);have yA:Bk w3 w1.heap.size 151 #[ξ κ b.ag,ζ A1 n1 c1,ζ A2 n2 c2,ζ A3 n3 c3,ζ A9 m9 c9,.map (φ g)]:=(Bk.new w1 _ _).grown GZ (by simp;omega)
        have VQ:Bk w3 (w.heap.size+1) 145 #[.func (.func KM) #[] #[]]:=(FR.e.2.2.2.alloc (Ξ #[ξ κ b.ag,ζ A1 n1 c1,ζ A2 n2 c2,ζ A3 n3 c3,ζ A9 m9 c9,.map (φ g)] 151)).grown GZ (by simp;omega)
        have s0:=yA.cell 0;have s1:=yA.cell 1;have s2:=yA.cell 2;have s3:=yA.cell 3;have s4:=yA.cell 4;have s5:=yA.cell 5;have t0: w3.cell? ⟨w.heap.size+1,0,ν⟩=φ (.func (.func KM) #[] #[]):=VQ.cell 0;have iD:=ψ (ϐ vi (ϐ fh (ϐ tG GZ)));clear vi fh tG GZ yA VQ))
    have hlen:l.length=b.pieces.length:=HL.e.1;have tG:w3.ownsRow w3.heap.size.pred 56 2 (ζ A8 m8 c8) l.length (l.flatMap Cut.vs)\/True:=.inr trivial;have N5:Row w3 w3.heap.size 2 Cut.R (ζ A8 m8 c8) l:=lu (by rw[hlen];exact iD.e.2.2.1) (λ_=>rfl) (λ_ _=>rfl)
    have ae7:Δ B w w3:=FH ((je aY.e (ϊ _) _).trans ((ϻ w1 (Ξ #[ξ κ b.ag,ζ A1 n1 c1,ζ A2 n2 c2,ζ A3 n3 c3,ζ A9 m9 c9,.map (φ g)] 151) _).trans iD.e.2.2.2)) (by omega) hB
    have Vt:w1.heap.size+1<=w3.heap.size:=by have:=iD.e.2.2.2.size;simpa using this
    have LJ:=YN.e w3 (ζ A9 m9 c9) (ζ A8 m8 c8) g l ae7 (by omega) ⟨_,_,_,rfl⟩ N5 HL.e
    rw[<-HQ.e] at LJ;clear hlen tG ae7;refine LJ.mono ?_
    rintro e w4 ⟨rfl,cO⟩;have Va:Row w4 w3.heap.size 2 Cut.R (ζ A8 m8 c8) l:=N5.still (Δ.aK cO (ϊ _)) λ_ _ h=>h
    have HF:=ψ (ϐ (iD.e.2.2.2.trans (je cO (ϊ _) (φ g))) (iD.e.2.1.below cO iD.e.2.1.lt));have U3:w4.ownsRow (w1.heap.size+1) 56 2 (ζ A8 m8 c8) b.pieces.length (l.flatMap Cut.vs):=(qO (Bd iD.e.2.2.1 iD.e.2.1 (World.grownBy.refl _ _)) cO (ϊ _)).base (by have:=uA.e.1.size;show w1.heap.size+1<=w2.heap.size;omega)
    have wQ:=ψ U3;have YU:=ψ Va;have vG:=cO.size;have pf:=aQ.e;clear N5 Va U3 LJ;cases fe:iG b (cz (aD b)) mI i with
    |none=>
     rw[fe] at pf;obtain⟨rfl,rfl,rfl⟩:=pf;have pP:Hid (lJ w4 (w1.heap.size+1) b.pieces.length (nw mI ν l) (ζ A8 m8 c8) (ξ κ q) (.bool θ)):=ψ ⟨wQ.e,by rw[HQ.e],rfl⟩
     clear cO;go_wp2;go_roundw;case rel=>exact⟨i+1,by omega,by go_num,ψ (by rw[NX.e,fe];exact pP.e),ψ HF.e.1,ψ HF.e.2⟩
     case measure=>simp[ϙ];omega
    |some p=>
     obtain⟨c,m⟩:=p;rw[fe] at pf;obtain⟨NQ,rfl,rfl⟩:=pf;obtain⟨A7,m7,c7,rfl⟩:=j8 NQ;have NS:w4.ownsRow (w1.heap.size+1) 56 2 (ζ A7 m7 c7) b.pieces.length (c.flatMap Cut.vs):=qO (Bd (Bd NQ hK.out uA.e.1) uA.e.2 iD.e.1) cO (ϊ _);have xP:wH b c:=Cx HV.e i c m fe;have gP:Row w4 w4.heap.size 2 Cut.R (ζ A7 m7 c7) c:=lu (by rw[xP.1];exact NS) (λ_=>rfl) (λ_ _=>rfl)
     have Kh:=ψ (aaU (YU.e.more vG) gP (ϊ _) (HL.e.1.trans xP.1.symm) (Xo HV.e HL.e) (Xo HV.e xP));have Q9:=ψ NS;clear cO NQ NS xP gP;by_cases h1:q<m
     ·have pP:Hid (lJ w4 (w1.heap.size+1) b.pieces.length (nw mI (φ (c,m)) l) (ζ A8 m8 c8) (ξ κ q) (.bool θ)):=ψ (by
       rw[ad9 (.inl (by rw[<-HQ.e];exact h1))];exact⟨wQ.e,by rw[HQ.e],rfl⟩)
      go_wp2;go_roundw;case rel=>exact⟨i+1,by omega,by go_num,ψ (by rw[NX.e,fe];exact pP.e),ψ HF.e.1,ψ HF.e.2⟩
      case measure=>simp[ϙ];omega
     ·by_cases h2:q=m
      ·subst h2
       obtain⟨C,hC⟩:∃C,C=oj l c:=⟨_,rfl⟩
       have HC:=ψ hC;rw[<-hC] at Kh;clear hC;by_cases h3:C<0
       ·have pP:∀w5,Γ w4.heap.size w4 w5->Hid (lJ w5 (w1.heap.size+1) b.pieces.length (nw mI (φ (c,q)) l) (ζ A8 m8 c8) (ξ κ q) (.bool θ)):=λw5 h5=>ψ (by
           rw[ad9 (.inr ⟨HQ.e.symm,by rw[<-HC.e];exact h3⟩)];exact⟨qO wQ.e h5 (ϊ _),by rw[HQ.e],rfl⟩)
        have afG:=ψ pP;clear pP;go_wp2_with (first
           | (go_at_call 172;refine Kh.e.mono ?_;rintro e w5 ⟨rfl,eR⟩;have mi:=ψ eR;clear eR))
        go_roundw;case rel=>exact⟨i+1,by omega,by go_num,ψ (by rw[NX.e,fe];exact(afG.e w5 mi.e).e),ψ (HF.e.1.trans (je mi.e (ϊ _) _)),ψ (HF.e.2.below mi.e HF.e.2.lt)⟩
        case measure=>simp[ϙ];omega
       ·have pP:∀w5,Γ w4.heap.size w4 w5->Hid (lJ w5 (w1.heap.size+1) b.pieces.length (nw mI (φ (c,q)) l) (ζ A7 m7 c7) (ξ κ q) (.bool θ)):=λw5 h5=>ψ (by
           rw[RN (by rw[<-HQ.e,<-HC.e];omega)];exact⟨qO Q9.e h5 (ϊ _),rfl,rfl⟩)
        have afG:=ψ pP;clear pP;go_wp2_with (first
           | (go_at_call 172;refine Kh.e.mono ?_;rintro e w5 ⟨rfl,eR⟩;have mi:=ψ eR;clear eR))
        go_roundw;case rel=>exact⟨i+1,by omega,by go_num,ψ (by rw[NX.e,fe];exact(afG.e w5 mi.e).e),ψ (HF.e.1.trans (je mi.e (ϊ _) _)),ψ (HF.e.2.below mi.e HF.e.2.lt)⟩
        case measure=>simp[ϙ];omega
      ·have h4:(q==m)=χ:=by simpa using h2
       have pP:Hid (lJ w4 (w1.heap.size+1) b.pieces.length (nw mI (φ (c,m)) l) (ζ A7 m7 c7) (ξ κ m) (.bool θ)):=ψ (by
        rw[RN (by rw[<-HQ.e];omega)];exact⟨Q9.e,rfl,rfl⟩)
       go_wp2;go_roundw;case rel=>exact⟨i+1,by omega,by go_num,ψ (by rw[NX.e,fe];exact pP.e),ψ HF.e.1,ψ HF.e.2⟩
       case measure=>simp[ϙ];omega
  ·obtain rfl:i=M:=by omega
   have mi:Hid (Γ w.heap.size w wr):=ψ (aY.e.trans (Ahi ((Ϗ _ _).alloc (by omega) _) hG.e (by simp;omega) (λk e=>by cases e;omega)))
   go_wp2;refine Ahb (v:=μ #[u4,u5,u6,ξ κ 0]) (by simp[results,Tryz.results117,go_sem]) rfl ?_
   refine⟨u4,u5,u6,rfl,?_,mi.e⟩
   rw[E2.e.1,<-E2.e.2];exact aQ.e.base (by omega)
def RQ{w:Ψ}{b:ao}{pv bv tv:υ}{KM:Nat}{B:Nat}(hB:B<=w.heap.size)(ai:bg w B b pv bv tv)(h:cj b 0≠0):
 ύ prog 117 #[η #[ξ κ b.ag,pv,bv,tv],η #[.func (.func KM) #[] #[]]] w λe w'=>e=Ω (μ #[ζ ν 0 0,ξ κ 0,.bool χ,ξ κ (cj b 0)])/\Γ w.heap.size w w':=by
 have st:Δ B w ((w.alloc (Ξ #[ξ κ b.ag,pv,bv,tv] 26)).alloc (Ξ #[.func (.func KM) #[] #[]] 145)):=((Δ.refl w).alloc hB _).alloc (by simp;omega) _
 have aB:=ψ (als (w:=((w.alloc (Ξ #[ξ κ b.ag,pv,bv,tv] 26)).alloc (Ξ #[.func (.func KM) #[] #[]] 145))) (B:=B) (by simp;omega) (ai.still st) h)
 unfold Xl at aB;obtain⟨s,hs⟩:∃s,s=cj b 0:=⟨_,rfl⟩
 rw[<-hs] at aB h |-
 obtain⟨A1,n1,c1,rfl,-⟩:=ai.pieces.Φ;obtain⟨A2,n2,c2,rfl,-⟩:=ai.aF.Φ;obtain⟨A3,n3,c3,rfl,-⟩:=ai.aJ.Φ;clear ai st hs;go_enter func117,Tryz.ntmps117;go_wp2_with (first
  | (go_at_call 119;refine aB.e.mono ?_;rintro e w1 ⟨g,rfl,ae⟩
     have aY:Hid (Γ w.heap.size w w1):=ψ ((((Ϗ _ _).alloc (ϊ _) _).alloc (by simp) _).trans (ae.mono (by simp;omega)));clear ae))
 refine Ahb (v:=μ #[ζ ν 0 0,ξ κ 0,.bool χ,ξ κ s]) (by simp[results,Tryz.results117,go_sem]) rfl ⟨rfl,?_⟩
 exact aY.e.alloc aY.e.size _
def gI(w:Ψ):Prop:=∃fr,w.heap[0]?=φ (Ξ #[.func (.func 234) #[] #[],.func (.func 236) #[] #[]] 146 fr)
def gI.cell{w:Ψ}(h:gI w)(i:Nat): w.cell? ⟨0,i,ν⟩=(#[.func (.func 234) #[] #[],.func (.func 236) #[] #[]]:Array υ)[i]?:=by
 obtain⟨fr,h⟩:=h;exact cell_of_row w 0 i _ 146 fr h
def gI.lt{w:Ψ}(h:gI w):0<w.heap.size:=by
 obtain⟨fr,h⟩:=h;exact(Ϟ.1 h).1
def gI.below{B:Nat}{w w':Ψ}(h:gI w)(hb:Γ B w w')(hB:0<B):gI w':=by
 obtain⟨fr,h⟩:=h;exact⟨fr,(hb.block 0 hB).trans h⟩
def j6(l:List Cut):Int:=(jG l).length
def qM(b:ao)(l:List Cut):Int:=lY b (jG l)
def agm{w:Ψ}{b:ao}{pv bv tv:υ}{B:Nat}(ai:bg w B b pv bv tv)(hv:Valid b):Lc b pv bv tv 234 j6 w B:=by
 refine⟨call234,λW sv lv g l hW hB hs hl hg=>?_⟩
 obtain⟨A1,n1,c1,e1,-⟩:=ai.pieces.Φ;obtain⟨A2,n2,c2,e2,-⟩:=ai.aF.Φ;obtain⟨A3,n3,c3,e3,-⟩:=ai.aJ.Φ;exact ah1 (g:=g) hl (ϊ _) (by have:=hg.1;have:=hv.np;omega) ⟨_,_,_,e1⟩ ⟨_,_,_,e2⟩ ⟨_,_,_,e3⟩ hs
def agn{w:Ψ}{b:ao}{pv bv tv:υ}{B:Nat}(ai:bg w B b pv bv tv)(hv:Valid b):Lc b pv bv tv 236 (qM b) w B:=by
 refine⟨call236,λW sv lv g l hW hB hs hl hg=>?_⟩
 have MT:=ai.still hW;have MU:bg W W.heap.size b pv bv tv:=⟨MT.pieces.more hB,(MT.aF.more hB).still (Δ.refl _) λx cs h=>by obtain⟨kv,h1,h2,h3⟩:=h;exact⟨kv,h1,h2,h3.more hB⟩,(MT.aJ.more hB).still (Δ.refl _) λx cs h=>by obtain⟨kv,h1,h2⟩:=h;exact⟨kv,h1,h2.more hB⟩⟩
 exact ah2 (g:=g) MU hl (ϊ _) (by have:=hg.1;have:=hv.np;omega) hs (λc hc=>(hg.2 c hc).bp) λx hx=>by have:=(hv.bp x hx).aH;omega
def fA(b:ao)(mI:List Cut->Int):Option (List Cut×Int):=if cj b 0=0 then iG b (cz (aD b)) mI (2 ^ b.aF.length) else ν
def wM(w:Ψ)(b:ao)(mI:List Cut->Int)(e:Ag7)(w':Ψ):Prop:=
 ∃cv mv fv,e=Ω (μ #[cv,mv,fv,ξ κ (cj b 0)])/\lJ w' w.heap.size b.pieces.length (fA b mI) cv mv fv/\Γ w.heap.size w w'
def Md{w:Ψ}{b:ao}{pv bv tv:υ}{B:Nat}(hB:B<=w.heap.size)(ai:bg w B b pv bv tv)(hg:gI w):
 ύ prog 33 #[η #[ξ κ b.ag,pv,bv,tv]] w (wM w b j6):=by
 have st:Δ B w (w.alloc (Ξ #[ξ κ b.ag,pv,bv,tv] 26)):=(Δ.refl w).alloc hB _;have call:ύ prog 117 #[η #[ξ κ b.ag,pv,bv,tv],η #[.func (.func 234) #[] #[]]] (w.alloc (Ξ #[ξ κ b.ag,pv,bv,tv] 26)) λe w'=>
  ∃cv mv fv,e=Ω (μ #[cv,mv,fv,ξ κ (cj b 0)])/\Hid (lJ w' w.heap.size b.pieces.length (fA b j6) cv mv fv/\Γ w.heap.size w w'):=by
  by_cases h:cj b 0=0
  ·refine(RR (w:=w.alloc (Ξ #[ξ κ b.ag,pv,bv,tv] 26)) (B:=B) (KM:=234) (by simp;omega) (ai.still st) (agm (ai.still st) (iy (pq h).1)) h).mono ?_
   rintro e w' ⟨cv,mv,fv,rfl,h1,h2⟩;refine⟨cv,mv,fv,by rw[h],ψ ⟨?_,cU (Ϗ _ _) h2 (ϊ _)⟩⟩
   unfold fA;rw[if_pos h];exact h1.base (by simp)
  ·refine(RQ (w:=w.alloc (Ξ #[ξ κ b.ag,pv,bv,tv] 26)) (B:=B) (KM:=234) (by simp;omega) (ai.still st) h).mono ?_
   rintro e w' ⟨rfl,h2⟩;refine⟨_,_,_,rfl,ψ ⟨?_,cU (Ϗ _ _) h2 (ϊ _)⟩⟩
   unfold fA;rw[if_neg h];exact⟨rfl,rfl,rfl⟩
 have aB:=ψ call;obtain⟨s,hs⟩:∃s,s=cj b 0:=⟨_,rfl⟩
 rw[<-hs] at aB;have HS:=ψ hs;obtain⟨A1,n1,c1,rfl,-⟩:=ai.pieces.Φ;obtain⟨A2,n2,c2,rfl,-⟩:=ai.aF.Φ;obtain⟨A3,n3,c3,rfl,-⟩:=ai.aJ.Φ;have g0: w.cell? ⟨0,0,ν⟩=φ (.func (.func 234) #[] #[]):=gI.cell hg 0;have h0:0<w.heap.size:=gI.lt hg;clear ai st hg call hs;go_enter func33,Tryz.ntmps33;go_wp2_with (first
  | (go_at_call 117;refine aB.e.mono ?_;rintro e w1 ⟨cv,mv,fv,rfl,jY⟩))
 refine Ahb (v:=μ #[cv,mv,fv,ξ κ s]) (by simp[results,Tryz.results33,go_sem]) rfl ⟨cv,mv,fv,by rw[HS.e],jY.e.1,jY.e.2⟩
def Xm{w:Ψ}{b:ao}{pv bv tv:υ}{B:Nat}(hB:B<=w.heap.size)(ai:bg w B b pv bv tv)(hg:gI w):
 ύ prog 36 #[η #[ξ κ b.ag,pv,bv,tv]] w (wM w b (qM b)):=by
 have st:Δ B w (w.alloc (Ξ #[ξ κ b.ag,pv,bv,tv] 26)):=(Δ.refl w).alloc hB _;have call:ύ prog 117 #[η #[ξ κ b.ag,pv,bv,tv],η #[.func (.func 236) #[] #[]]] (w.alloc (Ξ #[ξ κ b.ag,pv,bv,tv] 26)) λe w'=>
  ∃cv mv fv,e=Ω (μ #[cv,mv,fv,ξ κ (cj b 0)])/\Hid (lJ w' w.heap.size b.pieces.length (fA b (qM b)) cv mv fv/\Γ w.heap.size w w'):=by
  by_cases h:cj b 0=0
  ·refine(RR (w:=w.alloc (Ξ #[ξ κ b.ag,pv,bv,tv] 26)) (B:=B) (KM:=236) (by simp;omega) (ai.still st) (agn (ai.still st) (iy (pq h).1)) h).mono ?_
   rintro e w' ⟨cv,mv,fv,rfl,h1,h2⟩;refine⟨cv,mv,fv,by rw[h],ψ ⟨?_,cU (Ϗ _ _) h2 (ϊ _)⟩⟩
   unfold fA;rw[if_pos h];exact h1.base (by simp)
  ·refine(RQ (w:=w.alloc (Ξ #[ξ κ b.ag,pv,bv,tv] 26)) (B:=B) (KM:=236) (by simp;omega) (ai.still st) h).mono ?_
   rintro e w' ⟨rfl,h2⟩;refine⟨_,_,_,rfl,ψ ⟨?_,cU (Ϗ _ _) h2 (ϊ _)⟩⟩
   unfold fA;rw[if_neg h];exact⟨rfl,rfl,rfl⟩
 have aB:=ψ call;obtain⟨s,hs⟩:∃s,s=cj b 0:=⟨_,rfl⟩
 rw[<-hs] at aB;have HS:=ψ hs;obtain⟨A1,n1,c1,rfl,-⟩:=ai.pieces.Φ;obtain⟨A2,n2,c2,rfl,-⟩:=ai.aF.Φ;obtain⟨A3,n3,c3,rfl,-⟩:=ai.aJ.Φ;have g0: w.cell? ⟨0,1,ν⟩=φ (.func (.func 236) #[] #[]):=gI.cell hg 1;have h0:0<w.heap.size:=gI.lt hg;clear ai st hg call hs;go_enter func36,Tryz.ntmps36;go_wp2_with (first
  | (go_at_call 117;refine aB.e.mono ?_;rintro e w1 ⟨cv,mv,fv,rfl,jY⟩))
 refine Ahb (v:=μ #[cv,mv,fv,ξ κ s]) (by simp[results,Tryz.results36,go_sem]) rfl ⟨cv,mv,fv,by rw[HS.e],jY.e.1,jY.e.2⟩
end Go.Tw
namespace Go.Tw
variable [Go.Tw.aR]
open Go Go.Proofs Go.RowKit
end Go.Tw
namespace Go.Tw
variable [Go.Tw.aR]
open Go Go.Proofs Go.RowKit
def L8{α:Type}{xs ys:List α}(hl:xs.length=ys.length)(h:∀(j:Nat) (x:α),j<xs.length->xs[j]?=φ x->ys[j]?=φ x):xs=ys:=by
 apply List.ext_getElem?;intro j;by_cases hj:j<xs.length
 ·rw[Af9 hj,h j _ hj (Af9 hj)]
 ·rw[Ah3 (by omega),Ah3 (by omega)]
def GK{xs ys:List Int}{av bv:υ}{w:Ψ}{B:Nat}(ha:Row w B 1 cH av xs)(hb:Row w B 1 cH bv ys)(hB:B<=w.heap.size):
 ύ prog 30 #[av,bv] w λe w'=>e=Ω (.bool (decide (xs=ys)))/\Γ w.heap.size w w':=by
 obtain⟨A1,n,c1,rfl,e1,h1,eA,r1⟩:=ha.Φ;obtain⟨A2,m,c2,rfl,e2,h2,dW,r2⟩:=hb.Φ;unfold ϗ at eA dW;have E:=ψ (ϐ e1 e2);have R1:=ψ r1;have R2:=ψ r2;clear ha hb e1 e2 r1 r2;by_cases fC:n=m
 ·subst fC
  have hq:((n:Int) !=(n:Int))=χ:=by simp
  go_enter func30,Tryz.ntmps30;go_wp2;go_loopw [4,5] (λr k wr=>∃i:Nat,i<=n/\k=ξ κ i/\Hid (∀(j:Nat) (x:Int),j<i->xs[j]?=φ x->ys[j]?=φ x)/\Hid (Γ w.heap.size w wr)) (λ_ k _=>n - (ϙ k).toNat)
  case atStart=>exact⟨0,ϡ _,rfl,ψ λj _ hj=>by omega,ψ (Ϗ _ _)⟩
  case round=>
   obtain⟨i,hi,rfl,bt,cF⟩:=hrel;have st:Δ B w wr:=Δ.aK cF.e hB;have aI:=cF.e.size;by_cases al:i<n
   ·obtain⟨ad,x,cs,rfl,aC,hx,rfl,-,au⟩:=R1.e i al
    obtain⟨cI,y,jQ,rfl,fV,hy,rfl,-,ie⟩:=R2.e i al;have h0:=cC au st aC rfl;have Mp:=cC ie st fV rfl;rw[Nat.mul_one] at h0 Mp;have q0:(ad.add i).block<wr.heap.size:=by rw[cq];omega
    have WB:(cI.add i).block<wr.heap.size:=by rw[cq];omega
    have HX:=ψ (ϐ hx hy);clear hx hy au ie;by_cases hxy:x=y
    ·have aw:(x !=y)=χ:=by simp[hxy]
     have pQ:=ψ hxy;clear hxy;go_wp2;go_quiet (fail);go_wp2;go_roundw;case rel=>exact⟨i+1,by omega,by go_num,ψ λj z hj hz=>by
      rcases Agv.1 hj with h|rfl
      ·exact bt.e j z h hz
      ·rw[HX.e.1] at hz;cases hz;rw[HX.e.2,pQ.e],ψ (jq cF.e _)⟩
     case measure=>simp[ϙ];omega
    ·have aw:(x !=y)=θ:=by simpa using hxy
     have pQ:=ψ hxy;clear hxy;go_wp2;go_quiet (fail);go_wp2;go_ret;refine⟨b9 ?_,jq cF.e _⟩
     simp only[Ag5,decide_eq_false_iff_not];rintro rfl;have:=HX.e.1.symm.trans HX.e.2;exact pQ.e (ϟ this)
   ·obtain rfl:i=n:=by omega
    go_wp2;go_ret;refine⟨b9 ?_,cF.e⟩
    have:=L8 (xs:=xs) (ys:=ys) (by rw[E.e.1,E.e.2]) λj x hj hx=>bt.e j x (by rw[E.e.1] at hj;exact hj) hx
    simp[this]
 ·have hq:((n:Int) !=(m:Int))=θ:=by simp;omega
  have HQ:=ψ fC;clear fC;go_enter func30,Tryz.ntmps30;go_wp2;go_ret;refine⟨b9 ?_,Ϗ _ _⟩
  simp only[Ag5,decide_eq_false_iff_not];rintro rfl;exact HQ.e (E.e.1.symm.trans E.e.2)
def alX:Tryz.prog.stoodInHeld 37=χ:=by decide+kernel
def alY:Tryz.prog.stoodInHeld 56=χ:=by decide+kernel
def adl:Tryz.prog.eqGuardType Tryz.prog.depth 37=χ:=by decide+kernel
def adm:Tryz.prog.eqGuardType Tryz.prog.depth 56=χ:=by decide+kernel
def abP(w:Ψ)(a b c d:Int):(Op.equalIn 10000 37 (η #[ξ κ a,ξ κ b]) (η #[ξ κ c,ξ κ d])).run prog w=.ok (a==c && b==d) w:=by
 have hu:=U Tryz.underlying37;rw[run_equalIn_struct w 9999 37 _ _ (by simp[Ahg,hu]) (by rw[XK];exact alX)]
 have h3:=U Tryz.underlying3;have hf:(prog.fieldsOf 37).toList=[{name:= "Low",type:=3,offset:=0,embedded:=χ,tag:= "",pkgPath:= "",byteOffset:=0},{name:= "High",type:=3,offset:=1,embedded:=χ,tag:= "",pkgPath:= "",byteOffset:=8}]:=by simp[Ahg,hu]
 rw[hf];cases h1:(a==c)<;>cases h2:(b==d)<;>simp[Op.eqFields,go_sem,h1,h2,run_equalIn_int,h3]
def abQ(w:Ψ)(a b c d:Int):(Op.equalIn 10000 56 (η #[ξ κ a,ξ κ b]) (η #[ξ κ c,ξ κ d])).run prog w=.ok (a==c && b==d) w:=by
 have hu:=U Tryz.underlying56;rw[run_equalIn_struct w 9999 56 _ _ (by simp[Ahg,hu]) (by rw[XK];exact alY)]
 have h3:=U Tryz.underlying3;have hf:(prog.fieldsOf 56).toList=[{name:= "Board",type:=3,offset:=0,embedded:=χ,tag:= "",pkgPath:= "",byteOffset:=0},{name:= "From",type:=3,offset:=1,embedded:=χ,tag:= "",pkgPath:= "",byteOffset:=8}]:=by simp[Ahg,hu]
 rw[hf];cases h1:(a==c)<;>cases h2:(b==d)<;>simp[Op.eqFields,go_sem,h1,h2,run_equalIn_int,h3]
def Wd(w:Ψ)(a b c d:Int):(binOp .neq 37 (η #[ξ κ a,ξ κ b]) (η #[ξ κ c,ξ κ d])).run prog w=.ok (.bool (!(a==c && b==d))) w:=by
 rw[run_neq_struct,abP];rfl
def We(w:Ψ)(a b c d:Int):(binOp .neq 56 (η #[ξ κ a,ξ κ b]) (η #[ξ κ c,ξ κ d])).run prog w=.ok (.bool (!(a==c && b==d))) w:=by
 rw[run_neq_struct,abQ];rfl
def Tx(w:Ψ)(op:BinOp)(x y:Abp)(xs ys:Array υ):(eqGuard op 37 x y (.agg xs) (.agg ys)).run prog w=.ok () w:=run_eqGuard_agg w op 37 x y xs ys (by simpa using adl)
def Ty(w:Ψ)(op:BinOp)(x y:Abp)(xs ys:Array υ):(eqGuard op 56 x y (.agg xs) (.agg ys)).run prog w=.ok () w:=run_eqGuard_agg w op 56 x y xs ys (by simpa using adm)
def abR{xs ys:List Span}{av bv:υ}{w:Ψ}{B:Nat}(ha:Row w B 2 Span.R av xs)(hb:Row w B 2 Span.R bv ys)(hB:B<=w.heap.size):
 ύ prog 75 #[av,bv] w λe w'=>e=Ω (.bool (decide (xs=ys)))/\Γ w.heap.size w w':=by
 obtain⟨A1,n,c1,rfl,e1,h1,eA,r1⟩:=ha.Φ;obtain⟨A2,m,c2,rfl,e2,h2,dW,r2⟩:=hb.Φ;unfold ϗ at eA dW;have E:=ψ (ϐ e1 e2);have R1:=ψ r1;have R2:=ψ r2;clear ha hb e1 e2 r1 r2;by_cases fC:n=m
 ·subst fC
  have hq:((n:Int) !=(n:Int))=χ:=by simp
  have qn:=Wd;have qg:=Tx;go_enter func75,Tryz.ntmps75;go_wp2;go_loopw [4,5] (λr k wr=>∃i:Nat,i<=n/\k=ξ κ i/\Hid (∀(j:Nat) (x:Span),j<i->xs[j]?=φ x->ys[j]?=φ x)/\Hid (Γ w.heap.size w wr)) (λ_ k _=>n - (ϙ k).toNat)
  case atStart=>exact⟨0,ϡ _,rfl,ψ λj _ hj=>by omega,ψ (Ϗ _ _)⟩
  case round=>
   obtain⟨i,hi,rfl,bt,cF⟩:=hrel;have st:Δ B w wr:=Δ.aK cF.e hB;have aI:=cF.e.size;by_cases al:i<n
   ·obtain⟨ad,x,cs,rfl,aC,hx,rfl,-,au⟩:=R1.e i al
    obtain⟨cI,y,jQ,rfl,fV,hy,rfl,-,ie⟩:=R2.e i al;have h0:=cC au st aC rfl;have Fg:=bK au st aC 0 rfl;have Mp:=cC ie st fV rfl;have adr:=bK ie st fV 0 rfl;have q0:(ad.add (i * 2)).block<wr.heap.size:=by rw[cq];omega
    have WB:(cI.add (i * 2)).block<wr.heap.size:=by rw[cq];omega
    have HX:=ψ (ϐ hx hy);clear hx hy au ie;by_cases hxy:x=y
    ·have aw:(x.lo==y.lo && x.hi==y.hi)=θ:=by simp[hxy]
     have pQ:=ψ hxy;clear hxy;go_wp2;go_quiet (fail);go_wp2;go_roundw;case rel=>exact⟨i+1,by omega,by go_num,ψ λj z hj hz=>by
      rcases Agv.1 hj with h|rfl
      ·exact bt.e j z h hz
      ·rw[HX.e.1] at hz;cases hz;rw[HX.e.2,pQ.e],ψ (jq cF.e _)⟩
     case measure=>simp[ϙ];omega
    ·have aw:(x.lo==y.lo && x.hi==y.hi)=χ:=by
      rw[Bool.eq_false_iff];intro h;simp only[Bool.and_eq_true,beq_iff_eq] at h;exact hxy (by cases x;cases y;simp_all)
     have pQ:=ψ hxy;clear hxy;go_wp2;go_quiet (fail);go_wp2;go_ret;refine⟨b9 ?_,jq cF.e _⟩
     simp only[Ag5,decide_eq_false_iff_not];rintro rfl;have:=HX.e.1.symm.trans HX.e.2;exact pQ.e (ϟ this)
   ·obtain rfl:i=n:=by omega
    go_wp2;go_ret;refine⟨b9 ?_,cF.e⟩
    have:=L8 (xs:=xs) (ys:=ys) (by rw[E.e.1,E.e.2]) λj x hj hx=>bt.e j x (by rw[E.e.1] at hj;exact hj) hx
    simp[this]
 ·have hq:((n:Int) !=(m:Int))=θ:=by simp;omega
  have HQ:=ψ fC;clear fC;have qn:=Wd;have qg:=Tx;go_enter func75,Tryz.ntmps75;go_wp2;go_ret;refine⟨b9 ?_,Ϗ _ _⟩
  simp only[Ag5,decide_eq_false_iff_not];rintro rfl;exact HQ.e (E.e.1.symm.trans E.e.2)
def PF{xs ys:List Cut}{av bv:υ}{w:Ψ}{B:Nat}(ha:Row w B 2 Cut.R av xs)(hb:Row w B 2 Cut.R bv ys)(hB:B<=w.heap.size):
 ύ prog 35 #[av,bv] w λe w'=>e=Ω (.bool (decide (xs=ys)))/\Γ w.heap.size w w':=by
 obtain⟨A1,n,c1,rfl,e1,h1,eA,r1⟩:=ha.Φ;obtain⟨A2,m,c2,rfl,e2,h2,dW,r2⟩:=hb.Φ;unfold ϗ at eA dW;have E:=ψ (ϐ e1 e2);have R1:=ψ r1;have R2:=ψ r2;clear ha hb e1 e2 r1 r2;by_cases fC:n=m
 ·subst fC
  have hq:((n:Int) !=(n:Int))=χ:=by simp
  have qn:=We;have qg:=Ty;go_enter func35,Tryz.ntmps35;go_wp2;go_loopw [4,5] (λr k wr=>∃i:Nat,i<=n/\k=ξ κ i/\Hid (∀(j:Nat) (x:Cut),j<i->xs[j]?=φ x->ys[j]?=φ x)/\Hid (Γ w.heap.size w wr)) (λ_ k _=>n - (ϙ k).toNat)
  case atStart=>exact⟨0,ϡ _,rfl,ψ λj _ hj=>by omega,ψ (Ϗ _ _)⟩
  case round=>
   obtain⟨i,hi,rfl,bt,cF⟩:=hrel;have st:Δ B w wr:=Δ.aK cF.e hB;have aI:=cF.e.size;by_cases al:i<n
   ·obtain⟨ad,x,cs,rfl,aC,hx,rfl,-,au⟩:=R1.e i al
    obtain⟨cI,y,jQ,rfl,fV,hy,rfl,-,ie⟩:=R2.e i al;have h0:=cC au st aC rfl;have Fg:=bK au st aC 0 rfl;have Mp:=cC ie st fV rfl;have adr:=bK ie st fV 0 rfl;have q0:(ad.add (i * 2)).block<wr.heap.size:=by rw[cq];omega
    have WB:(cI.add (i * 2)).block<wr.heap.size:=by rw[cq];omega
    have HX:=ψ (ϐ hx hy);clear hx hy au ie;by_cases hxy:x=y
    ·have aw:(x.bp==y.bp && x.from_==y.from_)=θ:=by simp[hxy]
     have pQ:=ψ hxy;clear hxy;go_wp2;go_quiet (fail);go_wp2;go_roundw;case rel=>exact⟨i+1,by omega,by go_num,ψ λj z hj hz=>by
      rcases Agv.1 hj with h|rfl
      ·exact bt.e j z h hz
      ·rw[HX.e.1] at hz;cases hz;rw[HX.e.2,pQ.e],ψ (jq cF.e _)⟩
     case measure=>simp[ϙ];omega
    ·have aw:(x.bp==y.bp && x.from_==y.from_)=χ:=by
      rw[Bool.eq_false_iff];intro h;simp only[Bool.and_eq_true,beq_iff_eq] at h;exact hxy (by cases x;cases y;simp_all)
     have pQ:=ψ hxy;clear hxy;go_wp2;go_quiet (fail);go_wp2;go_ret;refine⟨b9 ?_,jq cF.e _⟩
     simp only[Ag5,decide_eq_false_iff_not];rintro rfl;have:=HX.e.1.symm.trans HX.e.2;exact pQ.e (ϟ this)
   ·obtain rfl:i=n:=by omega
    go_wp2;go_ret;refine⟨b9 ?_,cF.e⟩
    have:=L8 (xs:=xs) (ys:=ys) (by rw[E.e.1,E.e.2]) λj x hj hx=>bt.e j x (by rw[E.e.1] at hj;exact hj) hx
    simp[this]
 ·have hq:((n:Int) !=(m:Int))=θ:=by simp;omega
  have HQ:=ψ fC;clear fC;have qn:=We;have qg:=Ty;go_enter func35,Tryz.ntmps35;go_wp2;go_ret;refine⟨b9 ?_,Ϗ _ _⟩
  simp only[Ag5,decide_eq_false_iff_not];rintro rfl;exact HQ.e (E.e.1.symm.trans E.e.2)
def Bc(w:Ψ)(n:Int):ύ prog 50 #[ξ κ n] w λe w'=>e=Ω (η #[ξ κ n,ξ κ n])/\w'=w.alloc (Ξ #[ξ κ n,ξ κ n] 37):=by
 go_enter func50,Tryz.ntmps50;go_wp2;refine Ahb (v:=η #[ξ κ n,ξ κ n]) (by simp[results,Tryz.results50,go_sem]) rfl ⟨rfl,rfl⟩
def B8(w:Ψ)(a b:Int):ύ prog 67 #[ξ κ a,ξ κ b] w λe w'=>e=Ω (η #[ξ κ a,ξ κ b])/\w'=w.alloc (Ξ #[ξ κ a,ξ κ b] 37):=by
 go_enter func67,Tryz.ntmps67;go_wp2;refine Ahb (v:=η #[ξ κ a,ξ κ b]) (by simp[results,Tryz.results67,go_sem]) rfl ⟨rfl,rfl⟩
def di(w:Ψ)(a b:Int):ύ prog 66 #[ξ κ a,ξ κ b] w λe w'=>e=Ω (η #[ξ κ a,ξ κ b])/\w'=w.alloc (Ξ #[ξ κ a,ξ κ b] 56):=by
 go_enter func66,Tryz.ntmps66;go_wp2;refine Ahb (v:=η #[ξ κ a,ξ κ b]) (by simp[results,Tryz.results66,go_sem]) rfl ⟨rfl,rfl⟩
def abb(w:Ψ):ύ prog 95 #[] w λe w'=>∃g,e=Ω (ζ (φ ⟨g,0,ν⟩) 3 3)/\w.heap.size<=g/\Bk w' g 56 #[ξ κ 1,ξ κ 0,ξ κ 0,ξ κ 0,ξ κ 0,ξ κ 4]/\Γ w.heap.size w w':=by
 go_enter func95,Tryz.ntmps95;go_wp2_with (first
  | (go_at_call 66;refine(di _ _ _).mono ?_;rintro e w1 ⟨rfl,rfl⟩))
 go_ret;refine⟨w.heap.size+1+1+1,rfl,by omega,Bk.cG (by simp) _ _,?_⟩
 exact((((Ϗ _ _).alloc (ϊ _) _).alloc (by simp) _).alloc (by simp;omega) _).alloc (by simp;omega) _
def It:ByteArray:={data:=#[107,101,101,108]}
def Iu:ByteArray:={data:=#[114,105,98]}
def Is:ByteArray:={data:=#[97,114,109]}
def EA:ByteArray:={data:=#[101,108,109]}
def EC:ByteArray:={data:=#[111,97,107]}
structure wL(w:Ψ)(base gp gb gk gt gl:Nat):Prop where
 p:Bk w gp 72 #[.string It,ξ κ 4,ξ κ 5,ξ κ 0,.string Iu,ξ κ 3,ξ κ 3,ξ κ 1,.string Is,ξ κ 2,ξ κ 3,ξ κ 0]
 b:Bk w gb 59 #[.string EA,ξ κ 8,ζ (φ ⟨gk,0,ν⟩) 1 1,.string EC,ξ κ 6,ζ ν 0 0]
 k:Bk w gk 37 #[ξ κ 3,ξ κ 3]
 t:Bk w gt 95 #[ζ (φ ⟨gl,0,ν⟩) 2 2,ξ κ 7,ξ κ 7]
 l:Bk w gl 3 #[ξ κ 0,ξ κ 2]
 hp:base<=gp
 hb:base<=gb
 hk:base<=gk
 ht:base<=gt
 hl:base<=gl
def acb(w:Ψ)(e:Ag7)(w':Ψ):Prop:=
 ∃gp gb gk gt gl,e=Ω (η #[ξ κ 1,ζ (φ ⟨gp,0,ν⟩) 3 3,ζ (φ ⟨gb,0,ν⟩) 2 2,ζ (φ ⟨gt,0,ν⟩) 1 1])/\wL w' w.heap.size gp gb gk gt gl/\Γ w.heap.size w w'
def acn(w:Ψ):ύ prog 94 #[] w (acb w):=by
 go_enter func94,Tryz.ntmps94;go_wp2_with (first
  | (go_at_call 67;refine(B8 _ _ _).mono ?_;rintro e w1 ⟨rfl,rfl⟩)
  | (go_at_call 50;refine(Bc _ _).mono ?_;rintro e w1 ⟨rfl,rfl⟩))
 refine Ahb (v:=η #[ξ κ 1,ζ (φ ⟨w.heap.size+1+1+1+1,0,ν⟩) 3 3,ζ (φ ⟨w.heap.size+1+1+1+1+1+1+1,0,ν⟩) 2 2,ζ (φ ⟨w.heap.size+1+1+1+1+1+1+1+1+1+1,0,ν⟩) 1 1]) (by simp[results,Tryz.results94,go_sem]) rfl ?_
 refine⟨_,_,w.heap.size+1+1+1+1+1+1,_,w.heap.size+1+1+1+1+1+1+1+1,rfl,⟨?_,?_,?_,?_,?_,by omega,by omega,by omega,by omega,by omega⟩,?_⟩
 ·repeat first|exact Bk.cG (by simp) _ _|refine Bk.alloc ?_ _
 ·repeat first|exact Bk.cG (by simp) _ _|refine Bk.alloc ?_ _
 ·repeat first|exact Bk.cG (by simp) _ _|refine Bk.alloc ?_ _
 ·repeat first|exact Bk.cG (by simp) _ _|refine Bk.alloc ?_ _
 ·repeat first|exact Bk.cG (by simp) _ _|refine Bk.alloc ?_ _
 ·repeat first|exact Ϗ _ _|refine Ahk ?_ (by simp;try omega) _
def aW:ao:=⟨1,[⟨It,⟨4,5⟩,0⟩,⟨Iu,⟨3,3⟩,1⟩,⟨Is,⟨2,3⟩,0⟩],[⟨EA,8,[⟨3,3⟩]⟩,⟨EC,6,[]⟩],[⟨[0,2],⟨7,7⟩⟩]⟩
def dQ:List Cut:=[⟨1,0⟩,⟨0,0⟩,⟨0,4⟩]
def yX{α:Type}{w:Ψ}{B sz g e:Nat}{R:α->List υ->Prop}{xs:List α}{cs:Array υ}{oX:List (List υ)}(hb:Bk w g e cs)(hg:g<B)(aw:xs≠ [])(hlen:oX.length=xs.length)(hx:xs.length<=1000)
 (hR:∀(i:Nat) (x:α) (c:List υ),xs[i]?=φ x->oX[i]?=φ c->R x c/\c.length=sz)(hc:∀(i:Nat) (c:List υ),oX[i]?=φ c->∀(j:Nat) (u:υ),c[j]?=φ u->cs[i * sz+j]?=φ u){c:Nat}(M6:xs.length<=c)(kZ:c<=1000):Row w B sz R (ζ (φ ⟨g,0,ν⟩) xs.length c) xs:=by
 refine⟨_,c,rfl,M6,by unfold ϗ;omega,λ_=>⟨⟨g,0,ν⟩,rfl,hg,λi x hi=>?_⟩⟩
 have qp:i<xs.length:=(ϱ.1 hi).1
 obtain⟨c,T6⟩:∃c,oX[i]?=φ c:=⟨oX[i]'(by omega),Af9 _⟩
 obtain⟨h1,h2⟩:=hR i x c hi T6;refine⟨c,h1,h2,λj u hu=>?_⟩
 have:=hc i c T6 j u hu;rw[nu];unfold World.cell?;rw[show w.heap[(⟨g,i * sz+j,ν⟩:ϕ).block]?=φ (.cells cs e) from hb]
 simpa using this
def kY{w:Ψ}{base gp gb gk gt gl:Nat}(h:wL w base gp gb gk gt gl):bg w w.heap.size aW (ζ (φ ⟨gp,0,ν⟩) 3 3) (ζ (φ ⟨gb,0,ν⟩) 2 2) (ζ (φ ⟨gt,0,ν⟩) 1 1):=by
 have hk:Row w w.heap.size 2 Span.R (ζ (φ ⟨gk,0,ν⟩) 1 1) [⟨3,3⟩]:=yX (xs:=[(⟨3,3⟩:Span)]) (sz:=2) (R:=Span.R) (oX:=[[ξ κ 3,ξ κ 3]]) h.k h.k.lt (by simp) rfl (by simp) (λi x c hx hc=>by
  match i with
  |0=>cases hx;cases hc;exact⟨rfl,rfl⟩
  |i+1=>simp at hx) (λi c hc j u hu=>by
  match i with
  |0=>
   cases hc;match j with
   |0=>exact hu
   |1=>exact hu
   |j+2=>simp at hu
  |i+1=>simp at hc) (c:=1) (by simp) (by omega)
 have hl:Row w w.heap.size 1 cH (ζ (φ ⟨gl,0,ν⟩) 2 2) [0,2]:=yX (xs:=[(0:Int),2]) (sz:=1) (R:=cH) (oX:=[[ξ κ 0],[ξ κ 2]]) h.l h.l.lt (by simp) rfl (by simp) (λi x c hx hc=>by
  match i with
  |0=>cases hx;cases hc;exact⟨rfl,rfl⟩
  |1=>cases hx;cases hc;exact⟨rfl,rfl⟩
  |i+2=>simp at hx) (λi c hc j u hu=>by
  match i with
  |0=>
   cases hc;match j with
   |0=>exact hu
   |j+1=>simp at hu
  |1=>
   cases hc;match j with
   |0=>exact hu
   |j+1=>simp at hu
  |i+2=>simp at hc) (c:=2) (by simp) (by omega)
 refine⟨?_,?_,?_⟩
 ·refine yX (xs:=aW.pieces) (sz:=4) (R:=Piece.R) (oX:=[[.string It,ξ κ 4,ξ κ 5,ξ κ 0],[.string Iu,ξ κ 3,ξ κ 3,ξ κ 1],[.string Is,ξ κ 2,ξ κ 3,ξ κ 0]]) h.p h.p.lt (by simp[aW]) rfl (by simp[aW]) (λi x c hx hc=>?_) (λi c hc j u hu=>?_) (c:=3) (by simp[aW]) (by omega)
  ·match i with
   |0=>cases hx;cases hc;exact⟨⟨rfl,by decide⟩,rfl⟩
   |1=>cases hx;cases hc;exact⟨⟨rfl,by decide⟩,rfl⟩
   |2=>cases hx;cases hc;exact⟨⟨rfl,by decide⟩,rfl⟩
   |i+3=>simp[aW] at hx
  ·match i with
   |0=>
    cases hc;match j with
    |0=>exact hu
    |1=>exact hu
    |2=>exact hu
    |3=>exact hu
    |j+4=>simp at hu
   |1=>
    cases hc;match j with
    |0=>exact hu
    |1=>exact hu
    |2=>exact hu
    |3=>exact hu
    |j+4=>simp at hu
   |2=>
    cases hc;match j with
    |0=>exact hu
    |1=>exact hu
    |2=>exact hu
    |3=>exact hu
    |j+4=>simp at hu
   |i+3=>simp at hc
 ·refine yX (xs:=aW.aF) (sz:=3) (R:=bR.R w w.heap.size) (oX:=[[.string EA,ξ κ 8,ζ (φ ⟨gk,0,ν⟩) 1 1],[.string EC,ξ κ 6,ζ ν 0 0]]) h.b h.b.lt (by simp[aW]) rfl (by simp[aW]) (λi x c hx hc=>?_) (λi c hc j u hu=>?_) (c:=2) (by simp[aW]) (by omega)
  ·match i with
   |0=>cases hx;cases hc;exact⟨⟨_,rfl,by decide,hk⟩,rfl⟩
   |1=>cases hx;cases hc;exact⟨⟨_,rfl,by decide,Row.nil⟩,rfl⟩
   |i+2=>simp[aW] at hx
  ·match i with
   |0=>
    cases hc;match j with
    |0=>exact hu
    |1=>exact hu
    |2=>exact hu
    |j+3=>simp at hu
   |1=>
    cases hc;match j with
    |0=>exact hu
    |1=>exact hu
    |2=>exact hu
    |j+3=>simp at hu
   |i+2=>simp at hc
 ·refine yX (xs:=aW.aJ) (sz:=3) (R:=Tape.R w w.heap.size) (oX:=[[ζ (φ ⟨gl,0,ν⟩) 2 2,ξ κ 7,ξ κ 7]]) h.t h.t.lt (by simp[aW]) rfl (by simp[aW]) (λi x c hx hc=>?_) (λi c hc j u hu=>?_) (c:=1) (by simp[aW]) (by omega)
  ·match i with
   |0=>cases hx;cases hc;exact⟨⟨_,rfl,hl⟩,rfl⟩
   |i+1=>simp[aW] at hx
  ·match i with
   |0=>
    cases hc;match j with
    |0=>exact hu
    |1=>exact hu
    |2=>exact hu
    |j+3=>simp at hu
   |i+1=>simp at hc
def aa9{w:Ψ}{g:Nat}(h:Bk w g 56 #[ξ κ 1,ξ κ 0,ξ κ 0,ξ κ 0,ξ κ 0,ξ κ 4]):Row w w.heap.size 2 Cut.R (ζ (φ ⟨g,0,ν⟩) 3 3) dQ:=by
 refine yX (xs:=dQ) (sz:=2) (R:=Cut.R) (oX:=[[ξ κ 1,ξ κ 0],[ξ κ 0,ξ κ 0],[ξ κ 0,ξ κ 4]]) h h.lt (by simp[dQ]) rfl (by simp[dQ]) (λi x c hx hc=>?_) (λi c hc j u hu=>?_) (c:=3) (by simp[dQ]) (by omega)
 ·match i with
  |0=>cases hx;cases hc;exact⟨rfl,rfl⟩
  |1=>cases hx;cases hc;exact⟨rfl,rfl⟩
  |2=>cases hx;cases hc;exact⟨rfl,rfl⟩
  |i+3=>simp[dQ] at hx
 ·match i with
  |0=>
   cases hc;match j with
   |0=>exact hu
   |1=>exact hu
   |j+2=>simp at hu
  |1=>
   cases hc;match j with
   |0=>exact hu
   |1=>exact hu
   |j+2=>simp at hu
  |2=>
   cases hc;match j with
   |0=>exact hu
   |1=>exact hu
   |j+2=>simp at hu
  |i+3=>simp at hc
def Span.vs(x:Span):List υ:=[ξ κ x.lo,ξ κ x.hi]
def j5(out:List Span)(x:Span):List Span:=match out.getLast? with
 |some y=>if y.hi+1=x.lo then out.dropLast++ [⟨y.lo,x.hi⟩] else out++ [x]
 |none=>out++ [x]
def fq(l:List Span):List Span:=l.foldl j5 []
def agr{l:List Span}{i:Nat}{x:Span}(h:l[i]?=φ x):fq (l.take (i+1))=j5 (fq (l.take i)) x:=by
 unfold fq;rw[oJ h,List.foldl_append];rfl
def IG{w:Ψ}{base:Nat}{e:ό}{sz n g cap k:Nat}{xs:List υ}{u:υ}(h:w.ownsRow base e sz (ζ (φ ⟨g,0,ν⟩) n cap) n xs)(hk:k<n * sz):(w.setCell ⟨g,k,ν⟩ u).ownsRow base e sz (ζ (φ ⟨g,0,ν⟩) n cap) n (xs.set k u):=by
 refine⟨by rw[List.length_set];exact h.1,.inr ?_⟩
 rcases h.2 with⟨h0,_⟩ | ⟨g',zd,cur,h1,h2,h3,h4,h5,h6,h7⟩
 ·cases h0
 ·cases h1
  refine⟨g,cap,cur.setIfInBounds k u,rfl,h2,?_,h4,h5,by simp[h6],?_⟩
  ·have:=Go.Sim.Bx (a:=⟨g,k,ν⟩) (v:=u) h3 rfl g
   simpa using this
  ·rw[<-h7]
   simp[List.take_set]
def Xr(l:List Span):(l.flatMap Span.vs).length=l.length * 2:=by
 induction l with
 |nil=>rfl
 |cons a l ih=>simp[Span.vs,ih];omega
def agP{out:List Span}{y x:Span}(h: out.getLast? =φ y):(out.flatMap Span.vs).set ((out.length - 1) * 2+1) (ξ κ x.hi)=(out.dropLast++ [(⟨y.lo,x.hi⟩:Span)]).flatMap Span.vs:=by
 have aw:out≠ []:=by rintro rfl;cases h
 have e:out=out.dropLast++ [y]:=by
  have:=Ah4 aw;rw[Ah5 aw] at h
  cases h;exact this.symm
 obtain⟨d,hd⟩:∃d,d=out.dropLast:=⟨_,rfl⟩
 rw[<-hd] at e |-
 subst e;rw[Agt,Agt,Af6];have hl:=Xr d;have e2:(d.length+ [y].length - 1) * 2+1=(d.flatMap Span.vs).length+1:=by rw[hl];simp
 rw[e2,List.set_append,if_neg (by omega),Nat.add_sub_cancel_left]
 simp[Span.vs]
def agO{out:List Span}{y:Span}(h: out.getLast? =φ y):(out.flatMap Span.vs)[(out.length - 1) * 2+1]?=φ (ξ κ y.hi):=by
 have aw:out≠ []:=by rintro rfl;cases h
 have e:out=out.dropLast++ [y]:=by
  have:=Ah4 aw;rw[Ah5 aw] at h
  cases h;exact this.symm
 obtain⟨d,hd⟩:∃d,d=out.dropLast:=⟨_,rfl⟩
 rw[<-hd] at e;subst e;rw[Agt,Af6];have hl:=Xr d;rw[Ahv (by rw[hl];simp),hl]
 simp[Span.vs]
def VE:(prog.info? 37).map (λi=>(i.zero,i.size,i.bytes))=φ (φ (η #[ξ κ 0,ξ κ 0]),2,16):=by
 rw[pB];kernel_rfl
def rl(l:List Span):Prop:=∀x∈l,-1000<=x.lo/\x.lo<=1000/\ -1000<=x.hi/\x.hi<=1000
def agt{out:List Span}{x:Span}(h:rl out)(hx:rl [x]):rl (j5 out x):=by
 have hx:=hx x (by simp)
 unfold j5;split
 ·rename_i y hy
  have hy:=h y (Ah6 hy);split
  ·intro z hz
   rcases Af8.1 hz with hz|hz
   ·exact h z (List.dropLast_subset _ hz)
   ·simp at hz;subst hz;exact⟨hy.1,hy.2.1,hx.2.2⟩
  ·intro z hz
   rcases Af8.1 hz with hz|hz
   ·exact h z hz
   ·simp at hz;subst hz;exact hx
 ·intro z hz
  rcases Af8.1 hz with hz|hz
  ·exact h z hz
  ·simp at hz;subst hz;exact hx
def agq{l:List Span}(h:rl l):rl (fq l):=by
 have key:∀(l out:List Span),rl out->rl l->rl (l.foldl j5 out):=by
  intro l;induction l with
  |nil=>intro out h _;exact h
  |cons a l ih=>exactλout h k=>ih _ (agt h λz hz=>by simp at hz;subst hz;exact k z (by simp)) λz hz=>k z (by simp[hz])
 exact key l [] (λz hz=>by simp at hz) h
def ags(out:List Span)(x:Span):(j5 out x).length<=out.length+1:=by
 unfold j5;split
 ·split<;>simp<;>omega
 ·simp
def agp(l:List Span):(fq l).length<=l.length:=by
 have key:∀(l out:List Span),(l.foldl j5 out).length<=out.length+l.length:=by
  intro l;induction l with
  |nil=>intro out;simp
  |cons a l ih=>intro out;have:=ih (j5 out a);have:=ags out a;simp only[List.foldl_cons,Af5];omega
 have:=key l [];simpa [fq] using this
def II{w:Ψ}{base:Nat}{e:ό}{sz n:Nat}{v:υ}{xs:List υ}(h:w.ownsRow base e sz v n xs):∃A c,v=ζ A n c/\(0<n->∃g,A=φ ⟨g,0,ν⟩/\base<=g/\g<w.heap.size/\∃cur,w.heap[g]?=φ (.cells cur e (0,0)))/\n<=c/\c<=ϗ:=by
 rcases h.2 with⟨rfl,rfl⟩ | ⟨g,cap,cur,rfl,h2,h3,h4,h5,_⟩
 ·exact⟨ν,0,rfl,λh=>absurd h (by omega),ϊ _,ϡ _⟩
 ·exact⟨_,_,rfl,λ_=>⟨g,rfl,h2,(Ϟ.1 h3).1,cur,h3⟩,h4,h5⟩
def Pa{w:Ψ}{base:Nat}{e:ό}{sz n:Nat}{v:υ}{xs:List υ}(h:w.ownsRow base e sz v n xs)(k:Nat):(w.drewN k).ownsRow base e sz v n xs:=h
def join{l:List Span}{v:υ}{w:Ψ}{B:Nat}(hv:Row w B 2 Span.R v l)(hB:B<=w.heap.size)(xv:l.length<=1000)(hs:rl l):
 ύ prog 133 #[v] w λe w'=>∃u,e=Ω u/\w'.ownsRow w.heap.size 37 2 u (fq l).length ((fq l).flatMap Span.vs)/\Γ w.heap.size w w':=by
 obtain⟨i0,cR,cT,aN,ba⟩:=Ag9 VE;obtain⟨A,n,c,rfl,hl,dX,cX,hr⟩:=hv.Φ;have hn:n<=1000:=by omega
 unfold ϗ at cX;have nh:=ψ hl;have H2:=ψ hr;have HS:=ψ hs;have HI:=ψ (ϐ cR (ϐ cT (ϐ aN ba)));clear hl hr hv xv cR cT aN ba hs;go_enter func133,Tryz.ntmps133;go_wp2;go_loopw [3,5,6,9] (λo p q k wr=>∃i:Nat,i<=n/\k=ξ κ i/\Hid (wr.ownsRow w.heap.size 37 2 o (fq (l.take i)).length ((fq (l.take i)).flatMap Span.vs))/\Γ w.heap.size w wr) (λ_ _ _ k _=>n - (ϙ k).toNat)
 case atStart=>exact⟨0,ϡ _,rfl,ψ ⟨by simp[fq],.inl ⟨rfl,by simp[fq]⟩⟩,Ϗ _ _⟩
 case round=>
  obtain⟨i,hi,rfl,aG,hb⟩:=hrel;have HB:=ψ hb;have aI:=hb.size;by_cases al:i<n
  ·obtain⟨ad,x,cs,rfl,aC,hx,rfl,-,au⟩:=H2.e i al
   have st:Δ B w wr:=Δ.aK hb hB;have h0:=cC au st aC rfl;have h1:=bK au st aC 0 rfl;have q0:(ad.add (i * 2)).block<wr.heap.size:=by rw[cq];omega
   have HX:=ψ hx;have hxs:=HS.e x (ϩ hx);have Ut:=agq (l:=l.take i) λz hz=>HS.e z (List.mem_of_mem_take hz)
   have nE:(fq (l.take i)).length<=i:=Ϥ (agp _) (by simp;omega)
   have NX:=ψ (agr hx);clear hb hx au st;obtain⟨m,hm⟩:∃m,m=(fq (l.take i)).length:=⟨_,rfl⟩
   rw[<-hm] at aG nE;have HM:=ψ hm;clear hm;obtain⟨A9,c9,rfl,GX,py,MZ⟩:=II aG.e;unfold ϗ at MZ;have YG:=ψ Ut;clear Ut;rcases Nat.eq_zero_or_pos m with DN|rO
   ·subst DN
    clear GX;have HO:=ψ aG.e;have oR:Hid (((j5 (fq (l.take i)) x).flatMap Span.vs=(fq (l.take i)).flatMap Span.vs++ [ξ κ x.lo,ξ κ x.hi])/\(j5 (fq (l.take i)) x).length=0+1):=ψ (by
     rw[Ah7 HM.e.symm];exact⟨rfl,rfl⟩)
    clear aG;go_wp2;go_quiet (fail);go_wp2_with (first
     | (at_builtin
        refine Ahc _ rfl (.tmp 36) (.tmp 38) 57 rfl w.heap.size 37 i0 (η #[ξ κ 0,ξ κ 0]) 2 16 (U Tryz.underlying57) HI.e.1 HI.e.2.1 HI.e.2.2.1 HI.e.2.2.2 rfl (by decide) _ _ _ rfl (Ahq (Pa (Ahq HO.e _) nq) _) ⟨wr.heap.size+1,0,ν⟩ 1 1 [ξ κ x.lo,ξ κ x.hi] rfl rfl ?c1 ?c2 ?c3 ?c4 ?c5 ?_
        case c1=>(intro j u hu;match j,hu with|0,hu=>(simp at hu;subst hu;simp[go_sem,Ahe]) |1,hu=>(simp at hu;subst hu;simp[go_sem,Ahe]))
        case c2=>simp[Value.oneCell']
        case c3=>(simp only[ϗ];omega)
        case c4=>omega
        case c5=>(simp;omega)
        intro v' w1 cK dT _;have gW:=ψ cK;have gV:=ψ dT;clear cK dT))
    go_roundw;case rel=>exact⟨i+1,by omega,by go_num,ψ (by rw[NX.e,oR.e.1,oR.e.2];exact gW.e),
     ((HB.e.trans (jq ((Ϗ _ _).alloc aI _) nq)).trans ((Ϗ _ _).alloc (by simp;omega) _)).grown gV.e (by simp;omega) (λk hk=>ei HO.e k hk)⟩
    case measure=>simp[ϙ];omega
   ·obtain⟨k,rfl⟩:∃k,m=k+1:=⟨m - 1,by omega⟩
    obtain⟨g9,rfl,hg9,aoh,cur,tB⟩:=GX (by omega)
    clear rO;have vE:Ϛ.wrap (k:Int)=k:=by rw[IntWalk.i64_left];exact IntWalk.wrap64_in _ (by omega)
    obtain⟨y,hy⟩:∃y,(fq (l.take i)).getLast? =φ y:=by
     cases e:(fq (l.take i)).getLast? with
     |some y=>exact⟨y,rfl⟩
     |none=>
      rw[List.getLast?_eq_none_iff.1 e] at HM
      exact absurd HM.e (by simp)
    have hys:=YG.e y (Ah6 hy);have g1: wr.cell? ⟨g9,k * 2+1,ν⟩=φ (ξ κ y.hi):=by
     have h1:=agO hy;rw[<-HM.e] at h1;have:=vT aG.e _ _ h1;rwa[nu] at this
    have z1: wr.frozen? ⟨g9,k * 2+1,ν⟩=χ:=by rw[Go.Sim.xm (a:=⟨g9,k * 2+1,ν⟩) tB];rfl
    have HY:=ψ hy;have g9l:g9<=wr.heap.size:=by omega
    have HO:=ψ aG.e;clear hy tB aG;by_cases heq:y.hi+1=x.lo
    ·have hd:(y.hi+1==x.lo)=θ:=by simpa using heq
     have oR:Hid (((j5 (fq (l.take i)) x).flatMap Span.vs=((fq (l.take i)).flatMap Span.vs).set (k * 2+1) (ξ κ x.hi))/\(j5 (fq (l.take i)) x).length=k+1):=ψ (by
      have e:j5 (fq (l.take i)) x=(fq (l.take i)).dropLast++ [⟨y.lo,x.hi⟩]:=by unfold j5;rw[HY.e];simp[heq]
      rw[e];refine⟨?_,by simp[<-HM.e]⟩
      rw[<-agP HY.e,<-HM.e];rfl)
     go_wp2;go_quiet (fail);go_wp2;go_roundw;case rel=>exact⟨i+1,by omega,by go_num,ψ (by
          rw[NX.e,oR.e.1,oR.e.2];exact IG (Pa (Ahq HO.e _) nq) (by omega)),
      (HB.e.trans (jq ((Ϗ _ _).alloc aI _) nq)).setCell (by simp;omega) _⟩
     case measure=>simp[ϙ];omega
    ·have hd:(y.hi+1==x.lo)=χ:=by simpa using heq
     have oR:Hid (((j5 (fq (l.take i)) x).flatMap Span.vs=(fq (l.take i)).flatMap Span.vs++ [ξ κ x.lo,ξ κ x.hi])/\(j5 (fq (l.take i)) x).length=k+1+1):=ψ (by
      have e:j5 (fq (l.take i)) x=fq (l.take i)++ [x]:=by unfold j5;rw[HY.e];simp[heq]
      rw[e];exact⟨by simp[Span.vs],by simp[<-HM.e]⟩)
     go_wp2;go_quiet (fail);go_wp2_with (first
      | (at_builtin
         refine Ahc _ rfl (.tmp 36) (.tmp 38) 57 rfl w.heap.size 37 i0 (η #[ξ κ 0,ξ κ 0]) 2 16 (U Tryz.underlying57) HI.e.1 HI.e.2.1 HI.e.2.2.1 HI.e.2.2.2 rfl (by decide) _ _ _ rfl (Ahq (Pa (Ahq HO.e _) nq) _) ⟨wr.heap.size+1,0,ν⟩ 1 1 [ξ κ x.lo,ξ κ x.hi] rfl rfl ?c1 ?c2 ?c3 ?c4 ?c5 ?_
         case c1=>(intro j u hu;match j,hu with|0,hu=>(simp at hu;subst hu;simp[go_sem,Ahe]) |1,hu=>(simp at hu;subst hu;simp[go_sem,Ahe]))
         case c2=>simp[Value.oneCell']
         case c3=>(simp only[ϗ];omega)
         case c4=>omega
         case c5=>(simp;omega)
         intro v' w1 cK dT _;have gW:=ψ cK;have gV:=ψ dT;clear cK dT))
     go_roundw;case rel=>exact⟨i+1,by omega,by go_num,ψ (by rw[NX.e,oR.e.1,oR.e.2];exact gW.e),
      ((HB.e.trans (jq ((Ϗ _ _).alloc aI _) nq)).trans ((Ϗ _ _).alloc (by simp;omega) _)).grown gV.e (by simp;omega) (λk hk=>ei HO.e k hk)⟩
     case measure=>simp[ϙ];omega
  ·obtain rfl:i=n:=by omega
   go_wp2;go_ret;refine⟨_,rfl,?_,hb⟩
   have:=aG.e;rwa[Agf (Agw nh.e)] at this
def jv(x:bR)(n:Nat):List Span:=((ϸ n).filter λi:Nat=>decide (lh x.cM (i:Int) i=0)).map λi:Nat=>⟨(i:Int),i⟩
def GB(x:bR):List Span:=fq (jv x x.aH.toNat)
def ac0(x:bR)(n:Nat):jv x (n+1)=jv x n++(if lh x.cM (n:Int) n=0 then [⟨(n:Int),n⟩] else []):=by
 unfold jv;rw[Ah2,List.filter_append,Ahz];congr 1;by_cases h:lh x.cM (n:Int) n=0<;>simp[h]
def Tq(x:bR)(n:Nat):(jv x n).length<=n:=by
 unfold jv;rw[Ah8];exact Ϥ (Agd _ _) (by simp)
def acZ(x:bR){n:Nat}(hn:n<=1000):rl (jv x n):=by
 intro y hy;unfold jv at hy;obtain⟨i,hi,rfl⟩:=Ahx.1 hy;have:=Ahy.1 (List.mem_filter.1 hi).1;simp only;omega
def aaz{w:Ψ}{b:ao}{k:Nat}{x:bR}{pv bv tv:υ}{B:Nat}(hB:B<=w.heap.size)(ai:bg w B b pv bv tv)(h0:dF b=0)(hx:b.aF[k]?=φ x):
 ύ prog 47 #[η #[ξ κ b.ag,pv,bv,tv],ξ κ k] w λe w'=>∃v,e=Ω (μ #[v,ξ κ 0])/\w'.ownsRow w.heap.size 37 2 v (GB x).length ((GB x).flatMap Span.vs)/\Γ w.heap.size w w':=by
 obtain⟨i0,cR,cT,aN,ba⟩:=Ag9 VE;have HI:=ψ (ϐ cR (ϐ cT (ϐ aN ba)));have hv:=iy h0;have va:=hv.bp x (ϩ hx);have bT:=ψ ai;have H0:=ψ h0;obtain⟨A1,n1,c1,rfl,-⟩:=ai.pieces.Φ;obtain⟨A2,n2,c2,rfl,e2,h2,dW,r2⟩:=ai.aF.Φ;obtain⟨A3,n3,c3,rfl,-⟩:=ai.aJ.Φ;unfold ϗ at dW;have hk:k<n2:=by have:=(ϱ.1 hx).1;omega
 obtain⟨cI,x',jQ,rfl,fV,jz,⟨kv,rfl,UY,dj⟩,-,ef⟩:=r2 k hk;obtain rfl:x'=x:=by rw[jz] at hx;exact ϟ hx
 obtain⟨A4,n4,c4,rfl,-⟩:=dj.Φ;have st:=Δ.refl (B:=B) w;have b0:=cC ef st fV rfl;have b1:=bK ef st fV 0 rfl;have b2:=bK ef st fV 1 rfl;have HC:=ψ (ϐ b0 (ϐ b1 b2));have yV:=ψ dj;have La:Hid (1<=x'.aH/\x'.aH<=40):=ψ va.aH;have D6:(if bX k 0 ((n2:Int) - 1) then(0:Int) else 6)=0:=by rw[if_pos (by unfold bX;simp;omega)]
 have HT:=ψ D6;have sQ:Hid ((cI.add (k * 3)).block<w.heap.size):=ψ (by rw[cq];omega)
 clear ai e2 r2 hx jz ef dj cR cT aN ba b0 b1 b2 st hv h0 D6 va;go_enter func47,Tryz.ntmps47;go_wp2_with (first
  | (go_at_call 68;refine(ry (bT.e.still ((Δ.refl w).alloc hB _)) (by simp;omega) H0.e).mono ?_;rintro e w1 ⟨rfl,ae⟩
     have kb:Bk w1 w.heap.size 26 #[ξ κ b.ag,ζ A1 n1 c1,ζ (φ cI) n2 c2,ζ A3 n3 c3]:=(Bk.new w _ _).below ae (by simp)
     have b2: w1.cell? ⟨w.heap.size,2,ν⟩=φ (ζ (φ cI) n2 c2):=kb.cell 2;have aN:w.heap.size<w1.heap.size:=kb.lt;have ba:w.heap.size<=w1.heap.size:=by omega
     have cF:=cU (Ϗ _ _) ae (ϊ _);have aY:=ψ cF;have d0: w1.cell? (cI.add (k * 3))=φ (.string x'.name):=(cF.cell sQ.e).trans HC.e.1;have d1: w1.cell? ⟨(cI.add (k * 3)).block,(cI.add (k * 3)).off+(0+1),ν⟩=φ (ξ κ x'.aH):=(cF.cell (p:=⟨(cI.add (k * 3)).block,(cI.add (k * 3)).off+(0+1),ν⟩) sQ.e).trans HC.e.2.1;have d2: w1.cell? ⟨(cI.add (k * 3)).block,(cI.add (k * 3)).off+(1+1),ν⟩=φ (ζ A4 n4 c4):=(cF.cell (p:=⟨(cI.add (k * 3)).block,(cI.add (k * 3)).off+(1+1),ν⟩) sQ.e).trans HC.e.2.2;have dz:(cI.add (k * 3)).block<w1.heap.size:=by have:=sQ.e;omega
     clear kb ae cF)
  | (go_at_call 100;refine(there k n2 (by omega) w1 (by omega)).mono ?_;rintro e w2 ⟨rfl,rfl⟩
     rw[HT.e]))
 have rL:1<=x'.aH/\x'.aH<=40:=La.e;obtain⟨N,hN⟩:∃N:Nat,x'.aH=N:=⟨x'.aH.toNat,by omega⟩
 rw[hN] at rL |-
 have HN:=ψ hN;clear hN d0 d1 d2;go_loopw [9,10,11,32] (λo p q u wr=>∃i:Nat,i<=N/\u=ξ κ i/\Hid (wr.ownsRow (w1.heap.size+1) 37 2 o (jv x' i).length ((jv x' i).flatMap Span.vs))/\Hid (Γ (w1.heap.size+1) (w1.alloc (Ξ #[.string x'.name,ξ κ N,ζ A4 n4 c4] 59)) wr)) (λ_ _ _ u _=>N - (ϙ u).toNat)
 case atStart=>exact⟨0,ϡ _,rfl,ψ ⟨by simp[jv],.inl ⟨rfl,by simp[jv]⟩⟩,ψ (Ϗ _ _)⟩
 case round=>
  obtain⟨i,hi,rfl,aG,hb⟩:=hrel;have aI:w1.heap.size+1<=wr.heap.size:=by have:=hb.e.size;simpa using this
  have nV:Hid (Γ w1.heap.size w1 wr):=ψ (((Ϗ _ _).alloc (by omega) _).trans (hb.e.mono (by omega)))
  have kx:Bk wr w1.heap.size 59 #[.string x'.name,ξ κ N,ζ A4 n4 c4]:=(Bk.new w1 _ _).below hb.e (by omega)
  have k0:=kx.cell 0;have k1:=kx.cell 1;have k2:=kx.cell 2;have kl:w1.heap.size<wr.heap.size:=kx.lt;have Ii:w1.heap.size<=wr.heap.size:=by omega
  clear kx;by_cases al:i<N
  ·have qp:i<40:=by omega
   have ql:=Tq x' i;have NX:=ψ (ac0 x' i);have NO:Hid (∀o,Row (wr.alloc o) w.heap.size 2 Span.R (ζ A4 n4 c4) x'.cM):=ψ λo=>yV.e.more hB|>.still ((Δ.aK (aY.e.trans (nV.e.mono (by omega))) (ϊ _)).alloc (by omega) o) λ_ _ h=>h
   obtain⟨m,hm⟩:∃m,m=(jv x' i).length:=⟨_,rfl⟩
   rw[<-hm] at aG ql;have HM:=ψ hm;clear hm;obtain⟨A9,c9,rfl,GX,py,MZ⟩:=II aG.e;clear GX;unfold ϗ at MZ;by_cases Ax:lh x'.cM (i:Int) i=0
   ·have hd:(lh x'.cM (i:Int) i==0)=θ:=by simpa using Ax
    have oR:Hid (jv x' (i+1)=jv x' i++ [⟨(i:Int),i⟩]):=ψ (by rw[NX.e,if_pos Ax])
    clear Ax;go_wp2_with (first
     | (go_at_call 132;refine(met (NO.e _) (by simp;omega)).mono ?_;rintro e w2 ⟨rfl,ak⟩
        have ba:wr.heap.size<w2.heap.size:=by have:=ak.size;simp at this;omega
        have aoQ:wr.heap.size<=w2.heap.size:=by omega
        have ks:Bk w2 wr.heap.size 37 #[ξ κ i,ξ κ i]:=(Bk.new wr _ _).below ak (by simp)
        have s0:=ks.cell 0;have s1:=ks.cell 1;have rf:Hid (w2.ownsRow (w1.heap.size+1) 37 2 (ζ A9 m c9) m ((jv x' i).flatMap Span.vs)):=ψ (qO (Ahq aG.e _) ak (ϊ _));have dV:=ψ (cU hb.e ak aI);clear ak ks)
     | (at_builtin
        refine Ahc _ rfl (.tmp 42) (.tmp 44) 57 rfl (w1.heap.size+1) 37 i0 (η #[ξ κ 0,ξ κ 0]) 2 16 (U Tryz.underlying57) HI.e.1 HI.e.2.1 HI.e.2.2.1 HI.e.2.2.2 rfl (by decide) _ _ _ rfl (Ahq rf.e _) ⟨w2.heap.size,0,ν⟩ 1 1 [ξ κ i,ξ κ i] rfl rfl ?c1 ?c2 ?c3 ?c4 ?c5 ?_
        case c1=>(intro j u hu;match j,hu with|0,hu=>(simp at hu;subst hu;simp[go_sem,Ahe]) |1,hu=>(simp at hu;subst hu;simp[go_sem,Ahe]))
        case c2=>simp[Value.oneCell']
        case c3=>(simp only[ϗ];omega)
        case c4=>omega
        case c5=>(simp;omega)
        intro v' w3 cK dT _;have uC:=ψ cK;have iD:=ψ dT;clear cK dT))
    go_roundw;case rel=>exact⟨i+1,by omega,by go_num,ψ (by rw[oR.e,Agt,Af6,<-HM.e];exact uC.e),
     ψ ((dV.e.trans ((Ϗ _ _).alloc (by omega) _)).grown iD.e (by simp;omega) (λk hk=>ei rf.e k hk))⟩
    case measure=>simp[ϙ];omega
   ·have hd:(lh x'.cM (i:Int) i==0)=χ:=by simpa using Ax
    have oR:Hid (jv x' (i+1)=jv x' i):=ψ (by rw[NX.e,if_neg Ax,Ahs])
    clear Ax;go_wp2_with (first
     | (go_at_call 132;refine(met (NO.e _) (by simp;omega)).mono ?_;rintro e w2 ⟨rfl,ak⟩
        have rf:Hid (w2.ownsRow (w1.heap.size+1) 37 2 (ζ A9 m c9) m ((jv x' i).flatMap Span.vs)):=ψ (qO (Ahq aG.e _) ak (ϊ _));have dV:=ψ (cU hb.e ak aI);clear ak))
    go_roundw;case rel=>exact⟨i+1,by omega,by go_num,ψ (by rw[oR.e,<-HM.e];exact rf.e),dV⟩
    case measure=>simp[ϙ];omega
  ·obtain rfl:i=N:=by omega
   have YW:=ψ (lu (R:=Span.R) (f:=Span.vs) (l:=jv x' i) aG.e (λ_=>rfl) (λ_ _=>rfl))
   have Hz:=acZ x' (n:=i) (by omega)
   have rJ:=Tq x' i;clear hi;go_wp2_with (first
    | (go_at_call 133;refine(join YW.e (ϊ _) (by omega) Hz).mono ?_;rintro e w2 ⟨u,rfl,vX,ak⟩;have rf:=ψ vX;have dV:=ψ ak;clear vX ak))
   go_ret2
   refine⟨_,rfl,?_,?_⟩
   ·have:=rf.e.base (sV:=w.heap.size) (by omega)
    unfold GB;rw[HN.e];exact this
   ·exact aY.e.trans ((nV.e.mono (by omega)).trans (dV.e.mono (by omega)))
def vI(x:bR)(bears:Int)(N fr:Nat):Nat->Int->Int
 |0,m=>m
 |s+1,m=>if lh x.cM fr ((N:Int) - (s+1:Nat))>bears then m else vI x bears N fr s (max m ((N:Int) - (s+1:Nat) - fr+1))
def vJ(x:bR)(bears:Int)(N:Nat):Nat->Int
 |0=>0
 |fr+1=>vI x bears N fr (N - fr) (vJ x bears N fr)
def Im(x:bR)(bears:Int):Int:=vJ x bears x.aH.toNat x.aH.toNat
def ahi(x:bR)(bears:Int)(N fr:Nat)(hN:N<=40)(hf:fr<=N):∀(s:Nat) (m:Int),s<=N - fr->0<=m->m<=40->0<=vI x bears N fr s m/\vI x bears N fr s m<=40:=by
 intro s;induction s with
 |zero=>intro m _ h0 h1;exact⟨h0,h1⟩
 |succ s ih=>
  intro m hs h0 h1;unfold vI;split
  ·exact⟨h0,h1⟩
  ·refine ih _ (by omega) ?_ ?_<;>omega
def ahk(x:bR)(bears:Int)(N:Nat)(hN:N<=40):∀fr,fr<=N->0<=vJ x bears N fr/\vJ x bears N fr<=40:=by
 intro fr;induction fr with
 |zero=>intro _;exact⟨by unfold vJ;omega,by unfold vJ;omega⟩
 |succ fr ih=>
  intro h;have:=ih (by omega)
  exact ahi x bears N fr hN (by omega) _ _ (ϊ _) this.1 this.2
def V0{w:Ψ}{b:ao}{k:Nat}{x:bR}{bears:Int}{pv bv tv:υ}{B:Nat}(hB:B<=w.heap.size)(ai:bg w B b pv bv tv)(h0:dF b=0)(hx:b.aF[k]?=φ x)(MQ:bX bears 0 2=θ):
 ύ prog 48 #[η #[ξ κ b.ag,pv,bv,tv],ξ κ k,ξ κ bears] w λe w'=>e=Ω (μ #[ξ κ (Im x bears),ξ κ 0])/\Γ w.heap.size w w':=by
 have hv:=iy h0;have va:=hv.bp x (ϩ hx);have bT:=ψ ai;have H0:=ψ h0;obtain⟨A1,n1,c1,rfl,-⟩:=ai.pieces.Φ;obtain⟨A2,n2,c2,rfl,e2,h2,dW,r2⟩:=ai.aF.Φ;obtain⟨A3,n3,c3,rfl,-⟩:=ai.aJ.Φ;unfold ϗ at dW;have hk:k<n2:=by have:=(ϱ.1 hx).1;omega
 obtain⟨cI,x',jQ,rfl,fV,jz,⟨kv,rfl,UY,dj⟩,-,ef⟩:=r2 k hk;obtain rfl:x'=x:=by rw[jz] at hx;exact ϟ hx
 obtain⟨A4,n4,c4,rfl,-⟩:=dj.Φ;have st:=Δ.refl (B:=B) w;have b0:=cC ef st fV rfl;have b1:=bK ef st fV 0 rfl;have b2:=bK ef st fV 1 rfl;have HC:=ψ (ϐ b0 (ϐ b1 b2));have yV:=ψ dj;have D6:(if bX k 0 ((n2:Int) - 1) then(0:Int) else 6)=0:=by rw[if_pos (by unfold bX;simp;omega)]
 have HT:=ψ D6;have sQ:Hid ((cI.add (k * 3)).block<w.heap.size):=ψ (by rw[cq];omega)
 have La:Hid (1<=x'.aH/\x'.aH<=40):=ψ va.aH;have F3:=ψ MQ;clear ai e2 r2 hx jz ef dj b0 b1 b2 st hv h0 D6 va MQ;go_enter func48,Tryz.ntmps48;go_wp2_with (first
  | (go_at_call 68;refine(ry (bT.e.still ((Δ.refl w).alloc hB _)) (by simp;omega) H0.e).mono ?_;rintro e w1 ⟨rfl,ae⟩
     have kb:Bk w1 w.heap.size 26 #[ξ κ b.ag,ζ A1 n1 c1,ζ (φ cI) n2 c2,ζ A3 n3 c3]:=(Bk.new w _ _).below ae (by simp)
     have b2: w1.cell? ⟨w.heap.size,2,ν⟩=φ (ζ (φ cI) n2 c2):=kb.cell 2;have aN:w.heap.size<w1.heap.size:=kb.lt;have ba:w.heap.size<=w1.heap.size:=by omega
     have cF:=cU (Ϗ _ _) ae (ϊ _);have aY:=ψ cF;have d0: w1.cell? (cI.add (k * 3))=φ (.string x'.name):=(cF.cell sQ.e).trans HC.e.1;have d1: w1.cell? ⟨(cI.add (k * 3)).block,(cI.add (k * 3)).off+(0+1),ν⟩=φ (ξ κ x'.aH):=(cF.cell (p:=⟨(cI.add (k * 3)).block,(cI.add (k * 3)).off+(0+1),ν⟩) sQ.e).trans HC.e.2.1;have d2: w1.cell? ⟨(cI.add (k * 3)).block,(cI.add (k * 3)).off+(1+1),ν⟩=φ (ζ A4 n4 c4):=(cF.cell (p:=⟨(cI.add (k * 3)).block,(cI.add (k * 3)).off+(1+1),ν⟩) sQ.e).trans HC.e.2.2;have dz:(cI.add (k * 3)).block<w1.heap.size:=by have:=sQ.e;omega
     clear kb ae cF)
  | (go_at_call 100;refine(there k n2 (by omega) w1 (by omega)).mono ?_;rintro e w2 ⟨rfl,rfl⟩
     rw[HT.e])
  | (go_at_call 134;refine(inside _ _ _ w1).mono ?_;rintro e w2 ⟨rfl,rfl⟩;rw[F3.e]))
 have rL:1<=x'.aH/\x'.aH<=40:=La.e;obtain⟨N,hN⟩:∃N:Nat,x'.aH=N:=⟨x'.aH.toNat,by omega⟩
 rw[hN] at rL |-
 have HN:=ψ hN;clear hN d0 d1 d2;have xH:0<=bears/\bears<=2:=nJ F3.e;go_loopw [11,12,13,37] (λm p q u wr=>∃i:Nat,i<=N/\u=ξ κ i/\m=ξ κ (vJ x' bears N i)/\Hid (Γ (w1.heap.size+1) (w1.alloc (Ξ #[.string x'.name,ξ κ N,ζ A4 n4 c4] 59)) wr)) (λ_ _ _ u _=>N - (ϙ u).toNat)
 case atStart=>exact⟨0,ϡ _,rfl,rfl,ψ (Ϗ _ _)⟩
 case round=>
  obtain⟨wo,rfl⟩:∃wo:Ψ,wo=wr:=⟨_,rfl⟩
  obtain⟨i,hi,rfl,rfl,hb⟩:=hrel;by_cases al:i<N
  ·go_wp2
   go_step3
   go_wp2
   go_step3
   go_wp2;have HBo:Hid (Γ w1.heap.size w1 wo):=ψ (((Ϗ _ _).alloc (by omega) _).trans (hb.e.mono (by omega)))
   have DN:=ahk x' bears N (by have:=rL.2;omega) i hi
   go_loopw [11,13] (λm u wr=>∃(j:Nat) (q:Int),i<=j/\j<=N/\u=ξ κ j/\m=ξ κ q/\0<=q/\q<=40/\Hid (vI x' bears N i (N - j) q=vJ x' bears N (i+1))/\Hid (Γ (w1.heap.size+1) (w1.alloc (Ξ #[.string x'.name,ξ κ N,ζ A4 n4 c4] 59)) wr)) (λ_ u _=>N - (ϙ u).toNat)
   case atStart=>exact⟨i,_,ϊ _,hi,rfl,rfl,DN.1,DN.2,ψ rfl,hb⟩
   case round=>
    obtain⟨j,q,vo,hj,rfl,rfl,NV,tH,pb,Ai⟩:=hrel;have aI:w1.heap.size+1<=wr.heap.size:=by have:=Ai.e.size;simpa using this
    have nV:Hid (Γ w1.heap.size w1 wr):=ψ (((Ϗ _ _).alloc (by omega) _).trans (Ai.e.mono (by omega)))
    have kx:Bk wr w1.heap.size 59 #[.string x'.name,ξ κ N,ζ A4 n4 c4]:=(Bk.new w1 _ _).below Ai.e (by omega)
    have k0:=kx.cell 0;have k1:=kx.cell 1;have k2:=kx.cell 2;have kl:w1.heap.size<wr.heap.size:=kx.lt;have Ii:w1.heap.size<=wr.heap.size:=by omega
    clear kx;by_cases nE:j<N
    ·have NO:Hid (Row wr w.heap.size 2 Span.R (ζ A4 n4 c4) x'.cM):=ψ (yV.e.more hB|>.still (Δ.aK (aY.e.trans (nV.e.mono (by omega))) (ϊ _)) λ_ _ h=>h)
     obtain⟨M,hM⟩:∃M,M=lh x'.cM (i:Int) j:=⟨_,rfl⟩
     have HM:=ψ hM;clear hM;by_cases As:M>bears
     ·go_wp2_with (first
       | (go_at_call 132;refine(met NO.e (by omega)).mono ?_;rintro e w2 ⟨rfl,ak⟩;rw[<-HM.e];have dV:=ψ (chain Ai.e ak aI);clear ak))
      rw[Exit.noGoto_normal];go_wp2;go_roundw;case rel=>exact⟨i+1,by omega,by go_num,by
       congr 1;rw[<-pb.e];obtain⟨d,hd⟩:∃d,N - j=d+1:=⟨N - j - 1,by omega⟩
       rw[hd];unfold vI;have e:(N:Int) - ((d+1:Nat):Int)=j:=by omega
       rw[e,<-HM.e,if_pos As],dV⟩
      case measure=>simp[ϙ];omega
     ·go_wp2_with (first
       | (go_at_call 132;refine(met NO.e (by omega)).mono ?_;rintro e w2 ⟨rfl,ak⟩;rw[<-HM.e];have dV:=ψ (chain Ai.e ak aI);clear ak))
      go_roundw;case rel=>exact⟨j+1,max q (j - i+1),by omega,by omega,by go_num,by go_num,by omega,by omega,ψ (by
       rw[<-pb.e];obtain⟨d,hd⟩:∃d,N - j=d+1:=⟨N - j - 1,by omega⟩
       rw[hd,show N - (j+1)=d by omega]
       conv=>rhs;unfold vI
       have e:(N:Int) - ((d+1:Nat):Int)=j:=by omega
       rw[e,<-HM.e,if_neg (by omega)]),dV⟩
      case measure=>simp[ϙ];omega
    ·obtain rfl:j=N:=by omega
     go_wp2;rw[Exit.noGoto_normal];go_wp2;go_roundw;case rel=>exact⟨i+1,by omega,by go_num,by
      congr 1;rw[<-pb.e,Nat.sub_self];rfl,Ai⟩
     case measure=>simp[ϙ];omega
  ·obtain rfl:i=N:=by omega
   go_wp2
   go_ret2
   refine⟨I0 ?_ rfl,?_⟩
   ·unfold Im;rw[HN.e];rfl
   ·exact aY.e.trans (((((Ϗ _ _).alloc (by omega) _).trans (hb.e.mono (by omega)))).mono (by omega))
def fK(l:List Int):an:=⟨l[0]?.getD 0,l[1]?.getD 0,l[2]?.getD 0⟩
def Xn:(prog.info? 3).map (λi=>i.size)=φ 1:=by rw[pB];kernel_rfl
def aa0(l:List Int)(h3:l.length<=3):(((#[ξ κ 0,ξ κ 0,ξ κ 0]:Array υ).toList.take 0++l.map (ξ κ)++(#[ξ κ 0,ξ κ 0,ξ κ 0]:Array υ).toList.drop (0+l.length)).toArray:Array υ)=#[ξ κ (fK l).a,ξ κ (fK l).b,ξ κ (fK l).c]:=by
 rcases l with _| ⟨a,_| ⟨b,_| ⟨c,_| ⟨d,l⟩⟩⟩⟩
 ·simp[fK]
 ·simp[fK]
 ·simp[fK]
 ·simp[fK]
 ·simp at h3
def aaZ{l:List Int}{A:Option ϕ}{n c B:Nat}{w W:Ψ}(hv:Row w B 1 cH (ζ A n c) l)(hB:B<=w.heap.size)(h3:l.length<=3){s:Nat}(hs:s=w.heap.size)
 (hW:W=(w.alloc (Ξ #[ξ κ 0,ξ κ 0,ξ κ 0] 128)).alloc (Ξ #[ξ κ 0,ξ κ 0,ξ κ 0] 128)):
 ∃W',(Builtin.copy_ #[33,33] 3 #[ζ (φ ⟨s+1,0,ν⟩) 3 3,ζ A n c]).run prog W=.ok (goInt n) W'/\Bk W' s 128 #[ξ κ 0,ξ κ 0,ξ κ 0]/\Bk W' (s+1) 128 #[ξ κ (fK l).a,ξ κ (fK l).b,ξ κ (fK l).c]/\Γ w.heap.size w W':=by
 obtain⟨A',n',c',e,hl,dX,cX,hr⟩:=hv.Φ;cases e;have qh:Γ w.heap.size w W:=by rw[hW];exact((Ϗ _ _).alloc (ϊ _) _).alloc (by simp) _
 have k0:Bk W s 128 #[ξ κ 0,ξ κ 0,ξ κ 0]:=by rw[hW,hs];exact(Bk.new w _ _).alloc _
 have k1:Bk W (s+1) 128 #[ξ κ 0,ξ κ 0,ξ κ 0]:=by rw[hW,hs];exact Bk.cG (by simp) _ _
 rcases Nat.eq_zero_or_pos n with h0|hp
 ·subst h0
  have:l=[]:=Ah7 hl;subst this;exact⟨W,run_copy_none W 33 33 3 3 _ _ 3 3 0 c (U Tryz.underlying33) Xn (by simp),k0,k1,qh⟩
 ·obtain⟨ad,_,_,rfl,TT,_⟩:=hr 0 hp
  have afz:∀(j:Nat) (v:υ),(l.map (ξ κ))[j]?=φ v-> W.cell? (ad.add j)=φ v:=by
   intro j v hj;rw[Ah9] at hj
   obtain⟨x,hx,rfl⟩:=Option.map_eq_some_iff.1 hj;obtain⟨Cs,x',cs,e,aC,jz,rfl,-,au⟩:=hr j (by have:=(ϱ.1 hx).1;omega)
   cases e;rw[hx] at jz;cases jz
   have:=au 0 _ rfl;rw[Nat.mul_one,Nat.add_zero] at this;exact(qh.cell (by rw[cq];omega)).trans this
  have bz:=run_copy_row (P:=prog) W 33 33 3 3 (s+1) 0 3 3 ad n c #[ξ κ 0,ξ κ 0,ξ κ 0] 128 (l.map (ξ κ)) (U Tryz.underlying33) Xn k1 (by rw[Ah8,hl];exact(Aif (by omega)).symm) afz (by simp;omega) (λv hv=>by
   obtain⟨x,_,rfl⟩:=Ahx.1 hv;rfl)
  refine⟨_,by rw[bz,Ah8,hl],?_,?_,?_⟩
  ·exact(setRow_other _ _ _ _ (by omega)).trans k0
  ·refine(setRow_heap _ _ _ _ _ _ k1).trans ?_
   rw[<-hl];rw[aa0 l h3]
  ·exact below_setRow qh (by omega) _
def ag7{l:List Int}{v:υ}{w:Ψ}{B:Nat}(hv:Row w B 1 cH v l)(hB:B<=w.heap.size)(h3:l.length<=3):
 ύ prog 128 #[v] w λe w'=>e=Ω (η #[ξ κ (fK l).a,ξ κ (fK l).b,ξ κ (fK l).c])/\Γ w.heap.size w w':=by
 obtain⟨A,n,c,rfl,-⟩:=hv.Φ;obtain⟨W',o4,k0,k1,hb⟩:=aaZ (w:=w) hv hB h3 rfl rfl;have r0:=k1.cell 0;have r1:=k1.cell 1;have r2:=k1.cell 2;have s0:=k0.cell 0;have s1:=k0.cell 1;have s2:=k0.cell 2;have z0:=k0.frozen 0;have z1:=k0.frozen 1;have z2:=k0.frozen 2;have l0:=k0.lt;have l1:=k1.lt;have l0':w.heap.size<=W'.heap.size:=by omega
 have yB:w.heap.size+1<=W'.heap.size:=by omega
 have HB:=ψ hb;have HK:=ψ k0;clear hv hb k0 k1;go_enter func128,Tryz.ntmps128;go_wp2;have k3:=((HK.e.set 0 (ξ κ (fK l).a)).set 1 (ξ κ (fK l).b)).set 2 (ξ κ (fK l).c);have t0:=k3.cell 0;have t1:=k3.cell 1;have t2:=k3.cell 2;simp at t0 t1 t2;have fw:=((HB.e.setCell (p:=⟨w.heap.size,0,ν⟩) (ϊ _) (ξ κ (fK l).a)).setCell (p:=⟨w.heap.size,1,ν⟩) (ϊ _) (ξ κ (fK l).b)).setCell (p:=⟨w.heap.size,2,ν⟩) (ϊ _) (ξ κ (fK l).c);refine Ahb (v:=η #[ξ κ (fK l).a,ξ κ (fK l).b,ξ κ (fK l).c]) (by simp[results,Tryz.results128,go_sem,t0,t1,t2]) rfl ⟨rfl,fw⟩
def akm(w:Ψ)(a b:Int)(e:ό):Row (w.alloc (Ξ #[ξ κ a,ξ κ b] e)) (w.heap.size+1) 1 cH (ζ (φ ⟨w.heap.size,0,ν⟩) 2 2) [a,b]:=
 yX (xs:=[a,b]) (sz:=1) (R:=cH) (oX:=[[ξ κ a],[ξ κ b]]) (Bk.new w _ _) (by omega) (by simp) rfl (by simp) (λi x c hx hc=>by
  match i with
  |0=>cases hx;cases hc;exact⟨rfl,rfl⟩
  |1=>cases hx;cases hc;exact⟨rfl,rfl⟩
  |i+2=>simp at hx) (λi c hc j u hu=>by
  match i with
  |0=>
   cases hc;match j with
   |0=>exact hu
   |j+1=>simp at hu
  |1=>
   cases hc;match j with
   |0=>exact hu
   |j+1=>simp at hu
  |i+2=>simp at hc) (c:=2) (by simp) (by omega)
def ahl{b:ao}{l:List Int}(h:qL b l=0):l.length=b.pieces.length/\∀n∈l,1<=n/\n<=40:=by
 unfold qL at h;split at h
 ·contradiction
 ·rename_i h1
  split at h
  ·contradiction
  ·rename_i h2
   refine⟨by simpa using h1,λn hn=>?_⟩
   have h2:l.any (λn=> !bX n 1 40)=χ:=by simpa using h2
   have:=List.any_eq_false.1 h2 n hn;exact nJ (by simpa using this)
def ag9{l:List Int}(h:∀n∈l,1<=n/\n<=40):(fK l).Ok:=by
 have key:∀i:Nat,0<=(l[i]?.getD 0:Int)/\(l[i]?.getD 0:Int)<=1000:=by
  intro i;cases e:l[i]? with
  |none=>exact⟨by simp,by simp⟩
  |some x=>
   have:=h x (ϩ e);simp only[Option.getD_some];omega
 intro i;have k0:=key 0;have k1:=key 1;have k2:=key 2;unfold an.at fK;match i with
 |0=>exact k0
 |1=>exact k1
 |i+2=>exact k2
def fW(w:Ψ)(s:Int)(p q r:υ):Ψ:=w.alloc (Ϧ #[ξ κ s,p,q,r] 117)
def acw(w:Ψ)(s:Int)(p q r:υ):Γ w.heap.size w (fW w s p q r):=(Ϗ _ _).alloc (ϊ _) _
def Ta{w:Ψ}{b:ao}{l:List Int}{kD:List Cut}{pv bv tv lv cv:υ}{B:Nat}(hB:B<=w.heap.size)(ai:bg w B b pv bv tv)(hl:Row w B 1 cH lv l)(hc:Row w B 2 Cut.R cv kD)(h0:dF b=0)(h:scan (λ_ s=>s) [] [qL b l,ez b kD]=0):
 ύ prog 43 #[η #[ξ κ b.ag,pv,bv,tv],lv,cv] w λe w'=>e=Ω (μ #[.bool (fp b (fK l) kD),ξ κ 0])/\Γ w.heap.size w w':=by
 have bT:=ψ ai;have HL:=ψ hl;have HC:=ψ hc;have H0:=ψ h0;obtain⟨A1,n1,c1,rfl,-⟩:=ai.pieces.Φ;obtain⟨A2,n2,c2,rfl,-⟩:=ai.aF.Φ;obtain⟨A3,n3,c3,rfl,-⟩:=ai.aJ.Φ;obtain⟨A4,n4,c4,rfl,-⟩:=hl.Φ;obtain⟨A5,n5,c5,rfl,-⟩:=hc.Φ;obtain⟨s1,cZ⟩:∃s,s=qL b l:=⟨_,rfl⟩
 obtain⟨s2,dD⟩:∃s,s=ez b kD:=⟨_,rfl⟩
 rw[<-cZ,<-dD] at h;obtain⟨S,hS⟩:∃S,S=scan (λ_ s=>s) [] [s1,s2]:=⟨_,rfl⟩
 rw[<-hS] at h;have HS:=ψ (ϐ hS (ϐ cZ dD));have hd:(S !=0)=χ:=by simp[h]
 clear ai hl hc h0 hS cZ dD;go_enter func43,Tryz.ntmps43;go_wp2_with (first
  | (go_at_call 68;refine(ry (bT.e.still ((Δ.refl w).alloc hB _)) (by simp;omega) H0.e).mono ?_;rintro e w1 ⟨rfl,ae⟩
     have kb:Bk w1 w.heap.size 26 #[ξ κ b.ag,ζ A1 n1 c1,ζ A2 n2 c2,ζ A3 n3 c3]:=(Bk.new w _ _).below ae (by simp)
     have b0:=kb.cell 0;have b1:=kb.cell 1;have b2:=kb.cell 2;have b3:=kb.cell 3;have aY:=ψ (cU (Ϗ _ _) ae (ϊ _));clear kb ae))
 have HW:=ψ (acw w1 b.ag (ζ A1 n1 c1) (ζ A2 n2 c2) (ζ A3 n3 c3));have kw:Bk (fW w1 b.ag (ζ A1 n1 c1) (ζ A2 n2 c2) (ζ A3 n3 c3)) w1.heap.size 117 #[ξ κ b.ag,ζ A1 n1 c1,ζ A2 n2 c2,ζ A3 n3 c3]:=Bk.new w1 _ _;have k0:=kw.cell 0;have k1:=kw.cell 1;have k2:=kw.cell 2;have k3:=kw.cell 3;have HZ:=ψ kw.lt;change Code.wp _ _ _ _ (fW w1 b.ag (ζ A1 n1 c1) (ζ A2 n2 c2) (ζ A3 n3 c3));clear kw b0 b1 b2 b3;generalize fW w1 b.ag (ζ A1 n1 c1) (ζ A2 n2 c2) (ζ A3 n3 c3)=W3 at HW k0 k1 k2 k3 HZ |-
 have wO:Hid (Γ (w1.heap.size+1) W3 W3.drew):=ψ (iY (Ϗ _ _));have hle:B<=w1.heap.size:=by have:=aY.e.size;omega
 have CL:Hid (∀w',Γ (w1.heap.size+1) W3 w'->ύ prog 127 #[η #[ξ κ b.ag,ζ A1 n1 c1,ζ A2 n2 c2,ζ A3 n3 c3],ζ A4 n4 c4] w' λe bq=>e=Ω (ξ κ s1)/\Γ (w1.heap.size+1) W3 bq):=ψ λw' hw=>by
  have st:Δ B w w':=(Δ.aK aY.e hB).trans ((Δ.aK HW.e hle).trans (Δ.aK hw (by omega)))
  have aI:=hw.size;have:=HZ.e;refine(ahh (B:=B) (bT.e.still st) (HL.e.still st λ_ _ h=>h) (by omega)).mono ?_
  rintro e bq ⟨rfl,hb⟩;exact⟨aX HS.e.2.1.symm,hw.trans (hb.mono (by omega))⟩
 have CC:Hid (∀w',Γ (w1.heap.size+1) W3 w'->ύ prog 109 #[η #[ξ κ b.ag,ζ A1 n1 c1,ζ A2 n2 c2,ζ A3 n3 c3],ζ A5 n5 c5] w' λe bq=>e=Ω (ξ κ s2)/\Γ (w1.heap.size+1) W3 bq):=ψ λw' hw=>by
  have st:Δ B w w':=(Δ.aK aY.e hB).trans ((Δ.aK HW.e hle).trans (Δ.aK hw (by omega)))
  have aI:=hw.size;have:=HZ.e;refine(LX (B:=B) (bT.e.still st) (HC.e.still st λ_ _ h=>h) (by omega)).mono ?_
  rintro e bq ⟨rfl,hb⟩;exact⟨aX HS.e.2.2.symm,hw.trans (hb.mono (by omega))⟩
 have CE:∀ {w':Ψ} {j:Nat} {v:υ},Γ (w1.heap.size+1) W3 w'-> W3.cell? ⟨w1.heap.size,j,ν⟩=φ v-> w'.cell? ⟨w1.heap.size,j,ν⟩=φ v:=λhb hv=>(hb.cell (Nat.lt_succ_self _)).trans hv
 have AL:∀ {w':Ψ},Γ (w1.heap.size+1) W3 w'->∀o,Γ (w1.heap.size+1) W3 (w'.alloc o):=λhb o=>hb.alloc (by have:=hb.size;have:=HZ.e;omega) o
 go_region_held3 (λw'=> w'.cell? ⟨w1.heap.size,0,ν⟩=φ (ξ κ b.ag)/\ w'.cell? ⟨w1.heap.size,1,ν⟩=φ (ζ A1 n1 c1)/\ w'.cell? ⟨w1.heap.size,2,ν⟩=φ (ζ A2 n2 c2)/\ w'.cell? ⟨w1.heap.size,3,ν⟩=φ (ζ A3 n3 c3)/\Hid (Γ (w1.heap.size+1) W3 w'))
  (first|exact⟨k0,k1,k2,k3,wO⟩ |exact⟨CE oQ.e k0,CE oQ.e k1,CE oQ.e k2,CE oQ.e k3,oQ⟩ |exact⟨CE th.e k0,CE th.e k1,CE th.e k2,CE th.e k3,th⟩ |exact⟨CE (AL oQ.e _) k0,CE (AL oQ.e _) k1,CE (AL oQ.e _) k2,CE (AL oQ.e _) k3,ψ (AL oQ.e _)⟩ |exact⟨CE (AL th.e _) k0,CE (AL th.e _) k1,CE (AL th.e _) k2,CE (AL th.e _) k3,ψ (AL th.e _)⟩)
  (first
    | (go_at_call 127
       refine(CL.e _ ?hx).mono ?_
       case hx=>first|exact oQ.e|exact wO.e
       rintro e w4 ⟨rfl,cO⟩;have th:=ψ cO;clear cO)
    | (go_at_call 109
       refine(CC.e _ ?hx).mono ?_
       case hx=>first|exact th.e|exact wO.e
       rintro e w5 ⟨rfl,eR⟩;have oQ:=ψ eR;clear eR)
    | (go_at_call 126
       refine(first (akm _ _ _ _)).mono ?_
       rintro e w6 ⟨rfl,rfl⟩;rw[<-HS.e.1]))
 go_wp2;have tH:qL b l=0/\ez b kD=0:=by
  have h:=HS.e.1;have hz:(scan (λ_ s=>s) [] [s1,s2]:Int)=0:=by
   have G3:S=0:=by simpa using hd
   rw[<-h,G3]
  unfold scan at hz;split at hz
  ·contradiction
  ·rename_i h1
   unfold scan at hz;split at hz
   ·contradiction
   ·rename_i h2
    exact⟨by rw[<-HS.e.2.1];simpa using h1,by rw[<-HS.e.2.2];simpa using h2⟩
 have dh:=GI (iy H0.e) tH.2;have pb:=ahl tH.1;have Ny:=ag9 pb.2;have hv:=iy H0.e;have ij:=hv.np.2;have Au:l.length<=3:=by rw[pb.1];exact ij
 obtain⟨W5,MK⟩:∃W5,W5=w5.alloc (Ϧ #[ϝ Ϛ s1,ϝ Ϛ s2] 30):=⟨_,rfl⟩
 have eR:Γ (w1.heap.size+1) W3 W5:=by rw[MK];exact AL oQ.e _
 rw[<-MK];have mi:=ψ eR;have j0:=CE eR k0;have j1:=CE eR k1;have j2:=CE eR k2;have j3:=CE eR k3;have HJ:Hid (Γ (w1.heap.size+1) W3 W5.drew):=ψ (iY eR);obtain⟨L,hL⟩:∃L,L=fK l:=⟨_,rfl⟩
 rw[<-hL] at Ny;have uB:=ψ hL;have Yp:Hid (∀w',Γ (w1.heap.size+1) W3 w'->ύ prog 128 #[ζ A4 n4 c4] w' λe bq=>e=Ω (η #[ξ κ L.a,ξ κ L.b,ξ κ L.c])/\Γ (w1.heap.size+1) W3 bq):=ψ λw' hw=>by
  have st:Δ B w w':=(Δ.aK aY.e hB).trans ((Δ.aK HW.e hle).trans (Δ.aK hw (by omega)))
  have aI:=hw.size;have:=HZ.e;refine(ag7 (B:=B) (HL.e.still st λ_ _ h=>h) (by omega) Au).mono ?_
  rintro e bq ⟨rfl,hb⟩;rw[<-uB.e];exact⟨rfl,hw.trans (hb.mono (by omega))⟩
 have CD:Hid (∀w',Γ (w1.heap.size+1) W3 w'->ύ prog 110 #[η #[ξ κ b.ag,ζ A1 n1 c1,ζ A2 n2 c2,ζ A3 n3 c3],η #[ξ κ L.a,ξ κ L.b,ξ κ L.c],ζ A5 n5 c5] w' λe bq=>e=Ω (.bool (fp b L kD))/\Γ (w1.heap.size+1) W3 bq):=ψ λw' hw=>by
  have st:Δ B w w':=(Δ.aK aY.e hB).trans ((Δ.aK HW.e hle).trans (Δ.aK hw (by omega)))
  have aI:=hw.size;have:=HZ.e;refine(L3 (B:=B) (bT.e.still st) (HC.e.still st λ_ _ h=>h) (by omega) dh.len dh.three dh.kD Ny dh.ag).mono ?_
  rintro e bq ⟨rfl,hb⟩;exact⟨rfl,hw.trans (hb.mono (by omega))⟩
 have KK:=ψ (ϐ k0 (ϐ k1 (ϐ k2 k3)));clear dh pb Ny hv ij Au MK eR k0 k1 k2 k3 tH hL;go_region_held3 (λw'=> w'.cell? ⟨w1.heap.size,0,ν⟩=φ (ξ κ b.ag)/\ w'.cell? ⟨w1.heap.size,1,ν⟩=φ (ζ A1 n1 c1)/\ w'.cell? ⟨w1.heap.size,2,ν⟩=φ (ζ A2 n2 c2)/\ w'.cell? ⟨w1.heap.size,3,ν⟩=φ (ζ A3 n3 c3)/\Hid (Γ (w1.heap.size+1) W3 w'))
  (first|exact⟨j0,j1,j2,j3,HJ⟩ |exact⟨i0,i1,i2,i3,HI⟩ |exact⟨CE HN.e KK.e.1,CE HN.e KK.e.2.1,CE HN.e KK.e.2.2.1,CE HN.e KK.e.2.2.2,HN⟩)
  (first
    | (go_at_call 128
       refine(Yp.e _ ?hx).mono ?_
       case hx=>exact HJ.e
       rintro e w7 ⟨rfl,jx⟩;have i0:=CE jx KK.e.1;have i1:=CE jx KK.e.2.1;have i2:=CE jx KK.e.2.2.1;have i3:=CE jx KK.e.2.2.2;have HI:=ψ jx;clear jx)
    | (go_at_call 110
       refine(CD.e _ ?hx).mono ?_
       case hx=>exact HI.e
       rintro e w8 ⟨rfl,Ah⟩;have HN:=ψ Ah;clear Ah))
 go_wp2
 go_ret2
 exact⟨by rw[uB.e];rfl,aY.e.trans ((HW.e.mono (by have:=aY.e.size;omega)).trans (HN.e.mono (by have:=aY.e.size;omega)))⟩
def bg.more{w:Ψ}{B B':Nat}{b:ao}{pv bv tv:υ}(h:bg w B b pv bv tv)(hB:B<=B'):bg w B' b pv bv tv:=
 ⟨h.pieces.more hB,(h.aF.more hB).still (Δ.refl w) λ_ _ ⟨kv,e1,e2,e3⟩=>⟨kv,e1,e2,e3.more hB⟩,(h.aJ.more hB).still (Δ.refl w) λ_ _ ⟨pv,e1,e3⟩=>⟨pv,e1,e3.more hB⟩⟩
def RA{b:ao}{l:List Cut}{pv bv tv lv:υ}{w:Ψ}{B g:Nat}(hB:B<=w.heap.size)(ai:bg w B b pv bv tv)(hl:Row w B 2 Cut.R lv l)(hg:Bk w g 27 #[lv]):sK b pv bv tv w 113 #[π (φ ⟨g,0,ν⟩)] (ez b l):=by
 have bT:=ψ ai;have HL:=ψ hl;refine⟨call113,λ_ W hW=>?_⟩
 have k7:=hg.lt;obtain⟨A,n,c,rfl,-⟩:=hl.Φ;have g0: W.cell? ⟨g,0,ν⟩=φ (ζ A n c):=(hg.below hW k7).cell 0;have hz:g<W.heap.size:=by have:=hW.size;omega
 have Vs:g<=W.heap.size:=by omega
 have sW:Δ B w W:=Δ.aK hW hB;have TL:B<=W.heap.size:=by have:=hW.size;omega
 obtain⟨A1,n1,c1,rfl,-⟩:=ai.pieces.Φ;obtain⟨A2,n2,c2,rfl,-⟩:=ai.aF.Φ;obtain⟨A3,n3,c3,rfl,-⟩:=ai.aJ.Φ;have call:=LX (w:=W.alloc (Ξ #[ξ κ b.ag,ζ A1 n1 c1,ζ A2 n2 c2,ζ A3 n3 c3] 117)) (B:=B) (bT.e.still (sW.alloc TL _)) (HL.e.still (sW.alloc TL _) λ_ _ h=>h) (by simp;omega)
 have aB:=ψ call;clear ai hl hW hg sW call;refine app1 ?_
 go_enter func113,Tryz.ntmps113;go_wp2_with (first
  | (go_at_call 109;refine aB.e.mono ?_;rintro e w1 ⟨rfl,ae⟩))
 go_ret;exact⟨aX rfl,cU (Ϗ _ _) ae (ϊ _)⟩
def FF(b:ao)(G:an)(l:List Cut)(out:List Int)(i:Nat):List Int:=match l[i]? with
 |some c=>out.set c.bp.toNat (min (out[c.bp.toNat]?.getD 0) ((mJ b c.bp.toNat:Int) - c.from_ - G.at i))
 |none=>out
def mS(b:ao)(l:List Cut)(n:Nat):List Int:=(ϸ n).foldl (FF b (cz (aD b)) l) (b.aF.map (·.aH))
def alB(b:ao)(G:an)(l:List Cut)(out:List Int)(i:Nat):(FF b G l out i).length=out.length:=by
 unfold FF;split<;>simp
def Xt(b:ao)(l:List Cut)(n:Nat):mS b l (n+1)=FF b (cz (aD b)) l (mS b l n) n:=by
 unfold mS;rw[Ah2,List.foldl_append];rfl
def Xs(b:ao)(l:List Cut)(n:Nat):(mS b l n).length=b.aF.length:=by
 induction n with
 |zero=>simp[mS]
 |succ n ih=>rw[Xt,alB,ih]
def agx{w3 wq:Ψ}{g:Nat}(h:w3.heap.size<wq.heap.size)(hg:g<w3.heap.size):g<wq.heap.size:=by omega
def BO(b:ao)(l:List Cut):List Int:=mS b l l.length
def alD{w:Ψ}{b:ao}{l:List Cut}{pv bv tv lv:υ}{B:Nat}(hB:B<=w.heap.size)(ai:bg w B b pv bv tv)(hl:Row w B 2 Cut.R lv l)(h:cj b (ez b l)=0)(D4:FJ b (aD b) l=θ):
 ύ prog 31 #[η #[ξ κ b.ag,pv,bv,tv],lv] w λe w'=>∃v,e=Ω (μ #[v,ξ κ 0])/\w'.ownsRow w.heap.size 3 1 v (BO b l).length ((BO b l).map (ξ κ))/\Γ w.heap.size w w':=by
 have st:Δ B w ((w.alloc (Ξ #[ξ κ b.ag,pv,bv,tv] 26)).alloc (Ξ #[lv] 27)):=((Δ.refl w).alloc hB _).alloc (by simp;omega) _
 have aB:=ψ (yL (w:=((w.alloc (Ξ #[ξ κ b.ag,pv,bv,tv] 26)).alloc (Ξ #[lv] 27))) (B:=B) (by simp;omega) (ai.still st) (RA (by simp;omega) (ai.still st) (hl.still st λ_ _ h=>h) (Bk.cG (g:=w.heap.size+1) (by simp) _ _)) h)
 have hz:=pq h;have hv:=iy hz.1;have OK:=ψ (ϐ (GI hv hz.2.1) (uG hv));have bT:=ψ ai;have uB:=ψ hl;have HV:=ψ hv;have lQ:b.aF.length<=3:=hv.nb;have PY:=ψ D4;obtain⟨i0,cR,cT,aN,ba⟩:=Ag9 Oo;have dv:=ψ (ϐ cR (ϐ cT (ϐ aN ba)));obtain⟨A1,n1,c1,rfl,-⟩:=ai.pieces.Φ;obtain⟨A2,n2,c2,rfl,e2,h2,dW,r2⟩:=ai.aF.Φ;obtain⟨A3,n3,c3,rfl,-⟩:=ai.aJ.Φ;obtain⟨A,n,c,rfl,e5,h5,GW,r5⟩:=hl.Φ;have R2:=ψ r2;have R5:=ψ r5;have wJ:=ψ (ϐ e2 e5);unfold ϗ at dW GW;have UT:n2<=3:=by omega
 clear ai hl st hz hv h cR cT aN ba r2 r5 e2 e5 D4 lQ;go_enter func31,Tryz.ntmps31;go_wp2_with (first
  | (go_at_call 98;refine aB.e.mono ?_;rintro e w1 ⟨sv,rfl,aG,ae⟩
     obtain⟨A9,n9,c9,rfl,cY,nG,py,iN⟩:=aG.row.Φ;have HO:=ψ aG;have kb:Hid (Bk w1 w.heap.size 26 #[ξ κ b.ag,ζ A1 n1 c1,ζ A2 n2 c2,ζ A3 n3 c3]):=ψ (((Bk.new w _ _).alloc _).below ae (by simp;omega))
     have kl:Hid (Bk w1 (w.heap.size+1) 27 #[ζ A n c]):=ψ ((Bk.cG (by simp) _ _).below ae (by simp))
     have aN:w.heap.size+2<=w1.heap.size:=by have:=ae.size;simpa using this
     have afU:w.heap.size+1<w1.heap.size:=by omega
     have afV:w.heap.size+1<=w1.heap.size:=by omega
     have l0:=kl.e.cell 0;have cF:Γ w.heap.size w w1:=((((Ϗ _ _).alloc (ϊ _) _).alloc (by simp) _).trans (ae.mono (by simp;omega)))
     have aY:=ψ cF;have Lf:Hid (ύ prog 114 #[η #[ξ κ b.ag,ζ A1 n1 c1,ζ A2 n2 c2,ζ A3 n3 c3,ζ A9 n9 c9],ζ A n c] (w1.alloc (Ξ #[ξ κ b.ag,ζ A1 n1 c1,ζ A2 n2 c2,ζ A3 n3 c3,ζ A9 n9 c9] 122)) λe w'=>e=Ω (.bool θ)/\Γ (w1.heap.size+1) (w1.alloc (Ξ #[ξ κ b.ag,ζ A1 n1 c1,ζ A2 n2 c2,ζ A3 n3 c3,ζ A9 n9 c9] 122)) w'):=ψ (by
      have uf:Δ B w (w1.alloc (Ξ #[ξ κ b.ag,ζ A1 n1 c1,ζ A2 n2 c2,ζ A3 n3 c3,ζ A9 n9 c9] 122)):=(Δ.aK cF hB).alloc (by omega) _
      refine(XH (B:=w1.heap.size) (ps:=aD b) (b:=b) (l:=l) ((bT.e.still uf).more (by omega)) (aG.row.still ((Δ.refl w1).alloc (ϊ _) _) λ_ _ h=>h) ((uB.e.still uf λ_ _ h=>h).more (by omega)) (by simp) OK.e.1 OK.e.2).mono ?_
      rintro e w' ⟨rfl,hb⟩;rw[PY.e];exact⟨rfl,hb.mono (by simp)⟩)
     clear ae aG cY iN cF)
  | (go_at_call 114
     refine Lf.e.mono ?_
     rintro e w2 ⟨rfl,ak⟩;have kf:Bk w2 w1.heap.size 122 #[ξ κ b.ag,ζ A1 n1 c1,ζ A2 n2 c2,ζ A3 n3 c3,ζ A9 n9 c9]:=(Bk.new w1 _ _).below ak (by omega)
     have KF:=ψ kf;have xI:Γ w1.heap.size w1 w2:=((Ϗ _ _).alloc (by omega) _).trans (ak.mono (by omega))
     have dV:=ψ xI;have ba:w1.heap.size+1<=w2.heap.size:=kf.lt;have mH:=kb.e.below xI (by omega)
     have b2: w2.cell? ⟨w.heap.size,2,ν⟩=φ (ζ A2 n2 c2):=mH.cell 2;have jB:w.heap.size<w2.heap.size:=by omega
     have Vt:w.heap.size<=w2.heap.size:=by omega
     clear kf mH ak xI l0))
 go_loopw [8,10,32] (λo p u wr=>∃i:Nat,i<=n2/\u=ξ κ i/\Hid (wr.ownsRow w2.heap.size 3 1 o i ((b.aF.take i).map λx=>ξ κ x.aH))/\Hid (Γ w2.heap.size w2 wr)) (λ_ _ u _=>n2 - (ϙ u).toNat)
 case atStart=>exact⟨0,ϡ _,rfl,ψ ⟨by simp,.inl ⟨rfl,rfl⟩⟩,ψ (Ϗ _ _)⟩
 case round=>
  obtain⟨i,hi,rfl,Ga,hb⟩:=hrel;have aI:=hb.e.size;have st:Δ B w wr:=(Δ.aK aY.e hB).trans (Δ.aK (dV.e.trans (hb.e.mono (by omega))) (by omega))
  by_cases al:i<n2
  ·obtain⟨ad,x,cs,rfl,aC,hx,⟨kv,rfl,dH,dj⟩,-,au⟩:=R2.e i al
   obtain⟨A6,n6,c6,rfl,-⟩:=dj.Φ;have g0:=cC au st aC rfl;have g1:=bK au st aC 0 rfl;have g2:=bK au st aC 1 rfl;have xD:(ad.add (i * 3)).block<wr.heap.size:=by rw[cq];omega
   have HX:=ψ hx;clear hx au dj st;go_wp2_with (first
    | (at_builtin
       refine Ahc _ rfl (.tmp 36) (.tmp 39) 33 rfl w2.heap.size 3 i0 (ξ κ 0) 1 8 (U Tryz.underlying33) dv.e.1 dv.e.2.1 dv.e.2.2.1 dv.e.2.2.2 rfl (by decide) _ i _ rfl ((Ga.e.alloc _).alloc _) ⟨wr.heap.size+1,0,ν⟩ 1 1 [ξ κ x.aH] rfl rfl ?c1 ?c2 ?c3 ?c4 ?c5 ?_
       case c1=>(intro j u hu;match j,hu with|0,hu=>(simp at hu;subst hu;simp[go_sem,Ahe]))
       case c2=>simp[Value.oneCell']
       case c3=>(simp only[ϗ];omega)
       case c4=>omega
       case c5=>(simp;omega)
       intro v' w3 cK dT _;have gW:=ψ cK;have gV:=ψ dT;clear cK dT))
   go_roundw;case rel=>exact⟨i+1,by omega,by go_num,ψ (by rw[oJ HX.e,Ahz];exact gW.e),
    ψ ((hb.e.trans (((Ϗ _ _).alloc aI _).alloc (by simp;omega) _)).grown gV.e (by simp;omega) (λk hk=>ei Ga.e k hk))⟩
   case measure=>simp[ϙ];omega
  ·obtain rfl:i=n2:=by omega
   have vq:((b.aF.take i).map λx=>ξ κ x.aH)=(mS b l 0).map (ξ κ):=by
    rw[Agf (Agw wJ.e.1)];simp[mS]
   have YQ:Hid (wr.ownsRow w2.heap.size 3 1 u8 i ((mS b l 0).map (ξ κ))):=ψ (vq▸Ga.e);have ux:Hid (Γ w1.heap.size w1 wr):=ψ (dV.e.trans (hb.e.mono (by omega)))
   have AU:Bk wr w1.heap.size 122 #[ξ κ b.ag,ζ A1 n1 c1,ζ A2 i c2,ζ A3 n3 c3,ζ A9 n9 c9]:=KF.e.below hb.e (by omega)
   have f0:=AU.cell 0;have f1:=AU.cell 1;have f2:=AU.cell 2;have f3:=AU.cell 3;have f4:=AU.cell 4;have GR:=ψ (TC (w:=wr) (B:=w1.heap.size) (s:=b.ag) (ps:=aD b) (pv:=ζ A1 n1 c1) (bv:=ζ A2 i c2) (tv:=ζ A3 n3 c3) (HO.e.row.still (Δ.aK ux.e (ϊ _)) λ_ _ h=>h) (by omega) ⟨_,_,_,rfl⟩ ⟨_,_,_,rfl⟩ ⟨_,_,_,rfl⟩)
   obtain⟨G,hG⟩:∃G,G=cz (aD b):=⟨_,rfl⟩
   rw[<-hG] at GR;unfold an.cs at GR;have HG:=ψ hG;clear hG vq Ga AU;go_wp2_with (first
    | (go_at_call 115
       refine GR.e.mono ?_
       rintro e w3 ⟨rfl,bD⟩;have MN:Γ w2.heap.size w2 w3:=hb.e.trans (bD.mono (by omega))
       have wN:=ψ MN;have VP:Bk w3 (w.heap.size+1) 27 #[ζ A n c]:=kl.e.below (dV.e.trans (MN.mono (by omega))) (by omega)
       have l0:=VP.cell 0;have vG:wr.heap.size<=w3.heap.size:=bD.size;have An:w.heap.size+1<w3.heap.size:=by omega
       have aoR:w.heap.size+1<=w3.heap.size:=by omega
       have uC:Hid (w3.ownsRow w2.heap.size 3 1 u8 i ((mS b l 0).map (ξ κ))):=ψ (qO YQ.e bD (ϊ _));clear bD MN VP f0 f1 f2 f3 f4))
   obtain⟨A8,c8,rfl,IP,hc8,ad7⟩:=II uC.e;unfold ϗ at ad7;go_loopw [12,13,46] (λp q u wq=>∃j:Nat,j<=n/\u=ξ κ j/\Hid (wq.ownsRow w2.heap.size 3 1 (ζ A8 i c8) i ((mS b l j).map (ξ κ)))/\Hid (Γ w2.heap.size w2 wq)/\Hid (Bk wq w3.heap.size 128 #[ξ κ G.a,ξ κ G.b,ξ κ G.c])) (λ_ _ u _=>n - (ϙ u).toNat)
   case atStart=>exact⟨0,ϡ _,rfl,ψ (uC.e.alloc _),ψ (wN.e.alloc (by have:=wN.e.size;omega) _),ψ (Bk.new w3 _ _)⟩
   case round=>
    obtain⟨wq,rfl⟩:∃wq:Ψ,wq=wr:=⟨_,rfl⟩
    obtain⟨j,hj,rfl,F9,Dp,Hl⟩:=hrel;have aoM:=Dp.e.size;have Hp:=Hl.e.lt;by_cases al:j<n
    ·obtain⟨ad,x,cs,rfl,aC,hx,rfl,-,au⟩:=R5.e j al
     obtain⟨bd,fr⟩:=x;have ID:=OK.e.1.kD j _ hx;obtain⟨k,hk,da⟩:=ID.bp;obtain rfl:bd=(k:Int):=hk;have b7:0<=fr/\fr<=40:=ID.from_;have qu:k<i:=by have:=wJ.e.1;omega
     have DE:j<3:=by have:=OK.e.1.len;have:=OK.e.1.three;have:=wJ.e.2;omega
     have Us:(j:Int)<3:=by omega
     obtain⟨g8,rfl,Nn,aeB,anP,aei⟩:=IP (by omega)
     obtain⟨Rs,xb,csb,eb,TT,Oi,⟨kvb,rfl,aoE,aeU⟩,-,aeT⟩:=R2.e k qu;subst eb;have aor:(mS b l j).length=i:=by rw[Xs];exact wJ.e.1
     obtain⟨ov,vv⟩:∃ov,(mS b l j)[k]?=φ ov:=⟨_,Af9 (by omega)⟩
     have st:Δ B w wq:=(Δ.aK aY.e hB).trans (Δ.aK (dV.e.trans (Dp.e.mono (by omega))) (by omega))
     have h0:=cC au st aC rfl;have h1:=bK au st aC 0 rfl;have q1:=bK aeT st TT 0 rfl;have o1: wq.cell? ⟨g8,k,ν⟩=φ (ξ κ ov):=by
      have:=vT F9.e k (ξ κ ov) (by rw[Ah9,vv];rfl)
      rwa[nu] at this
     have z1: wq.frozen? ⟨g8,k,ν⟩=χ:=by
      obtain⟨_,_,e,h,_⟩:=II F9.e;obtain⟨g,e2,_,_,cur,hc⟩:=h (by omega)
      cases e;cases e2;rw[Go.Sim.xm (a:=⟨g8,k,ν⟩) hc];rfl
     have VN:=kb.e.below (dV.e.trans (Dp.e.mono (by omega))) (by omega)
     have b2: wq.cell? ⟨w.heap.size,2,ν⟩=φ (ζ (φ Rs) i c2):=VN.cell 2;have gj: wq.cell? ⟨w3.heap.size,j,ν⟩=φ (ξ κ (G.at j)):=(Hl.e.cell j).trans (an.uR (n:=G) DE);have UP:mJ b k=xb.aH.toNat:=by unfold mJ;rw[Oi]
     have Eg:=(HV.e.bp xb (ϩ Oi)).aH;have Ph:=(TE (aD b) OK.e.2) j;rw[<-HG.e] at Ph;have NX:Hid (mS b l (j+1)=(mS b l j).set k (min ov (xb.aH - fr - G.at j))):=ψ (by
      rw[Xt];unfold FF;rw[hx,<-HG.e];simp only[Int.toNat_natCast,vv,Option.getD_some,UP];rw[Int.toNat_of_nonneg (by omega)])
     have y0:g8<wq.heap.size:=by have:=wN.e.size;exact agx (w3:=w3) Hl.e.lt aeB
     have y1:w.heap.size<wq.heap.size:=by omega
     have y2:w.heap.size<=wq.heap.size:=by omega
     have y3:w3.heap.size<=wq.heap.size:=by omega
     have y4:(Rs.add (k * 3)).block<wq.heap.size:=by rw[cq];omega
     have y5:(ad.add (j * 2)).block<wq.heap.size:=by rw[cq];omega
     have y6:g8<=wq.heap.size:=by omega
     have aop:(k:Int)<i:=by omega
     clear hx au ID Oi aeT aeU vv VN st aei UP;go_wp2;refine ua 24 (by kernel_rfl) (by kernel_rfl) ?_
     simp only[Agi,Agj,Agk,Agl];repeat still_step
     refine wpStill_nil ?_
     go_wp2;go_roundw;case rel=>exact⟨j+1,by omega,by go_num,ψ (by
      rw[NX.e,List.map_set];exact(IG (u:=ξ κ (min ov (xb.aH - fr - G.at j))) F9.e (by omega)).alloc _),
      ψ (iY ((Dp.e.setCell (p:=⟨g8,k,ν⟩) Nn _).alloc (by simp[Ad2];omega) _)),ψ (Bk.alloc (Hl.e.cu (by simp;omega) _) _)⟩
     case measure=>simp[ϙ];omega
    ·obtain rfl:j=n:=by omega
     go_wp2
     go_ret2
     refine⟨_,rfl,?_,?_⟩
     ·have rJ:(BO b l).length=i:=by unfold BO;rw[Xs];exact wJ.e.1
      rw[rJ];unfold BO;rw[wJ.e.2];exact F9.e.base (by omega)
     ·exact aY.e.trans ((dV.e.mono (by omega)).trans (Dp.e.mono (by omega)))
def alC{w:Ψ}{b:ao}{l:List Cut}{pv bv tv lv:υ}{B:Nat}(hB:B<=w.heap.size)(ai:bg w B b pv bv tv)(hl:Row w B 2 Cut.R lv l)(h:cj b (ez b l)=0)(D4:FJ b (aD b) l=χ):
 ύ prog 31 #[η #[ξ κ b.ag,pv,bv,tv],lv] w λe w'=>e=Ω (μ #[ζ ν 0 0,ξ κ 8])/\Γ w.heap.size w w':=by
 have st:Δ B w ((w.alloc (Ξ #[ξ κ b.ag,pv,bv,tv] 26)).alloc (Ξ #[lv] 27)):=((Δ.refl w).alloc hB _).alloc (by simp;omega) _
 have aB:=ψ (yL (w:=((w.alloc (Ξ #[ξ κ b.ag,pv,bv,tv] 26)).alloc (Ξ #[lv] 27))) (B:=B) (by simp;omega) (ai.still st) (RA (by simp;omega) (ai.still st) (hl.still st λ_ _ h=>h) (Bk.cG (g:=w.heap.size+1) (by simp) _ _)) h)
 have hz:=pq h;have hv:=iy hz.1;have OK:=ψ (ϐ (GI hv hz.2.1) (uG hv));have bT:=ψ ai;have uB:=ψ hl;have HV:=ψ hv;have lQ:b.aF.length<=3:=hv.nb;have PY:=ψ D4;obtain⟨A1,n1,c1,rfl,-⟩:=ai.pieces.Φ;obtain⟨A2,n2,c2,rfl,e2,h2,dW,r2⟩:=ai.aF.Φ;obtain⟨A3,n3,c3,rfl,-⟩:=ai.aJ.Φ;obtain⟨A,n,c,rfl,e5,h5,GW,r5⟩:=hl.Φ;have R2:=ψ r2;have R5:=ψ r5;have wJ:=ψ (ϐ e2 e5);unfold ϗ at dW GW;have UT:n2<=3:=by omega
 clear ai hl st hz hv h r2 r5 e2 e5 D4 lQ;go_enter func31,Tryz.ntmps31;go_wp2_with (first
  | (go_at_call 98;refine aB.e.mono ?_;rintro e w1 ⟨sv,rfl,aG,ae⟩
     obtain⟨A9,n9,c9,rfl,cY,nG,py,iN⟩:=aG.row.Φ;have HO:=ψ aG;have kb:Hid (Bk w1 w.heap.size 26 #[ξ κ b.ag,ζ A1 n1 c1,ζ A2 n2 c2,ζ A3 n3 c3]):=ψ (((Bk.new w _ _).alloc _).below ae (by simp;omega))
     have kl:Hid (Bk w1 (w.heap.size+1) 27 #[ζ A n c]):=ψ ((Bk.cG (by simp) _ _).below ae (by simp))
     have aN:w.heap.size+2<=w1.heap.size:=by have:=ae.size;simpa using this
     have afU:w.heap.size+1<w1.heap.size:=by omega
     have afV:w.heap.size+1<=w1.heap.size:=by omega
     have l0:=kl.e.cell 0;have cF:Γ w.heap.size w w1:=((((Ϗ _ _).alloc (ϊ _) _).alloc (by simp) _).trans (ae.mono (by simp;omega)))
     have aY:=ψ cF;have Lf:Hid (ύ prog 114 #[η #[ξ κ b.ag,ζ A1 n1 c1,ζ A2 n2 c2,ζ A3 n3 c3,ζ A9 n9 c9],ζ A n c] (w1.alloc (Ξ #[ξ κ b.ag,ζ A1 n1 c1,ζ A2 n2 c2,ζ A3 n3 c3,ζ A9 n9 c9] 122)) λe w'=>e=Ω (.bool χ)/\Γ (w1.heap.size+1) (w1.alloc (Ξ #[ξ κ b.ag,ζ A1 n1 c1,ζ A2 n2 c2,ζ A3 n3 c3,ζ A9 n9 c9] 122)) w'):=ψ (by
      have uf:Δ B w (w1.alloc (Ξ #[ξ κ b.ag,ζ A1 n1 c1,ζ A2 n2 c2,ζ A3 n3 c3,ζ A9 n9 c9] 122)):=(Δ.aK cF hB).alloc (by omega) _
      refine(XH (B:=w1.heap.size) (ps:=aD b) (b:=b) (l:=l) ((bT.e.still uf).more (by omega)) (aG.row.still ((Δ.refl w1).alloc (ϊ _) _) λ_ _ h=>h) ((uB.e.still uf λ_ _ h=>h).more (by omega)) (by simp) OK.e.1 OK.e.2).mono ?_
      rintro e w' ⟨rfl,hb⟩;rw[PY.e];exact⟨rfl,hb.mono (by simp)⟩)
     clear ae aG cY iN cF)
  | (go_at_call 114
     refine Lf.e.mono ?_
     rintro e w2 ⟨rfl,ak⟩;have kf:Bk w2 w1.heap.size 122 #[ξ κ b.ag,ζ A1 n1 c1,ζ A2 n2 c2,ζ A3 n3 c3,ζ A9 n9 c9]:=(Bk.new w1 _ _).below ak (by omega)
     have KF:=ψ kf;have xI:Γ w1.heap.size w1 w2:=((Ϗ _ _).alloc (by omega) _).trans (ak.mono (by omega))
     have dV:=ψ xI;have ba:w1.heap.size+1<=w2.heap.size:=kf.lt;have mH:=kb.e.below xI (by omega)
     have b2: w2.cell? ⟨w.heap.size,2,ν⟩=φ (ζ A2 n2 c2):=mH.cell 2;have jB:w.heap.size<w2.heap.size:=by omega
     have Vt:w.heap.size<=w2.heap.size:=by omega
     clear kf mH ak xI l0))
 go_ret2
 exact⟨rfl,aY.e.trans (dV.e.mono (by omega))⟩
def oN(w:Ψ)(g n:Nat)(xs:List Int):Prop:=
 ∃D:DataW Nat,w.ownsMap prog 3 (plainElem prog 3) g n D/\Maps.IsMap D/\∀x:Int,lI x->D.atKey (.int .i64 x) (.lit (.int .i64 0))=.lit (.int .i64 (xs.count x:Nat))
def Jm:prog.underlying 3=φ (.int .i64):=(U Tryz.underlying3).trans rfl
def XV:prog.underlying 174=φ (.map 3 3):=(U Tryz.underlying174).trans rfl
def OH{a:Int}(h:lI a):keyOf prog 3 (.int .i64 a)=φ (.int .i64 a):=Maps.keyOf_int_mk Jm (BJ h)
def anq(W:Ψ):(zeroValue 3).run prog W=.ok (.int .i64 0) W:=by rw[Qb];kernel_rfl
def OJ:Maps.Keyed prog 3:=Maps.int_keyed Jm
def oN.kept{w w':Ψ}{g n:Nat}{xs:List Int}{row:Option Nat}(h:oN w g n xs)(hg:w.grownBy w' row)(aw:φ g≠row):oN w' g n xs:=by
 obtain⟨D,h1,h2,h3⟩:=h;exact⟨D,h1.kept hg aw,h2,h3⟩
def oN.lt{w:Ψ}{g n:Nat}{xs:List Int}(h:oN w g n xs):g<w.heap.size:=by obtain⟨D,h1,_⟩:=h;exact h1.lt
def oN.made(w:Ψ):oN (w.alloc (.map #[] 0)) w.heap.size 0 []:=
 ⟨.map [],World.ownsMap_made w prog 3 _,⟨_,rfl⟩,λx _=>rfl⟩
def Yd{ops:Array Oper}{rest:List Oper}{o:Oper}{a:Act}{w:Ψ}{Q:Exit->Act->Ψ->Prop}(hg:o.guard=ν)(m x:Abp)(ab:o.op=Op.lookup 174 m x χ)
 (g n:Nat)(xs:List Int)(k:Int)(hk:lI k)(hm:a.eval m=.map (φ g))(hx:a.eval x=.int .i64 k)(h:oN w g n xs)
 (hK:Ahd prog ops Q rest (a.put o.dst (.int .i64 (xs.count k:Nat))) w):Ahd prog ops Q (o::rest) a w:=by
 obtain⟨D,h1,h2,h3⟩:=h;refine wpList_lookup_own_int w hg m x 174 ab 3 3 .i64 OJ XV Jm (anq w) g n D hm h1 _ _ hx (OH hk) ?_
 intro c ou _;rw[h3 k hk] at ou;injection ou with ou;injection ou with _ ou
 rw[<-ou];exact hK
def ane{ops:Array Oper}{rest:List Oper}{o:Oper}{a:Act}{w:Ψ}{Q:Exit->Act->Ψ->Prop}(hg:o.guard=ν)(m x v:Abp)(ab:o.op=Op.mapUpdate 174 m x v)
 (g n:Nat)(xs:List Int)(k:Int)(hk:lI k)(hn:n<ϗ)(hc:xs.count k+1<=ϗ)(hm:a.eval m=.map (φ g))(hx:a.eval x=.int .i64 k)(hv:a.eval v=.int .i64 ((xs.count k:Nat)+1))(h:oN w g n xs)
 (hK:∀w',oN w' g (n+1) (xs++ [k])->w.grownBy w' (φ g)->Ahd prog ops Q rest (a.put o.dst ω) w'):Ahd prog ops Q (o::rest) a w:=by
 obtain⟨D,h1,h2,h3⟩:=h;unfold ϗ at hc;refine wpList_mapUpdate_own w hg m x v 174 ab 3 3 OJ XV _ g n D hm h1 hn _ _ _ hx hv (OH hk) (.lit (.int .i64 ((xs.count k:Nat)+1))) [] (plainElem_int Jm (BJ ⟨by omega,by omega⟩)) ?_
 intro w' AN eh;refine hK w' ⟨_,AN,AN.isMap,λy hy=>?_⟩ eh
 by_cases e:y=k
 ·subst e
  rw[Maps.atKey_put_same h2 (OJ.key (OH hk)),List.count_append];simp
 ·rw[Maps.atKey_put_other (by intro h;injection h with _ h;exact e h),h3 y hy,List.count_append]
  simp[List.count_cons,Ne.symm e,e]
def anc{ops:Array Oper}{rest:List Oper}{o:Oper}{a:Act}{w:Ψ}{Q:Exit->Act->Ψ->Prop}(hg:o.guard=ν)(t:ό)(ab:o.op=Op.makeMap t ν)
 (hK:Ahd prog ops Q rest (a.put o.dst (.map (φ w.heap.size))) (w.alloc (.map #[] 0))):Ahd prog ops Q (o::rest) a w:=by
 refine wpList_plain hg λK' Db=>?_
 unfold Oper.wp;have bz:=RowKit.run_makeMap (P:=prog) t w;simp[execOp,ab,bz,Ahh];exact Db _ _ hK
def ahQ{wp w2:Ψ}{g k:Nat}{x:an}{v:Int}(hg:(wp.alloc (Ξ #[.int .i64 x.a,.int .i64 x.b,.int .i64 x.c] 128)).grownBy w2 (φ g))(al:g<wp.heap.size)(hk:k<3)(hv:v=x.at k):
 w2.cell? ⟨wp.heap.size,k,ν⟩=φ (.int .i64 v):=by
 have h:Bk w2 wp.heap.size 128 #[.int .i64 x.a,.int .i64 x.b,.int .i64 x.c]:=(Bk.new wp _ _).grown hg (by simp;omega)
 rw[hv];exact(h.cell k).trans (an.uR (n:=x) hk)
def lZ(xs:List Int):Nat->Int
 |0=>0
 |j+1=>max (lZ xs j) ((xs.take (j+1)).count (xs.getD j 0):Nat)
def gZ(b:ao):Nat->Int×Int
 |0=>(-1,(aD b).length)
 |k+1=>let m:=lZ ((aD b).map (·.at k)) (aD b).length;if m<(gZ b k).2 then(k,m) else gZ b k
def Cu(b:ao):Int×Int:=gZ b b.pieces.length
def OW(xs:List Int):∀j,0<=lZ xs j/\lZ xs j<=j
 |0=>by simp[lZ]
 |j+1=>by
  have:=OW xs j;have h1:((xs.take (j+1)).count (xs.getD j 0))<=j+1:=Ϥ Aia (by simp;omega)
  unfold lZ;omega
def Ry(b:ao):∀k,-1<=(gZ b k).1/\(gZ b k).1<=k/\0<=(gZ b k).2/\(gZ b k).2<=(aD b).length
 |0=>by simp[gZ]
 |k+1=>by
  have h:=Ry b k;have h2:=OW ((aD b).map (·.at k)) (aD b).length
  unfold gZ;simp only;split
  ·refine⟨?_,?_,?_,?_⟩<;>simp only<;>omega
  ·refine⟨?_,?_,?_,?_⟩<;>omega
def Rz{b:ao}{k:Nat}{m p l:Int}(h:p=(gZ b k).1/\l=(gZ b k).2)(hm:m=lZ ((aD b).map (·.at k)) (aD b).length)(al:m<l):gZ b (k+1)=((k:Int),m):=by
 show(if lZ ((aD b).map (·.at k)) (aD b).length<(gZ b k).2 then((k:Int),lZ ((aD b).map (·.at k)) (aD b).length) else gZ b k)=_
 rw[<-hm,<-h.2,if_pos al]
def Rx{b:ao}{k:Nat}{m p l:Int}(h:p=(gZ b k).1/\l=(gZ b k).2)(hm:m=lZ ((aD b).map (·.at k)) (aD b).length)(al:¬m<l):gZ b (k+1)=(p,l):=by
 show(if lZ ((aD b).map (·.at k)) (aD b).length<(gZ b k).2 then((k:Int),lZ ((aD b).map (·.at k)) (aD b).length) else gZ b k)=_
 rw[<-hm,<-h.2,if_neg al,h.1,h.2]
def akj{a c a' c':Int}{s:υ}(h:a=a')(h':c=c'):Ending.returned (μ #[ξ κ a,ξ κ c,s])=Ω (μ #[ξ κ a',ξ κ c',s]):=by rw[h,h']
def aha{L:an}(h:L.Ok){k:Nat}(hk:k<3):lI (L.at k):=by
 have:=h k;unfold lI;omega
def Zn{w:Ψ}{b:ao}{pv bv tv:υ}{B:Nat}(hB:B<=w.heap.size)(ai:bg w B b pv bv tv)(h:cj b 0=0):
 ύ prog 61 #[η #[ξ κ b.ag,pv,bv,tv]] w λe w'=>e=Ω (μ #[ξ κ (Cu b).1,ξ κ (Cu b).2,ξ κ 0])/\Γ w.heap.size w w':=by
 have st:Δ B w (w.alloc (Ξ #[ξ κ b.ag,pv,bv,tv] 26)):=(Δ.refl w).alloc hB _;have aB:=ψ (yL (w:=(w.alloc (Ξ #[ξ κ b.ag,pv,bv,tv] 26))) (B:=B) (by simp;omega) (ai.still st) (Gp (ai.still st)) h)
 have hz:=pq h;have hv:=iy hz.1;have aeZ:=Ct hv;have Zd:=ψ (uG hv);obtain⟨A1,n1,c1,rfl,e1,h1,eA,-⟩:=ai.pieces.Φ;obtain⟨A2,n2,c2,rfl,-⟩:=ai.aF.Φ;obtain⟨A3,n3,c3,rfl,-⟩:=ai.aJ.Φ;have lQ:n1<=3:=by have:=hv.np;omega
 have E1:=ψ e1;unfold ϗ at eA;clear ai st hz hv h e1;go_enter func61,Tryz.ntmps61;go_wp2_with (first
  | (go_at_call 98;refine aB.e.mono ?_;rintro e w1 ⟨sv,rfl,aG,ae⟩
     obtain⟨A9,n9,c9,rfl,cY,nG,py,iN⟩:=aG.row.Φ;have lF:=ψ iN;have pO:=ψ cY;have kk:Hid (Bk w1 w.heap.size 26 #[ξ κ b.ag,ζ A1 n1 c1,ζ A2 n2 c2,ζ A3 n3 c3]):=ψ ((Bk.new w _ _).below ae (by simp))
     have aN:w.heap.size+1<=w1.heap.size:=by have:=ae.size;simpa using this
     have afb:n9<=27:=by omega
     have aY:Hid (Γ w.heap.size w w1):=ψ ((((Ϗ _ _).alloc (ϊ _) _)).trans (ae.mono (by simp)));clear ae aG cY iN))
 have hB0:w.heap.size<w1.heap.size:=by omega
 have KH:Hid (n9=(aD b).length):=ψ pO.e.symm;have q4:(w1.alloc (Ξ #[ξ κ b.ag,ζ A1 n1 c1,ζ A2 n2 c2,ζ A3 n3 c3,ζ A9 n9 c9] 122)).cell? ⟨w1.heap.size,4,ν⟩=φ (ζ A9 n9 c9):=(Bk.new _ _ _).cell 4;have q1:(w1.alloc (Ξ #[ξ κ b.ag,ζ A1 n1 c1,ζ A2 n2 c2,ζ A3 n3 c3,ζ A9 n9 c9] 122)).cell? ⟨w.heap.size,1,ν⟩=φ (ζ A1 n1 c1):=(kk.e.alloc _).cell 1;go_region
 go_wp2;clear q4 q1;go_loopw [2,3,25] (λu2 u3 u wr=>∃k:Nat,k<=n1/\u=ξ κ k/\u2=ξ κ (gZ b k).1/\u3=ξ κ (gZ b k).2/\Hid (Γ (w1.heap.size+1) (w1.alloc (Ξ #[ξ κ b.ag,ζ A1 n1 c1,ζ A2 n2 c2,ζ A3 n3 c3,ζ A9 n9 c9] 122)).drew wr)) (λ_ _ u _=>n1 - (ϙ u).toNat)
 case atStart=>exact⟨0,ϡ _,rfl,rfl,by rw[KH.e];rfl,ψ (Ϗ _ _)⟩
 case round=>
  obtain⟨wo,rfl⟩:∃wo:Ψ,wo=wr:=⟨_,rfl⟩
  obtain⟨k,hk,rfl,rfl,rfl,hb⟩:=hrel;have bt:=Ry b k;obtain⟨pk,AD⟩:∃pk,pk=(gZ b k).1:=⟨_,rfl⟩
  obtain⟨lk,Hp⟩:∃lk,lk=(gZ b k).2:=⟨_,rfl⟩
  rw[<-AD,<-Hp] at bt |-
  have zp:=ψ (ϐ AD Hp);clear AD Hp;have rV:w1.heap.size+1<=wo.heap.size:=by have:=hb.e.size;simpa using this
  have kb:Bk wo w1.heap.size 122 #[ξ κ b.ag,ζ A1 n1 c1,ζ A2 n2 c2,ζ A3 n3 c3,ζ A9 n9 c9]:=Bk.below (w:=(w1.alloc (Ξ #[ξ κ b.ag,ζ A1 n1 c1,ζ A2 n2 c2,ζ A3 n3 c3,ζ A9 n9 c9] 122)).drew) (Bk.new w1 _ _) hb.e (by simp)
  have kb4:(wo.alloc (.map #[] 0)).cell? ⟨w1.heap.size,4,ν⟩=φ (ζ A9 n9 c9):=(kb.alloc _).cell 4;have vG:w1.heap.size<wo.heap.size:=by omega
  have An:w1.heap.size<=wo.heap.size:=by omega
  clear kb;by_cases al:k<n1
  ·have fh:k<3:=by omega
   have aeJ:(k:Int)<3:=by omega
   go_wp2_with (first| (refine anc rfl 174 rfl ?_))
   go_loopw [8,32] (λu8 u wr=>∃j:Nat,j<=n9/\u=ξ κ j/\u8=ξ κ (lZ ((aD b).map (·.at k)) j)/\Hid (oN wr wo.heap.size j (((aD b).map (·.at k)).take j))/\Hid (Γ wo.heap.size wo wr)) (λ_ u _=>n9 - (ϙ u).toNat)
   case atStart=>exact⟨0,ϡ _,rfl,rfl,ψ (oN.made wo),ψ ((Ϗ _ _).alloc (ϊ _) _)⟩
   case round=>
    obtain⟨wp,rfl⟩:∃wp:Ψ,wp=wr:=⟨_,rfl⟩
    obtain⟨j,hj,rfl,rfl,HC,ak⟩:=hrel;have hm:=OW ((aD b).map (·.at k)) j
    obtain⟨mj,NG⟩:∃mj,mj=lZ ((aD b).map (·.at k)) j:=⟨_,rfl⟩
    rw[<-NG] at hm |-
    have Q6:=ψ NG;clear NG;have Vw:wo.heap.size<wp.heap.size:=HC.e.lt;by_cases hjt:j<n9
    ·obtain⟨ad,x,cs,kX,aC,hx,rfl,-,au⟩:=lF.e j hjt
     subst kX;have ow:Γ w1.heap.size w1 (w1.alloc (Ξ #[ξ κ b.ag,ζ A1 n1 c1,ζ A2 n2 c2,ζ A3 n3 c3,ζ (φ ad) n9 c9] 122)).drew:=iY ((Ϗ w1.heap.size w1).alloc (ϊ _) _);have TX:Γ w1.heap.size w1 wp:=(ow.trans (hb.e.mono (Nat.le_succ _))).trans (ak.e.mono (by omega))
     have nV:Hid (Γ w1.heap.size w1 wp):=ψ TX;clear ow TX;have st:Δ w1.heap.size w1 wp:=Δ.aK nV.e (ϊ _);have g0:=cC au st aC rfl;have g1:=bK au st aC 0 rfl;have g2:=bK au st aC 1 rfl;have xD:(ad.add (j * 3)).block<wp.heap.size:=by rw[cq];omega
     have HX:=ψ hx;obtain⟨v,hv⟩:∃v,v=x.at k:=⟨_,rfl⟩
     have Hz:lI v:=by rw[hv];exact aha (Zd.e x (ϩ hx)) fh
     have SM:=ψ Hz;have gk:(wp.alloc (Ξ #[ξ κ x.a,ξ κ x.b,ξ κ x.c] 128)).cell? ⟨wp.heap.size,k,ν⟩=φ (ξ κ v):=by rw[hv];exact(Bk.new wp _ _).cell k|>.trans (an.uR (n:=x) fh)
     have HV:=ψ hv;have Ua:((aD b).map (·.at k)).take (j+1)=((aD b).map (·.at k)).take j++ [v]:=by
      rw[List.take_add_one,Ah9,hx];simp[hv]
     have Hk:((aD b).map (·.at k)).getD j 0=v:=by
      rw[List.getD_eq_getElem?_getD,Ah9,hx];simp[hv]
     have Kw:=ψ (ϐ Ua Hk);obtain⟨cn,Na⟩:∃cn,cn=(((aD b).map (·.at k)).take j).count v:=⟨_,rfl⟩
     have an7:cn<=j:=by rw[Na];exact Ϥ Aia (by simp;omega)
     have yo:Ϛ.wrap ((cn:Int)+1)=(cn:Int)+1:=by rw[IntWalk.i64_left];exact IntWalk.wrap64_in _ (by omega)
     have Kv:=ψ Na;have aoz:n9<ϗ:=by unfold ϗ;omega
     clear hx au st Hz hv Ua Hk Na;go_wp2_with (first
      | (at_lookup;refine Yd rfl (.tmp 36) (.tmp 39) rfl wo.heap.size j _ v SM.e rfl rfl (HC.e.kept (ϻ wp _ ν) nofun) ?_;rw[<-Kv.e])
      | (at_mapUpdate;refine ane rfl (.tmp 36) (.tmp 39) (.tmp 41) rfl wo.heap.size j _ v SM.e (by omega) ?hc rfl rfl (by rw[<-Kv.e];try rfl) (HC.e.kept (ϻ wp _ ν) nofun) ?_
         case hc=>(rw[<-Kv.e];unfold ϗ;omega)
         rw[<-Kw.e.1];intro w2 ef kG;have wP:=ψ ef;have gk2: w2.cell? ⟨wp.heap.size,k,ν⟩=φ (ξ κ v):=ahQ kG Vw fh HV.e;have YD:=ψ kG;clear ef kG)
      | (at_lookup;refine Yd rfl (.tmp 43) (.tmp 46) rfl wo.heap.size (j+1) _ v SM.e rfl rfl wP.e ?_))
     go_roundw;case rel=>exact⟨j+1,by omega,by go_num,by
      rw[Q6.e];conv=>rhs;unfold lZ
      rw[Kw.e.1,Kw.e.2],wP,
      ψ ((ak.e.trans ((Ϗ wo.heap.size wp).alloc (by omega) _)).grown YD.e (by simp;omega) (λq hq=>by injection hq with hq;omega))⟩
     case measure=>simp[ϙ];omega
    ·obtain rfl:j=n9:=by omega
     have UR:mj=lZ ((aD b).map (·.at k)) (aD b).length:=by rw[Q6.e,<-pO.e]
     have va:Hid (Γ (w1.heap.size+1) (w1.alloc (Ξ #[ξ κ b.ag,ζ A1 n1 c1,ζ A2 n2 c2,ζ A3 n3 c3,ζ A9 j c9] 122)).drew wp):=ψ (hb.e.trans (ak.e.mono rV));have F8:=ψ UR;clear UR;by_cases Ho:mj<lk
     ·go_wp2
      go_roundw;case rel=>exact⟨k+1,by omega,by go_num,by
       rw[Rz zp.e F8.e Ho],by
       rw[Rz zp.e F8.e Ho],va⟩
      case measure=>simp[ϙ];omega
     ·go_wp2
      go_roundw;case rel=>exact⟨k+1,by omega,by go_num,by
       rw[Rx zp.e F8.e Ho],by
       rw[Rx zp.e F8.e Ho],va⟩
      case measure=>simp[ϙ];omega
  ·obtain rfl:k=n1:=by omega
   go_wp2
   go_ret3
   refine⟨akj ?_ ?_,?_⟩
   ·rw[zp.e.1];unfold Cu;rw[E1.e]
   ·rw[zp.e.2];unfold Cu;rw[E1.e]
   ·exact aY.e.trans ((iY ((Ϗ w1.heap.size w1).alloc (ϊ _) _)).trans (hb.e.mono (Nat.le_succ _)) |>.mono (by omega))
def Te{α:Type}{f:α->List υ}{sz:Nat}(hf:∀x,(f x).length=sz):∀(l:List α) (j:Nat) (u:υ),(l.flatMap f)[j]?=φ u->∃i x r,l[i]?=φ x/\(f x)[r]?=φ u/\j=i * sz+r
 | [],j,u,h=>by simp at h
 |a::l,j,u,h=>by
  rw[Aht] at h;by_cases hj:j<(f a).length
  ·rw[Ahu hj] at h
   exact⟨0,a,j,rfl,h,by omega⟩
  ·rw[Ahv (by omega),hf] at h
   obtain⟨i,x,r,h1,h2,h3⟩:=Te hf l _ u h;rw[hf] at hj;exact⟨i+1,x,r,by simpa using h1,h2,by rw[Aic];omega⟩
def zT{α:Type}{f:α->List υ}{sz:Nat}(hf:∀x,(f x).length=sz):∀(l:List α),(l.flatMap f).length=l.length * sz
 | []=>by simp
 |a::l=>by rw[Aht,Af6,hf,zT hf l,Af5,Aic];omega
def CZ{α:Type}{f:α->List υ}(l:List α)(hf:∀x∈l,∀u∈f x,u.oneCell'=θ):∀u∈l.flatMap f,u.oneCell'=θ:=by
 intro u hu;obtain⟨x,h,hx⟩:=Ahw.1 hu;exact hf x h u hx
def Row.cells{α:Type}{w:Ψ}{B sz:Nat}{f:α->List υ}{ad:ϕ}{c:Nat}{l:List α}(h:Row w B sz (λx cs=>cs=f x) (ζ (φ ad) l.length c) l)(hf:∀x,(f x).length=sz):
 (∀j u,(l.flatMap f)[j]?=φ u-> w.cell? (ad.add j)=φ u)/\(l≠ []->ad.block<B):=by
 obtain⟨A,c',hv,h1,h2,h3⟩:=h;injection hv with hA
 refine⟨λj u hu=>?_,λaw=>?_⟩
 ·obtain⟨i,x,r,e1,e2,e3⟩:=Te hf l j u hu
  obtain⟨Cs,uZ,_,hc⟩:=h3 (by intro e;rw[e] at e1;simp at e1)
  obtain⟨cs,rfl,_,au⟩:=hc i x e1;rw[uZ] at hA;injection hA with hA
  subst hA;rw[e3];exact au r u e2
 ·obtain⟨Cs,uZ,hb,_⟩:=h3 aw
  rw[uZ] at hA;injection hA with hA
  subst hA;exact hb
def agi:(prog.info? 72).map (λi=>(i.zero,i.size,i.bytes))=φ (φ (η #[.string {data:=#[]},ξ κ 0,ξ κ 0,ξ κ 0]),4,40):=by
 rw[pB];kernel_rfl
def aaI{ad:ϕ}{n c:Nat}{news:List υ}{w:Ψ}(hl:news.length=n * 4)(hc:∀j u,news[j]?=φ u-> w.cell? (ad.add j)=φ u)(h1:∀u∈news,u.oneCell'=θ)(hn:n<=1000000)(aC:news≠ []->ad.block<w.heap.size):
 ύ prog 155 #[ζ (φ ad) n c] w λe w'=>∃v,e=Ω v/\w'.ownsRow w.heap.size 72 4 v n news/\Γ w.heap.size w w':=by
 obtain⟨i0,cR,cT,aN,ba⟩:=Ag9 agi;have dv:=ψ (ϐ cR (ϐ cT (ϐ aN ba)));have HC:Hid (∀j u,news[j]?=φ u->(w.alloc (Ξ #[] 72)).cell? (ad.add j)=φ u):=ψ (λj u hu=>(Afz w _ _ (by rw[cq];exact aC (by intro e;rw[e] at hu;simp at hu))).trans (hc j u hu))
 have HL:=ψ (ϐ hl h1);have HO:Hid ((w.alloc (Ξ #[] 72)).ownsRow w.heap.size 72 4 (ζ (φ ⟨w.heap.size,0,ν⟩) 0 0) 0 []):=ψ ⟨rfl,.inr ⟨w.heap.size,0,#[],rfl,ϊ _,Ag6 w _,ϊ _,by unfold ϗ;omega,rfl,rfl⟩⟩
 clear hl hc h1 cR cT aN ba aC;have q:∀(w:Ψ) (a:Option ϕ) (n c n' c':Nat),(binOp .eql 22 (ζ a n c) (ζ ν n' c')).run prog w=.ok (.bool a.isNone) w:=λw a n c n' c'=>Ahf w _ _ a n c n' c' (U Tryz.underlying22)
 go_enter func155,Tryz.ntmps155;go_wp2_with (first
  | (at_builtin
     refine Ahc _ rfl (.tmp 5) (.tmp 6) 22 rfl w.heap.size 72 i0 (η #[.string {data:=#[]},ξ κ 0,ξ κ 0,ξ κ 0]) 4 40 (U Tryz.underlying22) dv.e.1 dv.e.2.1 dv.e.2.2.1 dv.e.2.2.2 rfl (by decide) _ 0 _ rfl HO.e ad n c news rfl HL.e.1 HC.e HL.e.2 ?c3 ?c4 ?c5 ?_
     case c3=>(simp only[ϗ];omega)
     case c4=>omega
     case c5=>simp
     intro v' w1 cK dT _;have gW:=ψ cK;have gV:=ψ dT;clear cK dT))
 go_ret;refine⟨_,rfl,by have:=gW.e;rwa[Aib,Agr] at this,((Ϗ _ _).alloc (ϊ _) _).grown gV.e (by simp) (λk hk=>ei HO.e k hk)⟩
def aaH(n c:Nat)(w:Ψ):ύ prog 155 #[ζ ν n c] w λe w'=>e=Ω (ζ ν 0 0)/\w=w':=by
 have q:∀(w:Ψ) (a:Option ϕ) (n c n' c':Nat),(binOp .eql 22 (ζ a n c) (ζ ν n' c')).run prog w=.ok (.bool a.isNone) w:=λw a n c n' c'=>Ahf w _ _ a n c n' c' (U Tryz.underlying22)
 go_enter func155,Tryz.ntmps155;go_wp2;go_ret;exact⟨rfl,rfl⟩
def aaG{α:Type}{f:α->List υ}{v:υ}{l:List α}{w:Ψ}{B:Nat}(h:Row w B 4 (λx cs=>cs=f x) v l)(hB:B<=w.heap.size)(hf:∀x,(f x).length=4)(h1:∀x∈l,∀u∈f x,u.oneCell'=θ)(hn:l.length<=1000000):
 ύ prog 155 #[v] w λe w'=>∃v',e=Ω v'/\w'.ownsRow w.heap.size 72 4 v' l.length (l.flatMap f)/\Γ w.heap.size w w':=by
 obtain⟨A,c,rfl,-⟩:=id h;cases A with
 |none=>
  have hl:l=[]:=by
   obtain⟨A,c',hv,h1,h2,h3⟩:=h;injection hv with hA
   refine Aa5 λaw=>?_
   obtain⟨ad,ha,_⟩:=h3 aw;rw[ha] at hA;cases hA
  subst hl;refine(aaH _ _ w).mono ?_
  rintro e w' ⟨rfl,rfl⟩;exact⟨_,rfl,⟨rfl,.inl ⟨rfl,rfl⟩⟩,Ϗ _ _⟩
 |some ad=>
  have hc:=h.cells hf;exact aaI (zT hf l) hc.1 (CZ l h1) hn (λaw=>by
   have:=hc.2 (by intro e;rw[e] at aw;simp at aw);omega)
def VI:(prog.info? 59).map (λi=>(i.zero,i.size,i.bytes))=φ (φ (η #[.string {data:=#[]},ξ κ 0,ζ ν 0 0]),3,48):=by
 rw[pB];kernel_rfl
def aaB{ad:ϕ}{n c:Nat}{news:List υ}{w:Ψ}(hl:news.length=n * 3)(hc:∀j u,news[j]?=φ u-> w.cell? (ad.add j)=φ u)(h1:∀u∈news,u.oneCell'=θ)(hn:n<=1000000)(aC:news≠ []->ad.block<w.heap.size):
 ύ prog 135 #[ζ (φ ad) n c] w λe w'=>∃v,e=Ω v/\w'.ownsRow w.heap.size 59 3 v n news/\Γ w.heap.size w w':=by
 obtain⟨i0,cR,cT,aN,ba⟩:=Ag9 VI;have dv:=ψ (ϐ cR (ϐ cT (ϐ aN ba)));have HC:Hid (∀j u,news[j]?=φ u->(w.alloc (Ξ #[] 59)).cell? (ad.add j)=φ u):=ψ (λj u hu=>(Afz w _ _ (by rw[cq];exact aC (by intro e;rw[e] at hu;simp at hu))).trans (hc j u hu))
 have HL:=ψ (ϐ hl h1);have HO:Hid ((w.alloc (Ξ #[] 59)).ownsRow w.heap.size 59 3 (ζ (φ ⟨w.heap.size,0,ν⟩) 0 0) 0 []):=ψ ⟨rfl,.inr ⟨w.heap.size,0,#[],rfl,ϊ _,Ag6 w _,ϊ _,by unfold ϗ;omega,rfl,rfl⟩⟩
 clear hl hc h1 cR cT aN ba aC;have q:∀(w:Ψ) (a:Option ϕ) (n c n' c':Nat),(binOp .eql 23 (ζ a n c) (ζ ν n' c')).run prog w=.ok (.bool a.isNone) w:=λw a n c n' c'=>Ahf w _ _ a n c n' c' (U Tryz.underlying23)
 go_enter func135,Tryz.ntmps135;go_wp2_with (first
  | (at_builtin
     refine Ahc _ rfl (.tmp 5) (.tmp 6) 23 rfl w.heap.size 59 i0 (η #[.string {data:=#[]},ξ κ 0,ζ ν 0 0]) 3 48 (U Tryz.underlying23) dv.e.1 dv.e.2.1 dv.e.2.2.1 dv.e.2.2.2 rfl (by decide) _ 0 _ rfl HO.e ad n c news rfl HL.e.1 HC.e HL.e.2 ?c3 ?c4 ?c5 ?_
     case c3=>(simp only[ϗ];omega)
     case c4=>omega
     case c5=>simp
     intro v' w1 cK dT _;have gW:=ψ cK;have gV:=ψ dT;clear cK dT))
 go_ret;refine⟨_,rfl,by have:=gW.e;rwa[Aib,Agr] at this,((Ϗ _ _).alloc (ϊ _) _).grown gV.e (by simp) (λk hk=>ei HO.e k hk)⟩
def aaA(n c:Nat)(w:Ψ):ύ prog 135 #[ζ ν n c] w λe w'=>e=Ω (ζ ν 0 0)/\w=w':=by
 have q:∀(w:Ψ) (a:Option ϕ) (n c n' c':Nat),(binOp .eql 23 (ζ a n c) (ζ ν n' c')).run prog w=.ok (.bool a.isNone) w:=λw a n c n' c'=>Ahf w _ _ a n c n' c' (U Tryz.underlying23)
 go_enter func135,Tryz.ntmps135;go_wp2;go_ret;exact⟨rfl,rfl⟩
def Su{α:Type}{f:α->List υ}{v:υ}{l:List α}{w:Ψ}{B:Nat}(h:Row w B 3 (λx cs=>cs=f x) v l)(hB:B<=w.heap.size)(hf:∀x,(f x).length=3)(h1:∀x∈l,∀u∈f x,u.oneCell'=θ)(hn:l.length<=1000000):
 ύ prog 135 #[v] w λe w'=>∃v',e=Ω v'/\w'.ownsRow w.heap.size 59 3 v' l.length (l.flatMap f)/\Γ w.heap.size w w':=by
 obtain⟨A,c,rfl,-⟩:=id h;cases A with
 |none=>
  have hl:l=[]:=by
   obtain⟨A,c',hv,h1,h2,h3⟩:=h;injection hv with hA
   refine Aa5 λaw=>?_
   obtain⟨ad,ha,_⟩:=h3 aw;rw[ha] at hA;cases hA
  subst hl;refine(aaA _ _ w).mono ?_
  rintro e w' ⟨rfl,rfl⟩;exact⟨_,rfl,⟨rfl,.inl ⟨rfl,rfl⟩⟩,Ϗ _ _⟩
 |some ad=>
  have hc:=h.cells hf;exact aaB (zT hf l) hc.1 (CZ l h1) hn (λaw=>by
   have:=hc.2 (by intro e;rw[e] at aw;simp at aw);omega)
def Oq:(prog.info? 95).map (λi=>(i.zero,i.size,i.bytes))=φ (φ (η #[ζ ν 0 0,ξ κ 0,ξ κ 0]),3,40):=by
 rw[pB];kernel_rfl
def aaO{ad:ϕ}{n c:Nat}{news:List υ}{w:Ψ}(hl:news.length=n * 3)(hc:∀j u,news[j]?=φ u-> w.cell? (ad.add j)=φ u)(h1:∀u∈news,u.oneCell'=θ)(hn:n<=1000000)(aC:news≠ []->ad.block<w.heap.size):
 ύ prog 158 #[ζ (φ ad) n c] w λe w'=>∃v,e=Ω v/\w'.ownsRow w.heap.size 95 3 v n news/\Γ w.heap.size w w':=by
 obtain⟨i0,cR,cT,aN,ba⟩:=Ag9 Oq;have dv:=ψ (ϐ cR (ϐ cT (ϐ aN ba)));have HC:Hid (∀j u,news[j]?=φ u->(w.alloc (Ξ #[] 95)).cell? (ad.add j)=φ u):=ψ (λj u hu=>(Afz w _ _ (by rw[cq];exact aC (by intro e;rw[e] at hu;simp at hu))).trans (hc j u hu))
 have HL:=ψ (ϐ hl h1);have HO:Hid ((w.alloc (Ξ #[] 95)).ownsRow w.heap.size 95 3 (ζ (φ ⟨w.heap.size,0,ν⟩) 0 0) 0 []):=ψ ⟨rfl,.inr ⟨w.heap.size,0,#[],rfl,ϊ _,Ag6 w _,ϊ _,by unfold ϗ;omega,rfl,rfl⟩⟩
 clear hl hc h1 cR cT aN ba aC;have q:∀(w:Ψ) (a:Option ϕ) (n c n' c':Nat),(binOp .eql 24 (ζ a n c) (ζ ν n' c')).run prog w=.ok (.bool a.isNone) w:=λw a n c n' c'=>Ahf w _ _ a n c n' c' (U Tryz.underlying24)
 go_enter func158,Tryz.ntmps158;go_wp2_with (first
  | (at_builtin
     refine Ahc _ rfl (.tmp 5) (.tmp 6) 24 rfl w.heap.size 95 i0 (η #[ζ ν 0 0,ξ κ 0,ξ κ 0]) 3 40 (U Tryz.underlying24) dv.e.1 dv.e.2.1 dv.e.2.2.1 dv.e.2.2.2 rfl (by decide) _ 0 _ rfl HO.e ad n c news rfl HL.e.1 HC.e HL.e.2 ?c3 ?c4 ?c5 ?_
     case c3=>(simp only[ϗ];omega)
     case c4=>omega
     case c5=>simp
     intro v' w1 cK dT _;have gW:=ψ cK;have gV:=ψ dT;clear cK dT))
 go_ret;refine⟨_,rfl,by have:=gW.e;rwa[Aib,Agr] at this,((Ϗ _ _).alloc (ϊ _) _).grown gV.e (by simp) (λk hk=>ei HO.e k hk)⟩
def aaN(n c:Nat)(w:Ψ):ύ prog 158 #[ζ ν n c] w λe w'=>e=Ω (ζ ν 0 0)/\w=w':=by
 have q:∀(w:Ψ) (a:Option ϕ) (n c n' c':Nat),(binOp .eql 24 (ζ a n c) (ζ ν n' c')).run prog w=.ok (.bool a.isNone) w:=λw a n c n' c'=>Ahf w _ _ a n c n' c' (U Tryz.underlying24)
 go_enter func158,Tryz.ntmps158;go_wp2;go_ret;exact⟨rfl,rfl⟩
def aaM{α:Type}{f:α->List υ}{v:υ}{l:List α}{w:Ψ}{B:Nat}(h:Row w B 3 (λx cs=>cs=f x) v l)(hB:B<=w.heap.size)(hf:∀x,(f x).length=3)(h1:∀x∈l,∀u∈f x,u.oneCell'=θ)(hn:l.length<=1000000):
 ύ prog 158 #[v] w λe w'=>∃v',e=Ω v'/\w'.ownsRow w.heap.size 95 3 v' l.length (l.flatMap f)/\Γ w.heap.size w w':=by
 obtain⟨A,c,rfl,-⟩:=id h;cases A with
 |none=>
  have hl:l=[]:=by
   obtain⟨A,c',hv,h1,h2,h3⟩:=h;injection hv with hA
   refine Aa5 λaw=>?_
   obtain⟨ad,ha,_⟩:=h3 aw;rw[ha] at hA;cases hA
  subst hl;refine(aaN _ _ w).mono ?_
  rintro e w' ⟨rfl,rfl⟩;exact⟨_,rfl,⟨rfl,.inl ⟨rfl,rfl⟩⟩,Ϗ _ _⟩
 |some ad=>
  have hc:=h.cells hf;exact aaO (zT hf l) hc.1 (CZ l h1) hn (λaw=>by
   have:=hc.2 (by intro e;rw[e] at aw;simp at aw);omega)
def agh:(prog.info? 37).map (λi=>(i.zero,i.size,i.bytes))=φ (φ (η #[ξ κ 0,ξ κ 0]),2,16):=by
 rw[pB];kernel_rfl
def aaL{ad:ϕ}{n c:Nat}{news:List υ}{w:Ψ}(hl:news.length=n * 2)(hc:∀j u,news[j]?=φ u-> w.cell? (ad.add j)=φ u)(h1:∀u∈news,u.oneCell'=θ)(hn:n<=1000000)(aC:news≠ []->ad.block<w.heap.size):
 ύ prog 179 #[ζ (φ ad) n c] w λe w'=>∃v,e=Ω v/\w'.ownsRow w.heap.size 37 2 v n news/\Γ w.heap.size w w':=by
 obtain⟨i0,cR,cT,aN,ba⟩:=Ag9 agh;have dv:=ψ (ϐ cR (ϐ cT (ϐ aN ba)));have HC:Hid (∀j u,news[j]?=φ u->(w.alloc (Ξ #[] 37)).cell? (ad.add j)=φ u):=ψ (λj u hu=>(Afz w _ _ (by rw[cq];exact aC (by intro e;rw[e] at hu;simp at hu))).trans (hc j u hu))
 have HL:=ψ (ϐ hl h1);have HO:Hid ((w.alloc (Ξ #[] 37)).ownsRow w.heap.size 37 2 (ζ (φ ⟨w.heap.size,0,ν⟩) 0 0) 0 []):=ψ ⟨rfl,.inr ⟨w.heap.size,0,#[],rfl,ϊ _,Ag6 w _,ϊ _,by unfold ϗ;omega,rfl,rfl⟩⟩
 clear hl hc h1 cR cT aN ba aC;have q:∀(w:Ψ) (a:Option ϕ) (n c n' c':Nat),(binOp .eql 57 (ζ a n c) (ζ ν n' c')).run prog w=.ok (.bool a.isNone) w:=λw a n c n' c'=>Ahf w _ _ a n c n' c' (U Tryz.underlying57)
 go_enter func179,Tryz.ntmps179;go_wp2_with (first
  | (at_builtin
     refine Ahc _ rfl (.tmp 5) (.tmp 6) 57 rfl w.heap.size 37 i0 (η #[ξ κ 0,ξ κ 0]) 2 16 (U Tryz.underlying57) dv.e.1 dv.e.2.1 dv.e.2.2.1 dv.e.2.2.2 rfl (by decide) _ 0 _ rfl HO.e ad n c news rfl HL.e.1 HC.e HL.e.2 ?c3 ?c4 ?c5 ?_
     case c3=>(simp only[ϗ];omega)
     case c4=>omega
     case c5=>simp
     intro v' w1 cK dT _;have gW:=ψ cK;have gV:=ψ dT;clear cK dT))
 go_ret;refine⟨_,rfl,by have:=gW.e;rwa[Aib,Agr] at this,((Ϗ _ _).alloc (ϊ _) _).grown gV.e (by simp) (λk hk=>ei HO.e k hk)⟩
def aaK(n c:Nat)(w:Ψ):ύ prog 179 #[ζ ν n c] w λe w'=>e=Ω (ζ ν 0 0)/\w=w':=by
 have q:∀(w:Ψ) (a:Option ϕ) (n c n' c':Nat),(binOp .eql 57 (ζ a n c) (ζ ν n' c')).run prog w=.ok (.bool a.isNone) w:=λw a n c n' c'=>Ahf w _ _ a n c n' c' (U Tryz.underlying57)
 go_enter func179,Tryz.ntmps179;go_wp2;go_ret;exact⟨rfl,rfl⟩
def aaJ{α:Type}{f:α->List υ}{v:υ}{l:List α}{w:Ψ}{B:Nat}(h:Row w B 2 (λx cs=>cs=f x) v l)(hB:B<=w.heap.size)(hf:∀x,(f x).length=2)(h1:∀x∈l,∀u∈f x,u.oneCell'=θ)(hn:l.length<=1000000):
 ύ prog 179 #[v] w λe w'=>∃v',e=Ω v'/\w'.ownsRow w.heap.size 37 2 v' l.length (l.flatMap f)/\Γ w.heap.size w w':=by
 obtain⟨A,c,rfl,-⟩:=id h;cases A with
 |none=>
  have hl:l=[]:=by
   obtain⟨A,c',hv,h1,h2,h3⟩:=h;injection hv with hA
   refine Aa5 λaw=>?_
   obtain⟨ad,ha,_⟩:=h3 aw;rw[ha] at hA;cases hA
  subst hl;refine(aaK _ _ w).mono ?_
  rintro e w' ⟨rfl,rfl⟩;exact⟨_,rfl,⟨rfl,.inl ⟨rfl,rfl⟩⟩,Ϗ _ _⟩
 |some ad=>
  have hc:=h.cells hf;exact aaL (zT hf l) hc.1 (CZ l h1) hn (λaw=>by
   have:=hc.2 (by intro e;rw[e] at aw;simp at aw);omega)
def VG:(prog.info? 3).map (λi=>(i.zero,i.size,i.bytes))=φ (φ (ξ κ 0),1,8):=by
 rw[pB];kernel_rfl
def aaF{ad:ϕ}{n c:Nat}{news:List υ}{w:Ψ}(hl:news.length=n * 1)(hc:∀j u,news[j]?=φ u-> w.cell? (ad.add j)=φ u)(h1:∀u∈news,u.oneCell'=θ)(hn:n<=1000000)(aC:news≠ []->ad.block<w.heap.size):
 ύ prog 180 #[ζ (φ ad) n c] w λe w'=>∃v,e=Ω v/\w'.ownsRow w.heap.size 3 1 v n news/\Γ w.heap.size w w':=by
 obtain⟨i0,cR,cT,aN,ba⟩:=Ag9 VG;have dv:=ψ (ϐ cR (ϐ cT (ϐ aN ba)));have HC:Hid (∀j u,news[j]?=φ u->(w.alloc (Ξ #[] 3)).cell? (ad.add j)=φ u):=ψ (λj u hu=>(Afz w _ _ (by rw[cq];exact aC (by intro e;rw[e] at hu;simp at hu))).trans (hc j u hu))
 have HL:=ψ (ϐ hl h1);have HO:Hid ((w.alloc (Ξ #[] 3)).ownsRow w.heap.size 3 1 (ζ (φ ⟨w.heap.size,0,ν⟩) 0 0) 0 []):=ψ ⟨rfl,.inr ⟨w.heap.size,0,#[],rfl,ϊ _,Ag6 w _,ϊ _,by unfold ϗ;omega,rfl,rfl⟩⟩
 clear hl hc h1 cR cT aN ba aC;have q:∀(w:Ψ) (a:Option ϕ) (n c n' c':Nat),(binOp .eql 33 (ζ a n c) (ζ ν n' c')).run prog w=.ok (.bool a.isNone) w:=λw a n c n' c'=>Ahf w _ _ a n c n' c' (U Tryz.underlying33)
 go_enter func180,Tryz.ntmps180;go_wp2_with (first
  | (at_builtin
     refine Ahc _ rfl (.tmp 5) (.tmp 6) 33 rfl w.heap.size 3 i0 (ξ κ 0) 1 8 (U Tryz.underlying33) dv.e.1 dv.e.2.1 dv.e.2.2.1 dv.e.2.2.2 rfl (by decide) _ 0 _ rfl HO.e ad n c news rfl HL.e.1 HC.e HL.e.2 ?c3 ?c4 ?c5 ?_
     case c3=>(simp only[ϗ];omega)
     case c4=>omega
     case c5=>simp
     intro v' w1 cK dT _;have gW:=ψ cK;have gV:=ψ dT;clear cK dT))
 go_ret;refine⟨_,rfl,by have:=gW.e;rwa[Aib,Agr] at this,((Ϗ _ _).alloc (ϊ _) _).grown gV.e (by simp) (λk hk=>ei HO.e k hk)⟩
def aaE(n c:Nat)(w:Ψ):ύ prog 180 #[ζ ν n c] w λe w'=>e=Ω (ζ ν 0 0)/\w=w':=by
 have q:∀(w:Ψ) (a:Option ϕ) (n c n' c':Nat),(binOp .eql 33 (ζ a n c) (ζ ν n' c')).run prog w=.ok (.bool a.isNone) w:=λw a n c n' c'=>Ahf w _ _ a n c n' c' (U Tryz.underlying33)
 go_enter func180,Tryz.ntmps180;go_wp2;go_ret;exact⟨rfl,rfl⟩
def aaD{α:Type}{f:α->List υ}{v:υ}{l:List α}{w:Ψ}{B:Nat}(h:Row w B 1 (λx cs=>cs=f x) v l)(hB:B<=w.heap.size)(hf:∀x,(f x).length=1)(h1:∀x∈l,∀u∈f x,u.oneCell'=θ)(hn:l.length<=1000000):
 ύ prog 180 #[v] w λe w'=>∃v',e=Ω v'/\w'.ownsRow w.heap.size 3 1 v' l.length (l.flatMap f)/\Γ w.heap.size w w':=by
 obtain⟨A,c,rfl,-⟩:=id h;cases A with
 |none=>
  have hl:l=[]:=by
   obtain⟨A,c',hv,h1,h2,h3⟩:=h;injection hv with hA
   refine Aa5 λaw=>?_
   obtain⟨ad,ha,_⟩:=h3 aw;rw[ha] at hA;cases hA
  subst hl;refine(aaE _ _ w).mono ?_
  rintro e w' ⟨rfl,rfl⟩;exact⟨_,rfl,⟨rfl,.inl ⟨rfl,rfl⟩⟩,Ϗ _ _⟩
 |some ad=>
  have hc:=h.cells hf;exact aaF (zT hf l) hc.1 (CZ l h1) hn (λaw=>by
   have:=hc.2 (by intro e;rw[e] at aw;simp at aw);omega)
end Go.Tw
namespace Go.Tw
variable [Go.Tw.aR]
open Go Go.Proofs Go.RowKit
def cW{α:Type}(w:Ψ)(No:Nat->Prop)(sz:Nat)(R:α->List υ->Prop)(v:υ)(xs:List α):Prop:=
 ∃A c,v=ζ A xs.length c/\xs.length<=c/\c<=ϗ/\(xs≠ []->∃ad,A=φ ad/\ad.block<w.heap.size/\¬No ad.block/\
  ∀i x,xs[i]?=φ x->∃cs,R x cs/\cs.length=sz/\∀j u,cs[j]?=φ u-> w.cell? (ad.add (i * sz+j))=φ u)
section
variable {α:Type}{w w':Ψ}{No Gf:Nat->Prop}{B sz:Nat}{R:α->List υ->Prop}{v:υ}{xs:List α}
def cW.grown{row:Option Nat}(h:cW w No sz R v xs)(hg:w.grownBy w' row)(hr:∀k,row=φ k->No k):cW w' No sz R v xs:=by
 obtain⟨A,c,hv,h1,h2,h3⟩:=h;refine⟨A,c,hv,h1,h2,λhx=>?_⟩
 obtain⟨ad,ha,hb,hn,hc⟩:=h3 hx;refine⟨ad,ha,Ϡ hb hg.size,hn,λi x hi=>?_⟩
 obtain⟨cs,r,hl,au⟩:=hc i x hi;refine⟨cs,r,hl,λj u hu=>?_⟩
 refine(Aho (hg.block (ad.add (i * sz+j)).block (by rw[cq];exact hb) (λe=>hn ?_))).trans (au j u hu)
 rw[cq] at e;exact hr _ e.symm
def Row.um(h:Row w B sz R v xs)(hB:B<=w.heap.size)(hN:∀k,No k->B<=k):cW w No sz R v xs:=by
 obtain⟨A,c,hv,h1,h2,h3⟩:=h;refine⟨A,c,hv,h1,h2,λhx=>?_⟩
 obtain⟨ad,ha,hb,hc⟩:=h3 hx;exact⟨ad,ha,by omega,λhk=>by have:=hN _ hk;omega,hc⟩
def Row.mem(h:Row w B sz R v xs):∀x∈xs,∃cs,R x cs:=λx hx=>by
 obtain⟨A,c,hv,h1,h2,h3⟩:=h;obtain⟨i,hi⟩:=Ah0 hx
 obtain⟨ad,ha,hb,hc⟩:=h3 (by intro e;subst e;simp at hi)
 obtain⟨cs,r,_⟩:=hc i x hi;exact⟨cs,r⟩
def cW.row(h:cW w No sz R v xs):Row w w.heap.size sz R v xs:=by
 obtain⟨A,c,hv,h1,h2,h3⟩:=h;refine⟨A,c,hv,h1,h2,λhx=>?_⟩
 obtain⟨ad,ha,hb,hn,hc⟩:=h3 hx;exact⟨ad,ha,hb,hc⟩
def cW.below(h:cW w No sz R v xs)(hb:Γ w.heap.size w w')(hN:∀k,Gf k->No k\/w.heap.size<=k):cW w' Gf sz R v xs:=by
 obtain⟨A,c,hv,h1,h2,h3⟩:=h;refine⟨A,c,hv,h1,h2,λhx=>?_⟩
 obtain⟨ad,ha,hl,hn,hc⟩:=h3 hx;refine⟨ad,ha,Ϡ hl hb.size,λhk=>?_,λi x hi=>?_⟩
 ·rcases hN _ hk with h|h
  ·exact hn h
  ·omega
 ·obtain⟨cs,r,oz,au⟩:=hc i x hi
  exact⟨cs,r,oz,λj u hu=>(hb.cell (by rw[cq];exact hl)).trans (au j u hu)⟩
def cW.weaken(h:cW w No sz R v xs)(hN:∀k,Gf k->No k):cW w Gf sz R v xs:=h.below (Ϗ _ _) (λk hk=>Or.inl (hN k hk))
def cW.vO{base:Nat}{e:ό}{f:α->List υ}(h:w.ownsRow base e sz v xs.length (xs.flatMap f))(hf:∀x,(f x).length=sz)(hR:∀x∈xs,R x (f x))(hN:∀k,No k->k<base):cW w No sz R v xs:=by
 obtain⟨A,c,hv,h1,h2,h3⟩:=lu (R:=R) h hf hR;refine⟨A,c,hv,h1,h2,λhx=>?_⟩
 obtain⟨ad,ha,hb,hc⟩:=h3 hx;refine⟨ad,ha,hb,λhk=>?_,hc⟩
 have:=ei h ad.block (by rw[hv,ha];rfl)
 have:=hN _ hk;omega
end
def I1{α β:Type}[Inhabited β]{w:Ψ}{B sz:Nat}{R:α->List υ->Prop}{R':α×β->List υ->Prop}{v:υ}{xs:List α}(h:Row w B sz R v xs)(hR:∀x cs,R x cs->∃k,R' (x,k) cs):
 ∃ps:List (α×β),ps.map Prod.fst=xs/\Row w B sz R' v ps:=by
 obtain⟨A,c,hv,h1,h2,h3⟩:=h;by_cases hx:xs=[]
 ·subst hx
  exact⟨[],rfl,A,c,hv,h1,h2,λh=>absurd rfl h⟩
 obtain⟨ad,ha,hb,hc⟩:=h3 hx;have hk:∀i,∃k:β,∀x,xs[i]?=φ x->∃cs,R' (x,k) cs/\cs.length=sz/\∀j u,cs[j]?=φ u-> w.cell? (ad.add (i * sz+j))=φ u:=λi=>by
  cases e:xs[i]? with
  |none=>exact⟨default,λx hx=>by cases hx⟩
  |some x=>
   obtain⟨cs,r,hl,au⟩:=hc i x e;obtain⟨k,hk⟩:=hR x cs r;exact⟨k,λy hy=>by injection hy with hy;subst hy;exact⟨cs,hk,hl,au⟩⟩
 obtain⟨K,hK⟩:=Classical.axiomOfChoice hk;refine⟨xs.mapIdx λi x=>(x,K i),?_,A,c,by simpa using hv,by simpa using h1,h2,λ_=>⟨ad,ha,hb,λi p hi=>?_⟩⟩
 ·apply List.ext_getElem?;intro i
  simp;cases xs[i]?<;>rfl
 ·simp only[List.getElem?_mapIdx] at hi
  cases e:xs[i]? with
  |none=>rw[e] at hi;cases hi
  |some x=>
   rw[e] at hi;simp at hi;subst hi
   exact hK i x e
instance:Inhabited υ:=⟨ζ ν 0 0⟩
def vV(p:Piece):List υ:=[.string p.name,ξ κ p.len.lo,ξ κ p.len.hi,ξ κ p.bears]
def eP(p:bR×υ):List υ:=[.string p.1.name,ξ κ p.1.aH,p.2]
def eG(p:Tape×υ):List υ:=[p.2,ξ κ p.1.sum.lo,ξ κ p.1.sum.hi]
def lj{w:Ψ}{base:Nat}{e:ό}{sz n:Nat}{v u:υ}{p:ϕ}{xs:List υ}(h:w.ownsRow base e sz v n xs)(hp:∀k,v.ownBlock=φ k->p.block≠k):(w.setCell p u).ownsRow base e sz v n xs:=by
 refine⟨h.1,?_⟩
 rcases h.2 with h0| ⟨g,cap,cur,h1,h2,h3,h4⟩
 ·exact .inl h0
 ·exact .inr ⟨g,cap,cur,h1,h2,(Afu _ _ _ _ (by rw[h1] at hp;exact Ne.symm (hp g rfl))).trans h3,h4⟩
def EJ{w w':Ψ}{base:Nat}{e:ό}{sz n:Nat}{v:υ}{xs:List υ}{row:Option Nat}(h:w.ownsRow base e sz v n xs)(hg:w.grownBy w' row)(hp:∀k,v.ownBlock=φ k->row≠φ k):w'.ownsRow base e sz v n xs:=by
 refine⟨h.1,?_⟩
 rcases h.2 with h0| ⟨g,cap,cur,h1,h2,h3,h4⟩
 ·exact .inl h0
 ·exact .inr ⟨g,cap,cur,h1,h2,(hg.block g (Ϟ.1 h3).1 (by rw[h1] at hp;exact Ne.symm (hp g rfl))).trans h3,h4⟩
def vU{w:Ψ}{base:Nat}{e:ό}{sz n:Nat}{v:υ}{xs:List υ}(h:w.ownsRow base e sz v n xs)(k:Nat)(hk:v.ownBlock=φ k):k<w.heap.size:=by
 rcases h.2 with⟨h0,_⟩ | ⟨g,cap,cur,h1,h2,h3,h4⟩
 ·rw[h0] at hk;cases hk
 ·rw[h1] at hk;injection hk with hk;subst hk;exact(Ϟ.1 h3).1
def Be{w:Ψ}{base:Nat}{e:ό}{sz n m c:Nat}{A:Option ϕ}{xs:List υ}(h:w.ownsRow base e sz (ζ A m c) n xs):m=n:=by
 rcases h.2 with⟨h0,h1⟩ | ⟨g,cap,cur,h1,h2,h3,h4⟩
 ·injection h0 with _ h0;omega
 ·injection h1
def Wt{w:Ψ}{base:Nat}{e:ό}{sz n m c:Nat}{A:Option ϕ}{xs:List υ}(h:w.ownsRow base e sz (ζ A m c) n xs):m<=c/\c<=2 ^ 63 - 1:=by
 rcases h.2 with⟨h0,h1⟩ | ⟨g,cap,cur,h1,h2,h3,h4,h5,_⟩
 ·injection h0 with _ h0 h2;omega
 ·injection h1 with _ h6 h7;unfold ϗ at h5;omega
def Ww{w:Ψ}{base:Nat}{e:ό}{sz n m c:Nat}{A:Option ϕ}{xs:List υ}(h:w.ownsRow base e sz (ζ A m c) n xs)(hm:0<m):∃g,A=φ ⟨g,0,ν⟩:=by
 rcases h.2 with⟨h0,h1⟩ | ⟨g,cap,cur,h1,_⟩
 ·injection h0 with _ h0;omega
 ·injection h1 with h1;exact⟨g,h1⟩
def uV(w:Ψ)(p:ϕ)(u:υ):w.grownBy (w.setCell p u) (φ p.block):=
 ⟨rfl,rfl,rfl,by simp,λk _ hk=>Afu _ _ _ _ (by intro e;exact hk (by rw[e]))⟩
end Go.Tw
