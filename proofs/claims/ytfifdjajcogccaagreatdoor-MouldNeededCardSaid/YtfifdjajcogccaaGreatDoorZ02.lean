import Derived.Test.YtfifdjajcogccaaGreatDoorZ01
import Derived.Laws.EntriesVeiled
import Derived.DeepKeys5
import Derived.Laws.CopyOwn
set_option linter.all false
set_option maxHeartbeats 0
set_option maxRecDepth 100000
open And renaming intro -> Ϗ
open Array renaming getElem?_eq_some_iff -> ϛ, replicate_succ -> ŗ, replicate_zero -> Ř, getElem?_toList -> ī, ext_getElem? -> ŝ
open Bool renaming false_eq -> Ž, eq_false_iff -> Ag7, and_eq_true -> ϩ
open Classical renaming byContradiction -> Û
open Go renaming heap_alloc_new -> ŧ, Operand -> Ë, Ending -> Ň, Program -> ϕ, grownBy_putObj' -> Ĭ, Calls -> ύ, info_parts -> Ą, maxLen -> ϑ, run_takeDeferred -> Ahc, bodyPost_ret -> à, wpList_append_own -> ĭ, wpList -> û, wpAnyH -> ą, NoPanic -> Ş, yielded -> Ê
open Go.Addr renaming add -> ċ
open Go.Fence renaming wide -> ø
open Go.Instr renaming index -> ğ, lookup -> Ŕ, mapUpdate -> ŕ
open Go.IntKind renaming i64 -> ϙ
open Go.Lib renaming run_eql_slice_nil -> Į
open Go.Obj renaming cells -> ϣ
open Go.Oper renaming semAt_some -> Ahl, wp -> ž
open Go.Program renaming fieldsOf -> ň
open Go.Region renaming ready -> Ç, noSelect -> Ahp, wanted -> Ä
open Go.Result renaming andThen -> Ũ
open Go.RowKit renaming intOf -> ϗ
open Go.RowKit.Below renaming heap_setCell -> Ô, grown -> Ahs, setCell -> Ĺ, refl -> ώ, alloc -> ũ
open Go.Value renaming int -> Ϝ
open Go.World renaming putObj_heap_same -> Ŋ, putObj_heap_other -> Á, setCell -> ï, size_alloc -> Ahx, cell?_alloc_lt -> ù, grownBy_alloc -> ϯ
open Go.World.ownsRow renaming alloc -> ŋ
open List renaming nil_append -> ì, size_toArray -> ř, length_cons -> Ă, length_nil -> Ś, push_toArray -> ś, append_toArray -> Ķ, cons_append -> ķ, flatMap_append -> ă, flatMap_singleton -> Ah0, append_nil -> Ah1, flatMap_cons -> Ġ, getElem?_append_left -> Ah3, getElem?_eq_some_iff -> Ϯ, getElem?_append_right -> Ū, mem_of_getElem? -> Ϩ, length_append -> Ĉ, mem_flatMap -> ĺ, mem_map -> ó, mem_range -> ş, length_filter_le -> Agd, take_of_length_le -> Ċ, map_append -> Ah8, range -> ε, length_singleton -> Af7, getElem?_eq_getElem -> Ã, take_succ_cons -> ê, take_zero -> ë, drop_succ_cons -> ñ, drop_zero -> ò, mem_append -> ĉ, exists_of_findSome?_eq_some -> ū, range_succ -> Ŭ, getElem?_eq_none -> Aib, dropLast_concat_getLast -> Aic, getLast?_eq_some_getLast -> Aid, mem_of_getLast? -> Aie, eq_nil_of_length_eq_zero -> Ō, length_map -> ü, getElem?_map -> Š, count_le_length -> Aii
open Nat renaming reduceAdd -> ĸ, reduceSub -> Ŝ, le_refl -> ϊ, zero_add -> ŭ, add_mul -> Aik, mul_le_mul_right -> Ail, le_trans -> ϡ, pow_le_pow_right -> Aim, zero_le -> Ϡ, le_of_eq -> ú, min_eq_left -> Ain, lt_succ_iff_lt_or_eq -> Æ, blt_eq -> Aio
open Option.some renaming inj -> Ϟ
open Bool renaming true -> θ, false -> χ
open Go renaming Value -> υ, undef -> ω, World -> Ψ
open Go.Ending renaming returned -> Ω
open Go.IntKind renaming i64 -> κ
open Go.Lib renaming hid -> ψ
open Go.Obj renaming cells -> Ξ
open Go.RowKit renaming Below -> Γ, Below -> Γ
open Go.Value renaming slice -> ζ, pointer -> π, tuple -> μ, agg -> η, int -> ξ
open Option renaming some -> φ, none -> ν
variable{α:Type}{ops:Array Go.Oper}{ps:Array Go.Tmp}{lb tmps cs kE:Array υ}{ad p:Go.Addr}{assign body:Go.Code}{fn:Go.FuncId}{rc:Go.Loop}{o:Go.Obj}{P:Go.Program}{x:Go.Tw.bN}{b:Go.Tw.eR}{e:Go.TypeId}{a m bd fr ln be d a' c':Int}{rest:List Go.Oper}{out:List Go.Tw.al}{xs news:List υ}{B g n k c l K D cap i f KO KM:Nat}{w W w' W' Wb W4 w2:Ψ}{bv pv tv v lv u sv av:υ}
namespace Go.Tw
variable [Go.Tw.aK]
open Go Go.Proofs Go.RowKit
attribute [local go_sem] AZ AY Ahl
def wK(h:g=w.heap.size):(w.alloc o).heap[g]?=φ o:=by subst h;exact ŧ w _
def nB{o':Obj}(h:w.heap[g]?=φ o'):(w.alloc o).heap[g]?=φ o':=(Below.heap_alloc w o g (ϛ.1 h).1).trans h
def acO{rec:Loop}(hB:B<=w.heap.size)(ah:aQ w B b pv bv tv)(cD:Bs b)(oP:∀p∈b.pieces,0<=p.len.lo/\p.len.hi<=1000)(h3:b.pieces.length<=3)(hK:(aB b).length<=1000)(hY:LS w b pv bv tv rec)
 (hs:W.heap.size=w.heap.size+4)(hc:Bk W (w.heap.size+1) 115 #[ζ ν 0 0])(hd:W.heap[w.heap.size+2]?=φ (.deferred (φ [])))(hl:W.heap[w.heap.size+3]?=φ (.loop rec))(hb:Γ w.heap.size w W)(m:Nat):
 CallsIn ø m prog 162 #[η #[ξ κ b.ab,pv,bv,tv],.func (.yield (w.heap.size+3)) #[] #[]] W
  λe W'=>(∃v,e=Ω v)/\∃n',AI w b pv bv tv rec n' (aB b) W':=by
 obtain⟨W2,ia⟩:∃W2,W2=((((W.alloc (Ξ #[ξ κ b.ab,pv,bv,tv] 117)).alloc (Ξ #[.func (.yield (w.heap.size+3)) #[] #[]] 182)).alloc (Ξ #[ξ κ 0,ξ κ 0,ξ κ 0] 128)).alloc (Ξ #[.func (.func 188) #[] #[π (φ ⟨W.heap.size,0,ν⟩),π (φ ⟨W.heap.size+1+1,0,ν⟩),π (φ ⟨W.heap.size+1,0,ν⟩),π (φ ⟨W.heap.size+1+1+1,0,ν⟩)]] 158)):=⟨_,rfl⟩
 have e4:w.heap.size+4=W.heap.size:=by omega
 have e5:w.heap.size+5=W.heap.size+1:=by omega
 have e6:w.heap.size+6=W.heap.size+1+1:=by omega
 have e7:w.heap.size+7=W.heap.size+1+1+1:=by omega
 have Il:AI w b pv bv tv rec ⟨0,0,0⟩ [] W2:=by
  subst ia;refine⟨?_,?_,?_,?_,⟨ζ ν 0 0,?_,by simp,.inl ⟨rfl,rfl⟩⟩,?_,?_,?_⟩
  ·rw[e4];exact(((Bk.bZ rfl _ _).alloc _).alloc _).alloc _
  ·rw[e5];exact((Bk.bZ (by simp) _ _).alloc _).alloc _
  ·rw[e6];exact(Bk.bZ (by simp) _ _).alloc _
  ·rw[e4,e5,e6,e7];exact Bk.bZ (by simp) _ _
  ·exact(((hc.alloc _).alloc _).alloc _).alloc _
  ·exact nB (nB (nB (nB hd)))
  ·exact nB (nB (nB (nB hl)))
  ·exact(((hb.alloc (by omega) _).alloc (by simp;omega) _).alloc (by simp;omega) _).alloc (by simp;omega) _
 have eT:=XB hB ah cD oP h3 hY b.pieces.length 0 ⟨0,0,0⟩ [] W2 (m - 1) (by omega) (λq=>by unfold al.at;simp) (by simpa [aB] using hK) Il
 rw[e4,e5,e6,e7,show((0:Nat):Int)=0 from rfl,ì] at eT
 obtain⟨A1,n1,c1,rfl,-⟩:=ah.pieces.Φ;obtain⟨A2,n2,c2,rfl,-⟩:=ah.aC.Φ;obtain⟨A3,n3,c3,rfl,-⟩:=ah.aI.Φ;subst ia;have La:=ψ eT;clear eT ah hY hd hl hb hc hs Il e4 e5 e6 e7;refine callsIn_of_wp func162 rfl trivial ?_
 simp only[Tryz.ntmps162,ř,Ă,Ś,ĸ,Ŝ,ŗ,Ř,ś,Ķ,ì,ķ]
 gi_wp2_with (first
  | (gi_at_call 188;refine La.e.mono ?_;rintro e w1 ⟨rfl,n2,oG,Ik,zF⟩;have Lm:=ψ zF;clear zF Ik))
 go_end0
 exact⟨⟨_,rfl⟩,n2,Lm.e⟩
end Go.Tw
namespace Go.Tw
variable [Go.Tw.aK]
open Go Go.Proofs Go.RowKit
def AF(fn:FuncId)(tmps:Array υ)(ps:Array Tmp)(assign body:Code)(D:Nat):Loop:={state:=.ready,pending:=ν,fn,tmps,params:=ps,assign,body,defers:=D}
def Qf{g:Ë}{Q:Exit->Act->Ψ->Prop}{a:Act}{gf:Nat}{pre:Array υ}
 (hg:a.eval g=.func (.func gf) pre lb)(eg:∀args w,(callFunc gf args).run P w=.ok (.enter gf args) w)
 (h:∀fn rc,Hid (rc=AF fn a.tmps ps assign body w.heap.size)->CallsIn ø (n - 1) P gf (pre++#[.func (.yield (w.heap.size+1)) #[] #[]]++lb) ((w.alloc (.deferred (φ []))).alloc (.loop rc))
   (rangePost ø n P (w.heap.size+1) Q {a with defers:={target:=.collected w.heap.size,args:=#[]}::a.defers})):
 (Code.rangeFunc g ps assign body).wpIn ø n P Q a w:=by
 refine wpIn_rangeFunc λfn _=>?_
 obtain⟨W1,eS⟩:∃W1,W1=(w.alloc (.deferred (φ []))).alloc (.loop (AF fn a.tmps ps assign body w.heap.size)):=⟨_,rfl⟩
 have h1:=h fn _ (ψ rfl);rw[<-eS] at h1;have r1:(Instr.enterLoop fn a.tmps ps assign body ø.round).run P w=.ok (w.heap.size+1,[{target:=.collected w.heap.size,args:=#[]}]) W1:=by
  rw[eS];exact run_enterLoop_outer fn a.tmps ps assign body
 have r2:(resolve a.eval (rangeCall g (w.heap.size+1)) 0).run P W1=.ok {target:=.fn (.func gf) lb,args:=pre++#[.func (.yield (w.heap.size+1)) #[] #[]]} W1:=by
  simp only[resolve,hg];simp[go_sem]
 have r3:(invoke (.fn (.func gf) lb) (pre++#[.func (.yield (w.heap.size+1)) #[] #[]])).run P W1=.ok (.enter gf (pre++#[.func (.yield (w.heap.size+1)) #[] #[]]++lb)) W1:=by
  simp[invoke,go_sem,eg]
 refine⟨_,_,_,_,_,_,_,_,r1,r2,?_,r3,?_,?_⟩
 ·intro f' _;trivial
 ·intro h;cases h
 ·exact h1
def Rh{m:Nat}{args:Array υ}{R:Ň->Ψ->Prop}
 (iD:Hid (rc=AF fn tmps ps assign body D))(hl:W.heap[l]?=φ (.loop rc))(vv:args.size=ps.size)
 (h:assign.wpIn (ø.inRound l) n P (Exit.then (λbJ aa=>∃au,(Instr.beginRound l).run P aa=.ok () au/\body.wpIn (ø.inRound l) n P (roundPost P l R) bJ au) (λ_ _ _=>False))
   {tmps:=(ps.zip args).foldl (λt (p,v)=>t.setIfInBounds p v) tmps,defers:=[]} W):YieldAt ø m P l args W R:=by
 rw[iD.e] at hl;refine⟨fn,_,assign,body,run_yield hl vv,?_⟩
 have:=roundIn_of_wpIn (F:=ø) (l:=l) (f:=fn) (R:=R) trivial h;exact⟨trivial,λc cs _=>this.2 c cs (room_wide _)⟩
def Mn(iD:Hid (rc=AF fn tmps ps assign body D))(hl:W.heap[l]?=φ (.loop rc)):
 (Instr.beginRound l).run P W=.ok () (W.putObj l (.loop {rc with state:=.busy})):=run_beginRound hl (by rw[iD.e];rfl)
def ang{P:ϕ}(iD:Hid (rc=AF fn tmps ps assign body D))(hl:W.heap[l]?=φ (.loop {rc with state:=.busy})):
 (Instr.endRound l ν).run P W=.ok (.bool θ) (W.putObj l (.loop rc)):=by
 rw[run_endRound ν hl,iD.e];rfl
def MR(iD:Hid (rc=AF fn tmps ps assign body D))(hl:W.heap[l]?=φ (.loop rc)):
 (Instr.endLoop l).run P W=.ok ν (W.putObj l (.loop {rc with state:=.exhausted})):=by
 rw[run_endLoop hl (by rw[iD.e];simp[AF]),iD.e];rfl
def TU{P:ϕ}(j:Code)(hl:W.heap[l]?=φ (.loop {rc with state:=.busy})):
 (Instr.endRound l (φ j)).run P W=.ok (.bool χ) (W.putObj l (.loop {rc with state:=.done,pending:=φ j})):=run_endRound (r:={rc with state:=.busy}) (φ j) hl
def TY{P:ϕ}{j:Code}(hl:W.heap[l]?=φ (.loop {rc with state:=.done,pending:=φ j})):
 (Instr.endLoop l).run P W=.ok (φ j) (W.putObj l (.loop {rc with state:=.exhausted,pending:=φ j})):=run_endLoop (r:={rc with state:=.done,pending:=φ j}) hl (by simp)
end Go.Tw
namespace Go.Tw
variable [Go.Tw.aK]
open Go Go.Proofs Go.RowKit
attribute [local go_sem] AZ AY Ahl
def ajl:(prog.info? 128).map (λi=>(i.zero,i.size,i.bytes))=φ (φ (η #[ξ κ 0,ξ κ 0,ξ κ 0]),3,24):=by
 rw[qS];kernel_rfl
structure RB(w W Wb:Ψ)(rc:Loop)(v:υ)(n:al)(out:List al):Prop where
 size:Wb.heap.size=W.heap.size+1
 l:Wb.heap[w.heap.size+3]?=φ (.loop {rc with state:=.busy})
 o:Bk Wb (w.heap.size+1) 115 #[v]
 own:Wb.ownsRow (w.heap.size+8) 128 3 v out.length (out.flatMap al.vs)
 nb:Bk Wb W.heap.size 128 n.cs
 old:∀g,g<W.heap.size->g≠w.heap.size+3->Wb.heap[g]?=W.heap[g]?
 below:Γ w.heap.size w Wb
def RB.mk'{m n:al}(h:AI w b pv bv tv rc m out W):
 ∃v,RB w W ((W.alloc (.cells n.cs 128)).putObj (w.heap.size+3) (.loop {rc with state:=.busy})) rc v n out:=by
 obtain⟨v,v1,v2⟩:=h.o;have hx:=h.x.lt;refine⟨v,⟨by simp,Ŋ (by simp;omega),?_,?_,?_,λg hg aw=>?_,?_⟩⟩
 ·exact(Á (by omega)).trans (v1.alloc _)
 ·refine⟨v2.1,?_⟩
  rcases v2.2 with h0| ⟨g,cap,cur,h1,h2,h3,h4⟩
  ·exact .inl h0
  ·exact .inr ⟨g,cap,cur,h1,h2,(Á (by omega)).trans (nB h3),h4⟩
 ·exact(Á (by omega)).trans (Bk.new W _ _)
 ·exact(Á (by omega)).trans (Below.heap_alloc _ _ _ hg)
 ·exact(h.below.alloc (by omega) _).grown (Ĭ _ _ _) (by simp;omega) (λk hk=>by cases hk;omega)
def iI{base:Nat}{sz:Nat}(h:w.ownsRow base e sz v n xs):∃A m c,v=ζ A m c:=by
 rcases h.2 with⟨rfl,_⟩ | ⟨g,cap,cur,rfl,_⟩
 ·exact⟨_,_,_,rfl⟩
 ·exact⟨_,_,_,rfl⟩
def RB.later{n:al}(r:RB w W Wb rc v n out)(hs:w.heap.size+8<=W.heap.size)(hg:(Wb.alloc o).grownBy W4 v.ownBlock):
 Bk W4 (w.heap.size+1) 115 #[v]/\W4.heap[w.heap.size+3]?=φ (.loop {rc with state:=.busy}):=by
 have ob:∀k,v.ownBlock=φ k->w.heap.size+8<=k:=dX r.own
 have e4:∀g,g<w.heap.size+8->W4.heap[g]?=Wb.heap[g]?:=λg nJ=>(hg.block g (by simp[r.size];omega) (λe=>by have:=ob g e.symm;omega)).trans (Below.heap_alloc _ _ _ (by rw[r.size];omega))
 exact⟨(e4 _ (by omega)).trans r.o,(e4 _ (by omega)).trans r.l⟩
def xv{base:Nat}{sz g':Nat}(h:w.ownsRow base e sz v n xs)(hg:g'<base):(w.putObj g' o).ownsRow base e sz v n xs:=by
 refine⟨h.1,?_⟩
 rcases h.2 with h0| ⟨g,cap,cur,h1,h2,h3,h4⟩
 ·exact .inl h0
 ·exact .inr ⟨g,cap,cur,h1,h2,(Á (by omega)).trans h3,h4⟩
def _root_.Go.World.ownsRow.base{w:Ψ}{base fB:Nat}{e:TypeId}{sz n:Nat}{v:υ}{xs:List υ}(h:w.ownsRow base e sz v n xs)(hb:fB<=base):w.ownsRow fB e sz v n xs:=by
 refine⟨h.1,?_⟩
 rcases h.2 with h0| ⟨g,cap,cur,h1,h2,h3,h4⟩
 ·exact .inl h0
 ·exact .inr ⟨g,cap,cur,h1,by omega,h3,h4⟩
def RB.done{n:al}{v':υ}(h:AI w b pv bv tv rc n out W)(r:RB w W Wb rc v n out)
 (aH:W4.ownsRow (w.heap.size+8) 128 3 v' (out.length+1) (out.flatMap al.vs++n.vs))(hg:(Wb.alloc o).grownBy W4 v.ownBlock):
 AI w b pv bv tv rc n (out++ [n]) ((W4.setCell ⟨w.heap.size+1,0,ν⟩ v').putObj (w.heap.size+3) (.loop rc)):=by
 have hx:=h.x.lt;have ob:∀k,v.ownBlock=φ k->w.heap.size+8<=k:=dX r.own
 have ob':∀k,v'.ownBlock=φ k->w.heap.size+8<=k:=dX aH
 have e4:∀g,g<w.heap.size+8->W4.heap[g]?=Wb.heap[g]?:=λg nJ=>(hg.block g (by simp[r.size];omega) (λe=>by have:=ob g e.symm;omega)).trans (Below.heap_alloc _ _ _ (by rw[r.size];omega))
 have e6:∀g,g<w.heap.size+8->g≠w.heap.size+3->g≠w.heap.size+1->((W4.setCell ⟨w.heap.size+1,0,ν⟩ v').putObj (w.heap.size+3) (.loop rc)).heap[g]?=W.heap[g]?:=λg nJ h3 h1=>
  (Á h3).trans ((Ô _ _ _ _ (by simpa using h1)).trans ((e4 g nJ).trans (r.old g (by omega) h3)))
 have vz:w.heap.size+8<=W4.heap.size:=by have:=hg.size;simp[r.size] at this;omega
 refine⟨(e6 _ (by omega) (by omega) (by omega)).trans h.p,(e6 _ (by omega) (by omega) (by omega)).trans h.y,(e6 _ (by omega) (by omega) (by omega)).trans h.n,(e6 _ (by omega) (by omega) (by omega)).trans h.x,
  ⟨v',?_,?_⟩,(e6 _ (by omega) (by omega) (by omega)).trans h.d,Ŋ (by simp[ï];omega),?_⟩
 ·have h4:Bk W4 (w.heap.size+1) 115 #[v]:=(e4 _ (by omega)).trans r.o
  exact(Á (by omega)).trans (h4.set 0 v')
 ·have e:(out++ [n]).length=out.length+1:=by simp
  rw[e,ă,Ah0];refine⟨aH.1,?_⟩
  rcases aH.2 with h0| ⟨g,cap,cur,h1,h2,h3,h4⟩
  ·exact .inl h0
  ·exact .inr ⟨g,cap,cur,h1,h2,(Á (by omega)).trans ((Ô _ _ _ _ (by simp;omega)).trans h3),h4⟩
 ·refine Ahs (w:=W4.setCell ⟨w.heap.size+1,0,ν⟩ v') ?_ (Ĭ _ _ _) (by simp[ï];omega) (λk hk=>by cases hk;omega)
  refine Ĺ ?_ (by simp) _
  exact Ahs (r.below.alloc (by rw[r.size];omega) _) hg (by simp[r.size];omega) (λk hk=>by have:=ob k hk;omega)
def ach(hB:B<=w.heap.size)(ah:aQ w B b pv bv tv)(cD:Bs b)(oP:∀p∈b.pieces,0<=p.len.lo/\p.len.hi<=1000)(h3:b.pieces.length<=3)(hK:(aB b).length<=1000):
 ύ prog 96 #[η #[ξ κ b.ab,pv,bv,tv]] w λe w'=>∃v,e=Ω v/\w'.ownsRow w.heap.size 128 3 v (aB b).length ((aB b).flatMap al.vs)/\Γ w.heap.size w w':=by
 refine(callsIn_wide (n:=0)).1 ?_
 have bD:=ψ ah;obtain⟨A1,n1,c1,rfl,-⟩:=ah.pieces.Φ;obtain⟨A2,n2,c2,rfl,-⟩:=ah.aC.Φ;obtain⟨A3,n3,c3,rfl,-⟩:=ah.aI.Φ;clear ah;obtain⟨i0,cJ,cK,aO,aZ⟩:=Ą ajl;have cy:=ψ (Ϗ cJ (Ϗ cK (Ϗ aO aZ)));clear cJ cK aO aZ;refine callsIn_of_wp_marks func96 rfl trivial ?_
 simp only[Tryz.ntmps96,ř,Ă,Ś,ĸ,Ŝ,ŗ,Ř,ś,Ķ,ì,ķ]
 gi_wp2
 refine Qf (gf:=162) (pre:=#[η #[ξ κ b.ab,ζ A1 n1 c1,ζ A2 n2 c2,ζ A3 n3 c3]]) (lb:=#[]) rfl call162 λfn rc iD=>?_
 simp only[Ahx,Nat.add_assoc,ĸ,Ķ,ķ,ì,Ah1];refine(acO (w:=w) hB bD.e cD oP h3 hK (rec:=rc) ?yround (by simp) (((Bk.bZ (by simp) _ _).alloc _).alloc _) (nB (wK (by simp))) (wK (by simp)) (((((ώ _ _).alloc (ϊ _) _).alloc (by simp) _).alloc (by simp;omega) _).alloc (by simp;omega) _) _).mono ?_
 case yround=>
  intro m n out W hlen hI;have HI:=ψ hI;refine Rh (n:=0) iD hI.l rfl ?_
  clear hI;simp only[List.zip_toArray,List.zip_cons_cons,List.zip_nil_right,List.foldl_toArray,List.foldl_cons,List.foldl_nil];obtain⟨na,nb,nc⟩:=n;simp only[al.cs]
  gi_wp2
  obtain⟨v,nP⟩:=RB.mk' (n:=⟨na,nb,nc⟩) HI.e;refine⟨_,Mn iD (nB HI.e.l),?_⟩
  obtain⟨Wb,rI⟩:∃Wb,Wb=(W.alloc (ϣ #[Ϝ ϙ na,Ϝ ϙ nb,Ϝ ϙ nc] 128)).putObj (w.heap.size+3) (.loop {rc with state:=.busy}):=⟨_,rfl⟩
  replace nP:RB w W Wb rc v ⟨na,nb,nc⟩ out:=by rw[rI];exact nP
  rw[<-rI];clear rI;have HR:=ψ nP;have b0: Wb.cell? ⟨w.heap.size+1,0,ν⟩=φ v:=nP.o.cell 0;have z0:=nP.o.frozen 0;have c0: Wb.cell? ⟨W.heap.size,0,ν⟩=φ (ξ κ na):=nP.nb.cell 0;have c1: Wb.cell? ⟨W.heap.size,1,ν⟩=φ (ξ κ nb):=nP.nb.cell 1;have c2: Wb.cell? ⟨W.heap.size,2,ν⟩=φ (ξ κ nc):=nP.nb.cell 2;clear nP
  gi_wp2_with (first
   | (gi_at_builtin
      refine wpListIn_append_own _ rfl (.tmp 8) (.tmp 10) 115 rfl (w.heap.size+8) 128 i0 (η #[ξ κ 0,ξ κ 0,ξ κ 0]) 3 24 (U Tryz.underlying115) cy.e.1 cy.e.2.1 cy.e.2.2.1 cy.e.2.2.2 rfl (by decide) _ out.length _ rfl (HR.e.own.alloc _) ⟨Wb.heap.size,0,ν⟩ 1 1 [ξ κ na,ξ κ nb,ξ κ nc] rfl rfl ?c1 ?c2 ?c3 ?c4 ?c5 ?_
      case c1=>(intro j u hu;match j,hu with|0,hu=>(simp at hu;subst hu;simp[go_sem,ċ]) |1,hu=>(simp at hu;subst hu;simp[go_sem,ċ]) |2,hu=>(simp at hu;subst hu;simp[go_sem,ċ]))
      case c2=>simp[Value.oneCell']
      case c3=>(simp only[ϑ];omega)
      case c4=>omega
      case c5=>(have:=HR.e.size;have:=HI.e.x.lt;simp;omega)
      intro v' w1 b7 cW _;obtain⟨A9,m9,c9,rfl⟩:=iI b7;have HL:=ψ (HR.e.later (by have:=HI.e.x.lt;omega) cW)
      have s0: w1.cell? ⟨w.heap.size+1,0,ν⟩=φ v:=HL.e.1.cell 0;have s1:=HL.e.1.frozen 0;have gC:=ψ b7;have gX:=ψ cW;clear b7 cW))
  refine⟨_,_,ang iD ((Ô _ _ _ _ (by simp)).trans HL.e.2),rfl,?_⟩
  exact HR.e.done HI.e gC.e gX.e
 ·rintro e W2 ⟨⟨v,rfl⟩,n',hI⟩
  have HI:=ψ hI;refine⟨ν,_,MR iD hI.l,?_⟩
  clear hI;obtain⟨v2,qJ,xT⟩:=HI.e.o;obtain⟨A9,m9,c9,rfl⟩:=iI xT;have HV:=ψ xT;obtain⟨W3,gd⟩:∃W3,W3=W2.putObj (w.heap.size+3) (.loop {rc with state:=.exhausted}):=⟨_,rfl⟩
  have k1: W3.cell? ⟨w.heap.size+1,0,ν⟩=φ (ζ A9 m9 c9):=by rw[gd];exact Bk.cell (g:=w.heap.size+1) ((Á (by omega)).trans qJ) 0
  have HD:Hid (W3.heap[w.heap.size+2]?=φ (.deferred (φ []))):=ψ (by rw[gd];exact(Á (by omega)).trans HI.e.d)
  have HB:Hid (Γ w.heap.size w W3):=ψ (by rw[gd];exact HI.e.below.grown (Ĭ _ _ _) (by have:=HI.e.x.lt;omega) (λk hk=>by cases hk;omega))
  have HO:Hid (W3.ownsRow (w.heap.size+8) 128 3 (ζ A9 m9 c9) (aB b).length ((aB b).flatMap al.vs)):=ψ (by
   rw[gd];refine⟨HV.e.1,?_⟩
   rcases HV.e.2 with h0| ⟨g,cap,cur,h1,h2,h3,h4⟩
   ·exact .inl h0
   ·exact .inr ⟨g,cap,cur,h1,h2,(Á (by omega)).trans h3,h4⟩)
  rw[<-gd];clear gd qJ xT
  gi_wp2
  refine⟨by simp,.inl ⟨_,_,rfl,Ahc HD.e,?_⟩⟩
  refine⟨_,results_tmp rfl _ _ _,_,rfl,(xv HO.e (by omega)).base (by omega),HB.e.grown (Ĭ _ _ _) ?_ (λk hk=>by cases hk;omega)⟩
  have:=HB.e.size;omega
end Go.Tw
namespace Go.Tw
variable [Go.Tw.aK]
open Go Go.Proofs Go.RowKit
def Hr{α:Type}{f:α->List υ}{sz:Nat}(hf:∀x,(f x).length=sz):∀(l:List α) (i:Nat) (x:α) (j:Nat) (u:υ),l[i]?=φ x->(f x)[j]?=φ u->(l.flatMap f)[i * sz+j]?=φ u
 | [],i,x,j,u,hi,_=>by simp at hi
 |a::l,0,x,j,u,hi,hu=>by
  simp at hi;subst hi;rw[Ġ,Nat.zero_mul,ŭ,Ah3 (Ϯ.1 hu).1]
  exact hu
 |a::l,i+1,x,j,u,hi,hu=>by
  rw[Ġ,Ū (by rw[hf,Aik];omega),hf]
  have e:(i+1) * sz+j - sz=i * sz+j:=by rw[Aik];omega
  rw[e];exact Hr hf l i x j u (by simpa using hi) hu
def mZ{base:Nat}{sz:Nat}{R:α->List υ->Prop}{f:α->List υ}{l:List α}(h:w.ownsRow base e sz v l.length (l.flatMap f))(hf:∀x,(f x).length=sz)(hR:∀x∈l,R x (f x)):
 Row w w.heap.size sz R v l:=by
 rcases h.2 with⟨rfl,h0⟩ | ⟨g,cap,cur,rfl,h2,h3,h4,h5,h6,h7⟩
 ·have:l=[]:=List.length_eq_zero_iff.1 h0
  subst this;exact Row.nil
 ·refine⟨φ ⟨g,0,ν⟩,cap,rfl,h4,h5,λ_=>⟨⟨g,0,ν⟩,rfl,(ϛ.1 h3).1,λi x hx=>⟨f x,hR x (Ϩ hx),hf x,λj u hu=>?_⟩⟩⟩
  have ao:j<sz:=by have:=(Ϯ.1 hu).1;rw[hf] at this;exact this
  have h8:=Hr hf l i x j u hx hu;rw[<-h7,List.getElem?_take] at h8
  have xF:i * sz+j<l.length * sz:=by
   have xF:=(Ϯ.1 hx).1
   calc i * sz+j<i * sz+sz:=by omega
    _=(i+1) * sz:=by rw[Aik];omega
    _<=l.length * sz:=Ail _ xF
  rw[if_pos xF] at h8;have e:(⟨g,0,ν⟩:Addr).add (i * sz+j)=⟨g,i * sz+j,ν⟩:=by
   unfold ċ;split
   ·rename_i h;rw[h]
   ·simp
  rw[e];exact(cell_of_row w g (i * sz+j) cur _ (0,0) h3).trans (by rw[<-ī];exact h8)
def akm{base:Nat}{l:List al}(h:w.ownsRow base 128 3 v l.length (l.flatMap al.vs)):Row w w.heap.size 3 al.R v l:=mZ h (λ_=>rfl) λ_ _=>rfl
def S6{b:eR}(hw:∀p∈b.pieces,p.len.hi - p.len.lo<3):∀(f i:Nat) (n:al),(dU b f i n).length<=3 ^ f
 |0,i,n=>by unfold dU;split<;>simp
 |f+1,i,n=>by
  unfold dU;cases h:b.pieces[i]? with
  |none=>simp
  |some p=>
   have h1:=hw p (Ϩ h);have h2:(iJ p.len).length<=3:=by rw[QG];omega
   simp only;have key:∀l:List Int,(l.flatMap λk=>dU b f (i+1) (n.set i k)).length<=l.length * 3 ^ f:=by
    intro l;induction l with
    |nil=>simp
    |cons a l ih=>
     rw[Ġ,Ĉ,Ă,Aik,Nat.one_mul,Nat.add_comm];exact Nat.add_le_add ih (S6 hw f (i+1) _)
   refine ϡ (key _) ?_
   rw[Nat.pow_succ,Nat.mul_comm (3 ^ f)];exact Ail _ h2
def DF(hv:Valid b):(aB b).length<=27:=by
 refine ϡ (S6 (λp hp=>(hv.piece p hp).wide) _ _ _) ?_
 exact Aim (n:=3) (by omega) hv.np.2
def gN{base:Nat}{sz:Nat}(h:w.ownsRow base e sz v n xs)(hg:p.block<base):(w.setCell p u).ownsRow base e sz v n xs:=by
 refine⟨h.1,?_⟩
 rcases h.2 with h0| ⟨g,cap,cur,h1,h2,h3,h4⟩
 ·exact .inl h0
 ·exact .inr ⟨g,cap,cur,h1,h2,(Ô _ _ _ _ (by omega)).trans h3,h4⟩
def fx(w:Ψ)(base:Nat)(v:υ)(l:List al):Prop:=w.ownsRow base 128 3 v l.length (l.flatMap al.vs)
def fx.row{base:Nat}{l:List al}(h:fx w base v l):Row w w.heap.size 3 al.R v l:=akm h
def fx.set{base:Nat}{l:List al}(h:fx w base v l)(hp:p.block<base):fx (w.setCell p u) base v l:=gN h hp
def fx.alloc{w:Ψ}{base:Nat}{v:υ}{l:List al}(h:fx w base v l)(o:Obj):fx (w.alloc o) base v l:=ŋ h o
def fx.base{w:Ψ}{base fB:Nat}{v:υ}{l:List al}(h:fx w base v l)(hb:fB<=base):fx w fB v l:=World.ownsRow.base h hb
def all(hB:B<=w.heap.size)(ah:aQ w B b pv bv tv)(hv:Valid b):
 ύ prog 96 #[η #[ξ κ b.ab,pv,bv,tv]] w λe w'=>∃v,e=Ω v/\fx w' w.heap.size v (aB b)/\Γ w.heap.size w w':=
 (ach hB ah hv.apR (λp hp=>⟨by have:=(hv.piece p hp).lo;omega,by have:=(hv.piece p hp).hi;omega⟩) hv.np.2 (by have:=DF hv;omega)).mono λ_ _ ⟨v,h1,h2,h3⟩=>⟨v,h1,h2,h3⟩
def bT(b:eR)(s:Int):Int:=if cZ b≠0 then cZ b else if s≠0 then s else if(aB b).length=0 then 9 else 0
def uB(b:eR)(pv bv tv:υ)(w:Ψ)(K:Nat)(lb:Array υ)(s:Int):Prop:=
 (∀args w,(callFunc K args).run prog w=.ok (.enter K args) w)/\(cZ b=0->∀W:Ψ,Γ w.heap.size w W->ύ prog K (#[η #[ξ κ b.ab,pv,bv,tv]]++lb) W λe W'=>e=Ω (ξ κ s)/\Γ W.heap.size W W')
def qj(hb:aQ w B b pv bv tv)(hB:B<=w.heap.size)(h:cZ b=0):
 ύ prog 68 #[η #[ξ κ b.ab,pv,bv,tv]] w λe w'=>e=Ω (ξ κ 0)/\Γ w.heap.size w w':=by
 have:=MD hb hB;rwa[h] at this
def amM{g:υ}(hB:B<=w.heap.size)(ah:aQ w B b pv bv tv)(h0:cZ b≠0):
 ύ prog 98 #[η #[ξ κ b.ab,pv,bv,tv],g] w λe w'=>e=Ω (μ #[η #[ξ κ 0,ζ ν 0 0,ζ ν 0 0,ζ ν 0 0,ζ ν 0 0],ξ κ (cZ b)])/\Γ w.heap.size w w':=by
 have bD:=ψ ah;obtain⟨A1,n1,c1,rfl,-⟩:=ah.pieces.Φ;obtain⟨A2,n2,c2,rfl,-⟩:=ah.aC.Φ;obtain⟨A3,n3,c3,rfl,-⟩:=ah.aI.Φ;clear ah;go_enter func98,Tryz.ntmps98;go_wp2_with (first
  | (go_at_call 68;refine(MD (bD.e.still ((((Δ.refl w).alloc hB _).alloc (by simp;omega) _))) (by simp;omega)).mono ?_;rintro e w1 ⟨rfl,ai⟩;obtain⟨fU,iz⟩:=gG ai rfl;have aW:=ψ ai;clear ai))
 refine à (v:=μ #[η #[ξ κ 0,ζ ν 0 0,ζ ν 0 0,ζ ν 0 0,ζ ν 0 0],ξ κ (cZ b)]) (by simp[results,Tryz.results98,go_sem,fU,iz]) rfl ⟨rfl,?_⟩
 repeat refine Ĺ ?_ (by simp) _
 exact(((ώ _ _).alloc (ϊ _) _).alloc (by simp) _).trans (aW.e.mono (by simp;omega))
def amN{s:Int}(hB:B<=w.heap.size)(ah:aQ w B b pv bv tv)(hK:uB b pv bv tv w K lb s)(h0:cZ b=0)(hs:s≠0):
 ύ prog 98 #[η #[ξ κ b.ab,pv,bv,tv],fv K lb] w λe w'=>e=Ω (μ #[η #[ξ κ 0,ζ ν 0 0,ζ ν 0 0,ζ ν 0 0,ζ ν 0 0],ξ κ s])/\Γ w.heap.size w w':=by
 obtain⟨eg,hK⟩:=hK;have HK:=ψ (hK h0);have bD:=ψ ah;have H0:=ψ h0;obtain⟨A1,n1,c1,rfl,-⟩:=ah.pieces.Φ;obtain⟨A2,n2,c2,rfl,-⟩:=ah.aC.Φ;obtain⟨A3,n3,c3,rfl,-⟩:=ah.aI.Φ;clear ah hK h0;go_enter func98,Tryz.ntmps98;go_wp2_with (first
  | (go_at_call 68;refine(qj (bD.e.still ((((Δ.refl w).alloc hB _).alloc (by simp;omega) _))) (by simp;omega) H0.e).mono ?_;rintro e w1 ⟨rfl,ai⟩
     have aO:w.heap.size+2<=w1.heap.size:=by have:=ai.size;simpa using this
     have k1:Hid (Bk w1 (w.heap.size+1) 122 #[ξ κ 0,ζ ν 0 0,ζ ν 0 0,ζ ν 0 0,ζ ν 0 0]):=ψ ((Bk.bZ (by simp) _ _).below ai (by simp))
     have kb:Bk w1 w.heap.size 26 #[ξ κ b.ab,ζ A1 n1 c1,ζ A2 n2 c2,ζ A3 n3 c3]:=((Bk.new w _ _).alloc _).below ai (by simp;omega)
     have b0:=kb.cell 0;have b1:=kb.cell 1;have b2:=kb.cell 2;have b3:=kb.cell 3;clear kb;have aW:Hid (Γ w.heap.size w w1):=ψ ((((ώ _ _).alloc (ϊ _) _).alloc (by simp) _).trans (ai.mono (by simp;omega)));clear ai))
 refine(HK.e _ (aW.e.alloc (by omega) _)).mono ?_
 rintro e w2 ⟨rfl,an⟩;have k2:Bk w2 (w.heap.size+1) 122 #[ξ κ 0,ζ ν 0 0,ζ ν 0 0,ζ ν 0 0,ζ ν 0 0]:=(k1.e.alloc _).below an (by simp;omega)
 have dj:=ψ (da aW.e an (by omega))
 have r0:=k2.cell 0;have r1:=k2.cell 1;have r2:=k2.cell 2;have r3:=k2.cell 3;have r4:=k2.cell 4;have z0:=k2.frozen 0;have z1:=k2.frozen 1;have z2:=k2.frozen 2;have z3:=k2.frozen 3;have z4:=k2.frozen 4;clear an k2;go_wp2;refine à (v:=μ #[η #[ξ κ 0,ζ ν 0 0,ζ ν 0 0,ζ ν 0 0,ζ ν 0 0],ξ κ s]) (by simp[results,Tryz.results98,go_sem,r0,r1,r2,r3,r4]) rfl ⟨rfl,?_⟩
 repeat refine Ĺ ?_ (by simp) _
 exact dj.e
def amO(hB:B<=w.heap.size)(ah:aQ w B b pv bv tv)(hK:uB b pv bv tv w K lb 0)(h0:cZ b=0)(ha:(aB b).length=0):
 ύ prog 98 #[η #[ξ κ b.ab,pv,bv,tv],fv K lb] w λe w'=>e=Ω (μ #[η #[ξ κ 0,ζ ν 0 0,ζ ν 0 0,ζ ν 0 0,ζ ν 0 0],ξ κ 9])/\Γ w.heap.size w w':=by
 obtain⟨eg,hK⟩:=hK;have HK:=ψ (hK h0);have bD:=ψ ah;have H0:=ψ h0;have HA:=ψ ha;obtain⟨A1,n1,c1,rfl,-⟩:=ah.pieces.Φ;obtain⟨A2,n2,c2,rfl,-⟩:=ah.aC.Φ;obtain⟨A3,n3,c3,rfl,-⟩:=ah.aI.Φ;clear ah hK h0 ha;go_enter func98,Tryz.ntmps98;go_wp2_with (first
  | (go_at_call 68;refine(qj (bD.e.still ((((Δ.refl w).alloc hB _).alloc (by simp;omega) _))) (by simp;omega) H0.e).mono ?_;rintro e w1 ⟨rfl,ai⟩
     have aO:w.heap.size+2<=w1.heap.size:=by have:=ai.size;simpa using this
     have k1:Hid (Bk w1 (w.heap.size+1) 122 #[ξ κ 0,ζ ν 0 0,ζ ν 0 0,ζ ν 0 0,ζ ν 0 0]):=ψ ((Bk.bZ (by simp) _ _).below ai (by simp))
     have kb:Bk w1 w.heap.size 26 #[ξ κ b.ab,ζ A1 n1 c1,ζ A2 n2 c2,ζ A3 n3 c3]:=((Bk.new w _ _).alloc _).below ai (by simp;omega)
     have b0:=kb.cell 0;have b1:=kb.cell 1;have b2:=kb.cell 2;have b3:=kb.cell 3;clear kb;have aW:Hid (Γ w.heap.size w w1):=ψ ((((ώ _ _).alloc (ϊ _) _).alloc (by simp) _).trans (ai.mono (by simp;omega)));clear ai))
 refine(HK.e _ (aW.e.alloc (by omega) _)).mono ?_
 rintro e w2 ⟨rfl,an⟩;have k2:Hid (Bk w2 (w.heap.size+1) 122 #[ξ κ 0,ζ ν 0 0,ζ ν 0 0,ζ ν 0 0,ζ ν 0 0]):=ψ ((k1.e.alloc _).below an (by simp;omega))
 have l2:Hid (Bk w2 w1.heap.size 117 #[ξ κ b.ab,ζ A1 n1 c1,ζ A2 n2 c2,ζ A3 n3 c3]):=ψ ((Bk.new w1 _ _).below an (by simp))
 have aZ:w1.heap.size+1<=w2.heap.size:=by have:=an.size;simpa using this
 have dj:=ψ (da aW.e an (by omega))
 have q0:=l2.e.cell 0;have q1:=l2.e.cell 1;have q2:=l2.e.cell 2;have q3:=l2.e.cell 3;clear an b0 b1 b2 b3;go_wp2_with (first
  | (go_at_call 96;refine(all (B:=B) (by omega) (bD.e.still (Δ.aJ dj.e hB)) (fG H0.e)).mono ?_;rintro e w3 ⟨v,rfl,dE,bK⟩
     have HR:=ψ dE;obtain⟨A9,n9,c9,rfl,dh,-⟩:=dE.row.Φ;have h9:((n9:Int)==0)=θ:=(by have:=HA.e;simp;omega)
     have k3:Bk w3 (w.heap.size+1) 122 #[ξ κ 0,ζ ν 0 0,ζ ν 0 0,ζ ν 0 0,ζ ν 0 0]:=k2.e.below bK (by omega)
     have l3:Bk w3 w1.heap.size 117 #[ξ κ b.ab,ζ A1 n1 c1,ζ A2 n2 c2,ζ A3 n3 c3]:=l2.e.below bK (by omega)
     have dR:=ψ (chain dj.e bK (by omega))
     have q0:=l3.cell 0;have q1:=l3.cell 1;have q2:=l3.cell 2;have q3:=l3.cell 3;have r0:=k3.cell 0;have r1:=k3.cell 1;have r2:=k3.cell 2;have r3:=k3.cell 3;have r4:=k3.cell 4;have z0:=k3.frozen 0;have z1:=k3.frozen 1;have z2:=k3.frozen 2;have z3:=k3.frozen 3;have z4:=k3.frozen 4;have gw:Hid (w1.heap.size<=w3.heap.size):=ψ (by have:=bK.size;omega)
     clear bK k3 l3 dE dh))
 refine à (v:=μ #[η #[ξ κ 0,ζ ν 0 0,ζ ν 0 0,ζ ν 0 0,ζ ν 0 0],ξ κ 9]) (by simp[results,Tryz.results98,go_sem,r0,r1,r2,r3,r4]) rfl ⟨rfl,?_⟩
 repeat refine Ĺ ?_ (by simp) _
 exact dR.e
def amP(hB:B<=w.heap.size)(ah:aQ w B b pv bv tv)(hK:uB b pv bv tv w K lb 0)(h0:cZ b=0)(ha:(aB b).length≠0):
 ύ prog 98 #[η #[ξ κ b.ab,pv,bv,tv],fv K lb] w λe w'=>∃sv,e=Ω (μ #[η #[ξ κ b.ab,pv,bv,tv,sv],ξ κ 0])/\fx w' w.heap.size sv (aB b)/\Γ w.heap.size w w':=by
 obtain⟨eg,hK⟩:=hK;have HK:=ψ (hK h0);have bD:=ψ ah;have H0:=ψ h0;have HA:=ψ ha;obtain⟨A1,n1,c1,rfl,-⟩:=ah.pieces.Φ;obtain⟨A2,n2,c2,rfl,-⟩:=ah.aC.Φ;obtain⟨A3,n3,c3,rfl,-⟩:=ah.aI.Φ;clear ah hK h0 ha;go_enter func98,Tryz.ntmps98;go_wp2_with (first
  | (go_at_call 68;refine(qj (bD.e.still ((((Δ.refl w).alloc hB _).alloc (by simp;omega) _))) (by simp;omega) H0.e).mono ?_;rintro e w1 ⟨rfl,ai⟩
     have aO:w.heap.size+2<=w1.heap.size:=by have:=ai.size;simpa using this
     have k1:Hid (Bk w1 (w.heap.size+1) 122 #[ξ κ 0,ζ ν 0 0,ζ ν 0 0,ζ ν 0 0,ζ ν 0 0]):=ψ ((Bk.bZ (by simp) _ _).below ai (by simp))
     have kb:Bk w1 w.heap.size 26 #[ξ κ b.ab,ζ A1 n1 c1,ζ A2 n2 c2,ζ A3 n3 c3]:=((Bk.new w _ _).alloc _).below ai (by simp;omega)
     have b0:=kb.cell 0;have b1:=kb.cell 1;have b2:=kb.cell 2;have b3:=kb.cell 3;clear kb;have aW:Hid (Γ w.heap.size w w1):=ψ ((((ώ _ _).alloc (ϊ _) _).alloc (by simp) _).trans (ai.mono (by simp;omega)));clear ai))
 refine(HK.e _ (aW.e.alloc (by omega) _)).mono ?_
 rintro e w2 ⟨rfl,an⟩;have k2:Hid (Bk w2 (w.heap.size+1) 122 #[ξ κ 0,ζ ν 0 0,ζ ν 0 0,ζ ν 0 0,ζ ν 0 0]):=ψ ((k1.e.alloc _).below an (by simp;omega))
 have l2:Hid (Bk w2 w1.heap.size 117 #[ξ κ b.ab,ζ A1 n1 c1,ζ A2 n2 c2,ζ A3 n3 c3]):=ψ ((Bk.new w1 _ _).below an (by simp))
 have aZ:w1.heap.size+1<=w2.heap.size:=by have:=an.size;simpa using this
 have dj:=ψ (da aW.e an (by omega))
 have q0:=l2.e.cell 0;have q1:=l2.e.cell 1;have q2:=l2.e.cell 2;have q3:=l2.e.cell 3;clear an b0 b1 b2 b3;go_wp2_with (first
  | (go_at_call 96;refine(all (B:=B) (by omega) (bD.e.still (Δ.aJ dj.e hB)) (fG H0.e)).mono ?_;rintro e w3 ⟨v,rfl,dE,bK⟩
     have HR:=ψ dE;obtain⟨A9,n9,c9,rfl,dh,-⟩:=dE.row.Φ;have h9:((n9:Int)==0)=χ:=(by have:=HA.e;simp;omega)
     have k3:Bk w3 (w.heap.size+1) 122 #[ξ κ 0,ζ ν 0 0,ζ ν 0 0,ζ ν 0 0,ζ ν 0 0]:=k2.e.below bK (by omega)
     have l3:Bk w3 w1.heap.size 117 #[ξ κ b.ab,ζ A1 n1 c1,ζ A2 n2 c2,ζ A3 n3 c3]:=l2.e.below bK (by omega)
     have dR:=ψ (chain dj.e bK (by omega))
     have q0:=l3.cell 0;have q1:=l3.cell 1;have q2:=l3.cell 2;have q3:=l3.cell 3;have r0:=k3.cell 0;have r1:=k3.cell 1;have r2:=k3.cell 2;have r3:=k3.cell 3;have r4:=k3.cell 4;have z0:=k3.frozen 0;have z1:=k3.frozen 1;have z2:=k3.frozen 2;have z3:=k3.frozen 3;have z4:=k3.frozen 4;have gw:Hid (w1.heap.size<=w3.heap.size):=ψ (by have:=bK.size;omega)
     clear bK k3 l3 dE dh))
 refine à (v:=μ #[η #[ξ κ b.ab,ζ A1 n1 c1,ζ A2 n2 c2,ζ A3 n3 c3,ζ A9 n9 c9],ξ κ 0]) (by simp[results,Tryz.results98,go_sem,r0,r1,r2,r3,r4]) rfl ⟨_,rfl,?_,?_⟩
 ·refine fx.base (base:=w2.heap.size) ?_ (by omega)
  repeat refine fx.set ?_ (by simp;omega)
  exact HR.e
 ·repeat refine Ĺ ?_ (by simp) _
  exact dR.e
def mX{s:Int}(h:bT b s=0):cZ b=0/\s=0/\(aB b).length≠0:=by
 unfold bT at h;split at h
 ·contradiction
 ·rename_i h1
  split at h
  ·contradiction
  ·rename_i h2
   split at h
   ·omega
   ·rename_i h3;exact⟨by simpa using h1,by simpa using h2,h3⟩
def XS{s:Int}(hB:B<=w.heap.size)(ah:aQ w B b pv bv tv)(hK:uB b pv bv tv w K lb s)(h:bT b s≠0):
 ύ prog 98 #[η #[ξ κ b.ab,pv,bv,tv],fv K lb] w λe w'=>e=Ω (μ #[η #[ξ κ 0,ζ ν 0 0,ζ ν 0 0,ζ ν 0 0,ζ ν 0 0],ξ κ (bT b s)])/\Γ w.heap.size w w':=by
 by_cases h1:cZ b=0
 ·by_cases h2:s=0
  ·subst h2
   have h3:(aB b).length=0:=by
    apply Û;intro h3
    exact h (by unfold bT;rw[if_neg (by simpa using h1),if_neg (by simp),if_neg h3])
   have e:bT b 0=9:=by unfold bT;rw[if_neg (by simpa using h1),if_neg (by simp),if_pos h3]
   rw[e];exact amO hB ah hK h1 h3
  ·have e:bT b s=s:=by unfold bT;rw[if_neg (by simpa using h1),if_pos h2]
   rw[e];exact amN hB ah hK h1 h2
 ·have e:bT b s=cZ b:=by unfold bT;rw[if_pos h1]
  rw[e];exact amM hB ah h1
def ym{s:Int}(hB:B<=w.heap.size)(ah:aQ w B b pv bv tv)(hK:uB b pv bv tv w K lb s)(h:bT b s=0):
 ύ prog 98 #[η #[ξ κ b.ab,pv,bv,tv],fv K lb] w λe w'=>∃sv,e=Ω (μ #[η #[ξ κ b.ab,pv,bv,tv,sv],ξ κ 0])/\fx w' w.heap.size sv (aB b)/\Γ w.heap.size w w':=by
 obtain⟨h1,rfl,h3⟩:=mX h;exact amP hB ah hK h1 h3
def JP{b c:Int}(h:a=c)(k:b=d):Ending.returned (μ #[ξ κ a,ξ κ b])=Ω (μ #[ξ κ c,ξ κ d]):=by rw[h,k]
def uP(b:eR):Int:=if cZ b≠0 then 0 else(aB b).length
def Mh(hB:B<=w.heap.size)(ah:aQ w B b pv bv tv):
 ύ prog 22 #[η #[ξ κ b.ab,pv,bv,tv]] w λe w'=>e=Ω (μ #[ξ κ (uP b),ξ κ (cZ b)])/\Γ w.heap.size w w':=by
 have bD:=ψ ah;obtain⟨A1,n1,c1,rfl,-⟩:=ah.pieces.Φ;obtain⟨A2,n2,c2,rfl,-⟩:=ah.aC.Φ;obtain⟨A3,n3,c3,rfl,-⟩:=ah.aI.Φ;clear ah;by_cases h0:cZ b=0
 ·have H0:=ψ h0
  clear h0;go_enter func22,Tryz.ntmps22;go_wp2_with (first
   | (go_at_call 68;refine(qj (bD.e.still ((Δ.refl w).alloc hB _)) (by simp;omega) H0.e).mono ?_;rintro e w1 ⟨rfl,ai⟩
      have kb:Bk w1 w.heap.size 26 #[ξ κ b.ab,ζ A1 n1 c1,ζ A2 n2 c2,ζ A3 n3 c3]:=(Bk.new w _ _).below ai (by simp)
      have b0:=kb.cell 0;have b1:=kb.cell 1;have b2:=kb.cell 2;have b3:=kb.cell 3;have aW:=ψ (da (ώ _ _) ai (ϊ _));clear kb ai)
   | (go_at_call 96;refine(all (B:=B) (by have:=aW.e.size;omega) (bD.e.still (Δ.aJ aW.e hB)) (fG H0.e)).mono ?_;rintro e w2 ⟨v,rfl,dE,an⟩
      obtain⟨A9,n9,c9,rfl,dh,-⟩:=dE.row.Φ;have HL:=ψ dh;have dj:=ψ (chain aW.e an aW.e.size);clear an dE dh))
  go_ret2
  exact⟨JP (by unfold uP;rw[if_neg (by simpa using H0.e),HL.e]) (by rw[H0.e]),dj.e⟩
 ·go_enter func22,Tryz.ntmps22
  go_wp2_with (first
   | (go_at_call 68;refine(MD (bD.e.still ((Δ.refl w).alloc hB _)) (by simp;omega)).mono ?_;rintro e w1 ⟨rfl,ai⟩;have aW:=ψ (da (ώ _ _) ai (ϊ _));clear ai))
  go_ret2
  exact⟨JP (by unfold uP;rw[if_pos h0]) rfl,aW.e⟩
def oS(n lo hi:Int)(w:Ψ):ύ prog 62 #[ξ κ n,ξ κ lo,ξ κ hi] w λe w'=>e=Ω (.bool (cj n lo hi))/\w=w':=by
 go_enter func62,Tryz.ntmps62;go_wp2;all_goals go_ret
 all_goals (refine⟨bU ?_,rfl⟩;unfold cj;first| (simp;done) | (simp;omega))
def vg(a b lo hi:Int):Bool:=decide (lo<=a) && (decide (a<=b) && decide (b<=hi))
def within{b lo hi:Int}(w:Ψ):ύ prog 49 #[η #[ξ κ a,ξ κ b],ξ κ lo,ξ κ hi] w λe w'=>e=Ω (.bool (vg a b lo hi))/\Γ w.heap.size w w':=by
 go_enter func49,Tryz.ntmps49;go_wp2;all_goals go_ret
 all_goals (refine⟨bU ?_,(ώ _ _).alloc (ϊ _) _⟩;unfold vg;first| (simp;done) | (simp;omega) | (simp[*];done) | (simp[*];omega))
def QD(b:Bool)(s:Int)(w:Ψ):ύ prog 104 #[.bool b,ξ κ s] w λe w'=>e=Ω (ξ κ (if b then 0 else s))/\w=w':=by
 cases b;all_goals
  go_enter func104,Tryz.ntmps104;go_wp2;go_ret;exact⟨bm rfl,rfl⟩
def lR(w:Ψ)(s:Int)(p q r:υ)(k f:Int)(nm:ByteArray)(aL:Int)(kv:υ):Ψ:=
 ((w.alloc (ϣ #[ξ κ s,p,q,r] 26)).alloc (ϣ #[ξ κ k,ξ κ f] 56)).alloc (ϣ #[.string nm,ξ κ aL,kv] 59)
section
variable (w:Ψ)(s:Int)(p q r:υ)(k f:Int)(nm:ByteArray)(aL:Int)(kv:υ)
end
def ng(n m:Int):Int:=if n=0 then 2 else if n=m then 1 else 0
def Ys{α:Type}{f:α->Int}:∀(l dZ:List α),scan (λ_ x=>f x) dZ l=0->∀x∈l,f x=0
 | [],_,_,x,h=>by cases h
 |a::l,dZ,h,x,hx=>by
  unfold scan at h;by_cases h0:f a≠0
  ·rw[if_pos h0] at h;exact absurd h h0
  ·rw[if_neg h0] at h
   rcases List.mem_cons.1 hx with rfl|hx
   ·simpa using h0
   ·exact Ys l _ h x hx
def aem{l:List Cut}(h:gZ b l=0):l.length=b.pieces.length:=by
 unfold gZ at h;split at h
 ·contradiction
 ·rename_i h1;simpa using h1
def Hn(hv:Valid b){l:List Cut}(h:gZ b l=0):K4 b l:=by
 have hlen:=aem h;refine⟨hlen,hv.np.2,λi c hc=>?_,⟨hv.ab.1,by have:=hv.ab.2;omega⟩⟩
 unfold gZ at h;rw[if_neg (by simpa using hlen)] at h
 have h1:=Ys (f:=mK b.aC.length) l [] h c (Ϩ hc);unfold mK at h1;split at h1
 ·rename_i h2
  split at h1
  ·rename_i h3
   have a:=nS h2;have d:=nS h3;refine⟨⟨c.bt.toNat,by omega,by omega⟩,d⟩
  ·contradiction
 ·contradiction
def S8{b:eR}(hv:Valid b):∀(f i:Nat) (n:al),i+f=b.pieces.length->n.Ok->∀L∈dU b f i n,L.Ok
 |0,i,n,hi,hn,L,hL=>by
  unfold dU at hL;split at hL
  ·simp at hL;subst hL;exact hn
  ·simp at hL
 |f+1,i,n,hi,hn,L,hL=>by
  unfold dU at hL;cases h:b.pieces[i]? with
  |none=>rw[h] at hL;simp at hL
  |some p=>
   rw[h] at hL;simp only[ĺ] at hL;obtain⟨k,hk,hL⟩:=hL;have hp:=hv.piece p (Ϩ h);have:=hv.np.2;simp only[iJ,ó,ş] at hk;obtain⟨j,hj,rfl⟩:=hk;have:=hp.lo;have:=hp.hi;have:=hp.le
   exact S8 hv f (i+1) _ (by omega) (hn.set (by omega) (by omega) (by omega)) L hL
def wI(hv:Valid b):∀L∈aB b,L.Ok:=S8 hv _ _ _ (by omega) (λq=>by unfold al.at;simp)
def aco{l:List Cut}(hB:B<=w.heap.size)(ah:aQ w B b pv bv tv)(hl:Row w B 2 Cut.R lv l)(hg:Bk w g 27 #[lv]):uB b pv bv tv w 108 #[π (φ ⟨g,0,ν⟩)] (gZ b l):=by
 refine⟨call108,λ_ W hW=>?_⟩
 have kA:=hg.lt;have st:Δ B w (W.alloc (Ξ #[ξ κ b.ab,pv,bv,tv] 117)):=(Δ.aJ hW hB).alloc (by have:=hW.size;omega) _
 have g0: W.cell? ⟨g,0,ν⟩=φ lv:=(hg.below hW kA).cell 0;have aG:=ψ (MK (ah.still st) (hl.still st λ_ _ h=>h) (by have:=hW.size;simp;omega))
 have hz:g<W.heap.size:=by have:=hW.size;omega
 have WA:g<=W.heap.size:=by omega
 obtain⟨A1,n1,c1,rfl,-⟩:=ah.pieces.Φ;obtain⟨A2,n2,c2,rfl,-⟩:=ah.aC.Φ;obtain⟨A3,n3,c3,rfl,-⟩:=ah.aI.Φ;obtain⟨A,n,c,rfl,-⟩:=hl.Φ;clear ah hl hW hg st;refine app1 ?_
 go_enter func108,Tryz.ntmps108;go_wp2_with (first
  | (go_at_call 109;refine aG.e.mono ?_;rintro e w1 ⟨rfl,ai⟩))
 go_ret;exact⟨bm rfl,da (ώ _ _) ai (ϊ _)⟩
def fL(p:al->Bool)(l:List al):Int:=(l.filter p).length
def aed(p:al->Bool)(l:List al):0<=fL p l/\fL p l<=l.length:=by
 unfold fL;exact⟨by omega,by have:=Agd p l;omega⟩
def TK(p:al->Bool)(l:List al)(x:al):fL p (l++ [x])=fL p l+if p x then 1 else 0:=by
 unfold fL;rw[List.filter_append];cases h:p x<;>simp[List.filter_cons,h]
def Ho{l:List Cut}(hB:B<=w.heap.size)(ah:aQ w B b pv bv tv)(hl:Row w B 2 Cut.R lv l)(h:bT b (gZ b l)=0):
 ύ prog 28 #[η #[ξ κ b.ab,pv,bv,tv],lv] w λe w'=>e=Ω (μ #[ξ κ (ng (fL (λL=>db b L l) (aB b)) (aB b).length),ξ κ 0])/\Γ w.heap.size w w':=by
 have st:Δ B w ((w.alloc (Ξ #[ξ κ b.ab,pv,bv,tv] 26)).alloc (Ξ #[lv] 27)):=((Δ.refl w).alloc hB _).alloc (by simp;omega) _
 have aG:=ψ (ym (w:=((w.alloc (Ξ #[ξ κ b.ab,pv,bv,tv] 26)).alloc (Ξ #[lv] 27))) (B:=B) (by simp;omega) (ah.still st) (aco (by simp;omega) (ah.still st) (hl.still st λ_ _ h=>h) (Bk.bZ (g:=w.heap.size+1) (by simp) _ _)) h)
 have hz:=mX h;have hv:=fG hz.1;have OK:=ψ (Ϗ (Hn hv hz.2.1) (wI hv));have bD:=ψ ah;have wy:=ψ hl;have HV:=ψ hv;obtain⟨A1,n1,c1,rfl,-⟩:=ah.pieces.Φ;obtain⟨A2,n2,c2,rfl,-⟩:=ah.aC.Φ;obtain⟨A3,n3,c3,rfl,-⟩:=ah.aI.Φ;obtain⟨A,n,c,rfl,-⟩:=hl.Φ;clear ah hl st hz hv h;go_enter func28,Tryz.ntmps28;go_wp2_with (first
  | (go_at_call 98;refine aG.e.mono ?_;rintro e w1 ⟨sv,rfl,aH,ai⟩
     obtain⟨A9,n9,c9,rfl,dh,kW,fg,jz⟩:=aH.row.Φ;have mz:=ψ jz;have ri:=ψ dh;have HO:=ψ aH;have kb:Hid (Bk w1 w.heap.size 26 #[ξ κ b.ab,ζ A1 n1 c1,ζ A2 n2 c2,ζ A3 n3 c3]):=ψ (((Bk.new w _ _).alloc _).below ai (by simp;omega))
     have kl:Hid (Bk w1 (w.heap.size+1) 27 #[ζ A n c]):=ψ ((Bk.bZ (by simp) _ _).below ai (by simp))
     have aO:w.heap.size+2<=w1.heap.size:=by have:=ai.size;simpa using this
     have aW:Hid (Γ w.heap.size w w1):=ψ ((((ώ _ _).alloc (ϊ _) _).alloc (by simp) _).trans (ai.mono (by simp;omega)));clear ai aH dh jz))
 unfold ϑ at fg;go_loopw [8,23] (λm k wr=>∃i:Nat,i<=n9/\k=ξ κ i/\m=ξ κ (fL (λL=>db b L l) ((aB b).take i))/\Hid (Γ (w1.heap.size+1) (w1.alloc (Ξ #[ξ κ b.ab,ζ A1 n1 c1,ζ A2 n2 c2,ζ A3 n3 c3,ζ A9 n9 c9] 122)) wr)) (λ_ k _=>n9 - (ϗ k).toNat)
 case atStart=>exact⟨0,Ϡ _,rfl,by simp[fL],ψ (ώ _ _)⟩
 case round=>
  obtain⟨i,hi,rfl,rfl,hb⟩:=hrel;have sd:w1.heap.size+1<=wr.heap.size:=by have:=hb.e.size;simpa using this
  have wm:Hid (Γ w.heap.size w wr):=ψ (aW.e.trans (((ώ _ _).alloc (by omega) _).trans (hb.e.mono (by omega))))
  have pf:Hid (Γ w1.heap.size w1 wr):=ψ (((ώ _ _).alloc (by omega) _).trans (hb.e.mono (by omega)))
  have kf:Bk wr w1.heap.size 122 #[ξ κ b.ab,ζ A1 n1 c1,ζ A2 n2 c2,ζ A3 n3 c3,ζ A9 n9 c9]:=(Bk.new w1 _ _).below hb.e (by omega)
  have Jc:Bk wr (w.heap.size+1) 27 #[ζ A n c]:=kl.e.below pf.e (by omega)
  have f0:=kf.cell 0;have f1:=kf.cell 1;have f2:=kf.cell 2;have f3:=kf.cell 3;have f4:=kf.cell 4;have l0:=Jc.cell 0;have Lq:=ri.e;have dA:=aed (λL=>db b L l) ((aB b).take i)
  have gJ:((aB b).take i).length<=i:=List.length_take_le _ _;have ahl:0<=fL (λL=>db b L l) ((aB b).take i):=dA.1
  have ahm:fL (λL=>db b L l) ((aB b).take i)<=i:=by have:=dA.2;omega
  clear kf Jc Lq dA gJ;by_cases ao:i<n9
  ·obtain⟨ad,x,cs,lZ,aE,hx,rfl,-,aq⟩:=mz.e i ao
   subst lZ;have st:Δ w1.heap.size w1 wr:=Δ.aJ pf.e (ϊ _);have g0:=cA aq st aE rfl;have g1:=bj aq st aE 0 rfl;have g2:=bj aq st aE 1 rfl;have rK:(ad.add (i * 3)).block<wr.heap.size:=by rw[b9];omega
   have HX:=ψ hx;have vT:Δ B w (wr.alloc (Ξ #[ξ κ x.a,ξ κ x.b,ξ κ x.c] 128)):=(Δ.aJ wm.e hB).alloc (by omega) _
   have wh:=ψ (MN (w:=wr.alloc (Ξ #[ξ κ x.a,ξ κ x.b,ξ κ x.c] 128)) (B:=B) (L:=x) (bD.e.still vT) (wy.e.still vT λ_ _ h=>h) (by simp;omega) OK.e.1.len OK.e.1.three OK.e.1.lC (OK.e.2 x (Ϩ hx)) OK.e.1.ab)
   have a1:w.heap.size+1<wr.heap.size:=by omega
   have a2:w.heap.size+1<=wr.heap.size:=by omega
   have a3:w1.heap.size<wr.heap.size:=by omega
   have a4:w1.heap.size<=wr.heap.size:=by omega
   clear hx aq st vT;cases hd:db b x l with
   |false=>
    have NX:Hid (fL (λL=>db b L l) ((aB b).take i)=fL (λL=>db b L l) ((aB b).take (i+1))):=ψ (by rw[pT HX.e,TK,hd];simp)
    go_wp2_with (first
     | (go_at_call 110;refine wh.e.mono ?_;rintro e w2 ⟨rfl,an⟩;have dj:=ψ (da hb.e an (by omega));clear an))
    go_roundw;case rel=>exact⟨i+1,by omega,by go_num,by rw[NX.e],dj⟩
    case measure=>simp[ϗ];omega
   |true=>
    have NX:Hid (fL (λL=>db b L l) ((aB b).take i)+1=fL (λL=>db b L l) ((aB b).take (i+1))):=ψ (by rw[pT HX.e,TK,hd];simp)
    go_wp2_with (first
     | (go_at_call 110;refine wh.e.mono ?_;rintro e w2 ⟨rfl,an⟩;have dj:=ψ (da hb.e an (by omega));clear an))
    go_roundw;case rel=>exact⟨i+1,by omega,by go_num,by rw[<-NX.e],dj⟩
    case measure=>simp[ϗ];omega
  ·obtain rfl:i=n9:=by omega
   obtain⟨q,hq⟩:∃q,q=fL (λL=>db b L l) ((aB b).take i):=⟨_,rfl⟩
   have HQ:Hid (q=fL (λL=>db b L l) (aB b)):=ψ (by rw[hq,Ċ (ú ri.e)])
   rw[<-hq] at ahl ahm |-
   clear hq;go_wp2;all_goals go_ret2
   all_goals (refine⟨JP ?_ rfl,wm.e⟩;simp only[beq_iff_eq,beq_eq_false_iff_ne,ne_eq] at *;rw[<-HQ.e,ri.e];unfold ng;first| (rw[if_pos (by omega)];done) | (rw[if_neg (by omega),if_pos (by omega)];done) | (rw[if_neg (by omega),if_neg (by omega)];done))
def yv(b:eR)(k:Int):Int:=if cj k 0 (b.pieces.length - 1) then 0 else 6
def acp{k:Int}(hB:B<=w.heap.size)(ah:aQ w B b pv bv tv)(hg:Bk w g 3 #[ξ κ k]):uB b pv bv tv w 99 #[π (φ ⟨g,0,ν⟩)] (yv b k):=by
 refine⟨call99,λ_ W hW=>?_⟩
 have kA:=hg.lt;have g0: W.cell? ⟨g,0,ν⟩=φ (ξ κ k):=(hg.below hW kA).cell 0;have hz:g<W.heap.size:=by have:=hW.size;omega
 have WA:g<=W.heap.size:=by omega
 obtain⟨A1,n1,c1,rfl,e1,h1,du,-⟩:=ah.pieces.Φ;obtain⟨A2,n2,c2,rfl,-⟩:=ah.aC.Φ;obtain⟨A3,n3,c3,rfl,-⟩:=ah.aI.Φ;unfold ϑ at du;have call:∀w:Ψ,ύ prog 100 #[ξ κ k,ξ κ n1] w λe w'=>e=Ω (ξ κ (yv b k))/\w=w':=λw=>by
  have:=there k n1 (by omega) w (by omega)
  unfold yv;rw[e1];exact this
 have aG:=ψ call;clear ah hW hg e1 call;refine app1 ?_
 go_enter func99,Tryz.ntmps99;go_wp2_with (first
  | (go_at_call 100;refine(aG.e _).mono ?_;rintro e w1 ⟨rfl,rfl⟩))
 go_ret;exact⟨bm rfl,(ώ _ _).alloc (ϊ _) _⟩
def Bw(ah:aQ w B b pv bv tv):uB b pv bv tv w 107 #[] 0:=by
 refine⟨call107,λ_ W hW=>?_⟩
 obtain⟨A1,n1,c1,rfl,e1,h1,du,-⟩:=ah.pieces.Φ;obtain⟨A2,n2,c2,rfl,-⟩:=ah.aC.Φ;obtain⟨A3,n3,c3,rfl,-⟩:=ah.aI.Φ;exact nothing W
def oT(b:eR)(k:Nat):List Int:=Lib.compact (fQ ((aB b).map (·.at k)))
def anM{c:Int}(h:a=c):Ending.returned (μ #[v,ξ κ a])=Ω (μ #[v,ξ κ c]):=by rw[h]
def PD(hB:B<=w.heap.size)(ah:aQ w B b pv bv tv)(h:bT b (yv b k)=0):
 ύ prog 24 #[η #[ξ κ b.ab,pv,bv,tv],ξ κ k] w λe w'=>∃v,e=Ω (μ #[v,ξ κ 0])/\w'.ownsRow w.heap.size 3 1 v (oT b k).length ((oT b k).map (ξ κ))/\Γ w.heap.size w w':=by
 have st:Δ B w ((w.alloc (Ξ #[ξ κ b.ab,pv,bv,tv] 26)).alloc (Ξ #[ξ κ k] 3)):=((Δ.refl w).alloc hB _).alloc (by simp;omega) _
 have aG:=ψ (ym (w:=((w.alloc (Ξ #[ξ κ b.ab,pv,bv,tv] 26)).alloc (Ξ #[ξ κ k] 3))) (B:=B) (by simp;omega) (ah.still st) (acp (by simp;omega) (ah.still st) (Bk.bZ (g:=w.heap.size+1) (by simp) _ _)) h)
 have hz:=mX h;have hv:=fG hz.1;have jx:k<3:=by
  have h1:=hz.2.1;unfold yv at h1;split at h1
  ·rename_i h2;have:=nS h2;have:=hv.np;omega
  ·contradiction
 have ah8:=DF hv;obtain⟨i0,cJ,cK,aO,aZ⟩:=Ą Pd;have cy:=ψ (Ϗ cJ (Ϗ cK (Ϗ aO aZ)));obtain⟨A1,n1,c1,rfl,-⟩:=ah.pieces.Φ;obtain⟨A2,n2,c2,rfl,-⟩:=ah.aC.Φ;obtain⟨A3,n3,c3,rfl,-⟩:=ah.aI.Φ;clear ah st hz hv h cJ cK aO aZ;go_enter func24,Tryz.ntmps24;go_wp2_with (first
  | (go_at_call 98;refine aG.e.mono ?_;rintro e w1 ⟨sv,rfl,aH,ai⟩
     obtain⟨A9,n9,c9,rfl,dh,kW,fg,jz⟩:=aH.row.Φ;have mz:=ψ jz;have ri:=ψ dh;have kk:Hid (Bk w1 (w.heap.size+1) 3 #[ξ κ k]):=ψ ((Bk.bZ (by simp) _ _).below ai (by simp))
     have aO:w.heap.size+2<=w1.heap.size:=by have:=ai.size;simpa using this
     have aif:n9<=27:=by omega
     have aW:Hid (Γ w.heap.size w w1):=ψ ((((ώ _ _).alloc (ϊ _) _).alloc (by simp) _).trans (ai.mono (by simp;omega)));clear ai aH dh jz))
 unfold ϑ at fg;go_loopw [8,23] (λo u wr=>∃i:Nat,i<=n9/\u=ξ κ i/\Hid (wr.ownsRow (w1.heap.size+1) 3 1 o i (((aB b).take i).map λL=>ξ κ (L.at k)))/\Hid (Γ (w1.heap.size+1) (w1.alloc (Ξ #[ξ κ b.ab,ζ A1 n1 c1,ζ A2 n2 c2,ζ A3 n3 c3,ζ A9 n9 c9] 122)) wr)) (λ_ u _=>n9 - (ϗ u).toNat)
 case atStart=>exact⟨0,Ϡ _,rfl,ψ ⟨by simp,.inl ⟨rfl,rfl⟩⟩,ψ (ώ _ _)⟩
 case round=>
  obtain⟨i,hi,rfl,HO,hb⟩:=hrel;have sd:w1.heap.size+1<=wr.heap.size:=by have:=hb.e.size;simpa using this
  have pf:Hid (Γ w1.heap.size w1 wr):=ψ (((ώ _ _).alloc (by omega) _).trans (hb.e.mono (by omega)))
  have W9:Bk wr (w.heap.size+1) 3 #[ξ κ k]:=kk.e.below pf.e (by omega)
  have k0:=W9.cell 0;clear W9;by_cases ao:i<n9
  ·obtain⟨ad,x,cs,lZ,aE,hx,rfl,-,aq⟩:=mz.e i ao
   subst lZ;have st:Δ w1.heap.size w1 wr:=Δ.aJ pf.e (ϊ _);have g0:=cA aq st aE rfl;have g1:=bj aq st aE 0 rfl;have g2:=bj aq st aE 1 rfl;have rK:(ad.add (i * 3)).block<wr.heap.size:=by rw[b9];omega
   have HX:=ψ hx;have a1:w.heap.size+1<wr.heap.size:=by omega
   have a2:w.heap.size+1<=wr.heap.size:=by omega
   have ahV:(k:Int)<3:=by omega
   have gk:(wr.alloc (Ξ #[ξ κ x.a,ξ κ x.b,ξ κ x.c] 128)).cell? ⟨wr.heap.size,k,ν⟩=φ (ξ κ (x.at k)):=(Bk.new wr _ _).cell k|>.trans (al.wU (n:=x) jx)
   clear hx aq st;go_wp2_with (first
    | (at_builtin
       refine ĭ _ rfl (.tmp 27) (.tmp 31) 33 rfl (w1.heap.size+1) 3 i0 (ξ κ 0) 1 8 (U Tryz.underlying33) cy.e.1 cy.e.2.1 cy.e.2.2.1 cy.e.2.2.2 rfl (by decide) _ i _ rfl ((HO.e.alloc _).alloc _) ⟨wr.heap.size+1,0,ν⟩ 1 1 [ξ κ (x.at k)] rfl rfl ?c1 ?c2 ?c3 ?c4 ?c5 ?_
       case c1=>(intro j u hu;match j,hu with|0,hu=>(simp at hu;subst hu;simp[go_sem,ċ]))
       case c2=>simp[Value.oneCell']
       case c3=>(simp only[ϑ];omega)
       case c4=>omega
       case c5=>(simp;omega)
       intro v' w2 b7 cW _;have gC:=ψ b7;have gX:=ψ cW;clear b7 cW))
   go_roundw;case rel=>exact⟨i+1,by omega,by go_num,ψ (by rw[pT HX.e,Ah8];exact gC.e),
    ψ ((hb.e.trans (((ώ _ _).alloc sd _).alloc (by simp;omega) _)).grown gX.e (by simp;omega) (λk hk=>dX HO.e k hk))⟩
   case measure=>simp[ϗ];omega
  ·obtain rfl:i=n9:=by omega
   have xJ:(((aB b).take i).map λL=>ξ κ (L.at k))=((aB b).map (·.at k)).map (ξ κ):=by
    rw[Ċ (ú ri.e),List.map_map];rfl
   have sB:Hid (wr.ownsRow (w1.heap.size+1) 3 1 u8 i (((aB b).map (·.at k)).map (ξ κ))):=ψ (xJ▸HO.e)
   have wm:Hid (Γ w.heap.size w wr):=ψ (aW.e.trans (pf.e.mono (by omega)))
   clear xJ HO;go_wp2_with (first
    | (go_at_call 101;refine(QE sB.e (by omega) sd).mono ?_;rintro e w2 ⟨rfl,b7,an⟩;have wA:=ψ b7;have dR:=ψ an;clear b7 an)
    | (go_at_call 102;refine(TF wA.e (by omega)).mono ?_;rintro e w3 ⟨u,rfl,gv,bK⟩;have yU:=ψ gv;have jK:=ψ bK;clear gv bK))
   go_ret2
   exact⟨_,anM rfl,yU.e.base (by omega),wm.e.trans ((dR.e.trans jK.e).mono (by omega))⟩
def al.sum(L:al):Int:=L.a+L.b+L.c
def C8(s:Span)(L:al):Span:=⟨min s.lo L.sum,max s.hi L.sum⟩
def pV:List al->Span
 | []=>⟨0,0⟩
 |x::l=>l.foldl C8 ⟨x.sum,x.sum⟩
def ap0{l:List al}(h:l≠ [])(x:al):pV (l++ [x])=C8 (pV l) x:=by
 cases l with
 |nil=>exact absurd rfl h
 |cons a l=>simp[pV]
def apZ(x:al):pV [x]=C8 ⟨x.sum,x.sum⟩ x:=by simp[pV,C8]
def ap1(hB:B<=w.heap.size)(ah:aQ w B b pv bv tv)(h:bT b 0=0):
 ύ prog 26 #[η #[ξ κ b.ab,pv,bv,tv]] w λe w'=>e=Ω (μ #[η #[ξ κ (pV (aB b)).lo,ξ κ (pV (aB b)).hi],ξ κ 0])/\Γ w.heap.size w w':=by
 have st:Δ B w ((w.alloc (Ξ #[ξ κ b.ab,pv,bv,tv] 26)).alloc (Ξ #[ξ κ 0,ξ κ 0] 37)):=((Δ.refl w).alloc hB _).alloc (by simp;omega) _
 have aG:=ψ (ym (w:=((w.alloc (Ξ #[ξ κ b.ab,pv,bv,tv] 26)).alloc (Ξ #[ξ κ 0,ξ κ 0] 37))) (B:=B) (by simp;omega) (ah.still st) (Bw (ah.still st)) h)
 have hz:=mX h;have hv:=fG hz.1;have OK:=ψ (wI hv);have O5:=ψ hz.2.2;obtain⟨A1,n1,c1,rfl,-⟩:=ah.pieces.Φ;obtain⟨A2,n2,c2,rfl,-⟩:=ah.aC.Φ;obtain⟨A3,n3,c3,rfl,-⟩:=ah.aI.Φ;clear ah st hz hv h;go_enter func26,Tryz.ntmps26;go_wp2_with (first
  | (go_at_call 98;refine aG.e.mono ?_;rintro e w1 ⟨sv,rfl,aH,ai⟩
     obtain⟨A9,n9,c9,rfl,dh,kW,fg,jz⟩:=aH.row.Φ;have mz:=ψ jz;have ri:=ψ dh;have k2:Hid (Bk w1 (w.heap.size+1) 37 #[ξ κ 0,ξ κ 0]):=ψ ((Bk.bZ (by simp) _ _).below ai (by simp))
     have aO:w.heap.size+2<=w1.heap.size:=by have:=ai.size;simpa using this
     have aW:Hid (Γ w.heap.size w w1):=ψ ((((ώ _ _).alloc (ϊ _) _).alloc (by simp) _).trans (ai.mono (by simp;omega)));clear ai aH dh jz))
 unfold ϑ at fg;go_loopw [24] (λu wr=>∃i:Nat,i<=n9/\u=ξ κ i/\Hid (Bk wr (w1.heap.size+1) 37 #[ξ κ (pV ((aB b).take i)).lo,ξ κ (pV ((aB b).take i)).hi])/\Hid (Γ w1.heap.size w1 wr)) (λu _=>n9 - (ϗ u).toNat)
 case atStart=>exact⟨0,Ϡ _,rfl,ψ (by simpa [pV] using Bk.bZ (by simp) _ _),ψ (((ώ _ _).alloc (ϊ _) _).alloc (by simp) _)⟩
 case round=>
  obtain⟨i,hi,rfl,hk,hb⟩:=hrel;have sd:w1.heap.size+1<wr.heap.size:=hk.e.lt;have wm:Hid (Γ w.heap.size w wr):=ψ (aW.e.trans (hb.e.mono (by omega)))
  obtain⟨T,hT⟩:∃T,T=pV ((aB b).take i):=⟨_,rfl⟩
  rw[<-hT] at hk;have HT:=ψ hT;clear hT;have t0: wr.cell? ⟨w1.heap.size+1,0,ν⟩=φ (ξ κ T.lo):=hk.e.cell 0;have t1: wr.cell? ⟨w1.heap.size+1,1,ν⟩=φ (ξ κ T.hi):=hk.e.cell 1;have z0:=hk.e.frozen 0;have z1:=hk.e.frozen 1;by_cases ao:i<n9
  ·obtain⟨ad,x,cs,lZ,aE,hx,rfl,-,aq⟩:=mz.e i ao
   subst lZ;have st:Δ w1.heap.size w1 wr:=Δ.aJ hb.e (ϊ _);have g0:=cA aq st aE rfl;have g1:=bj aq st aE 0 rfl;have g2:=bj aq st aE 1 rfl;have rK:(ad.add (i * 3)).block<wr.heap.size:=by rw[b9];omega
   have HX:=ψ hx;have JD:=OK.e x (Ϩ hx);have oka:0<=x.a/\x.a<=1000:=JD 0;have okb:0<=x.b/\x.b<=1000:=JD 1;have JC:0<=x.c/\x.c<=1000:=JD 2;have i0:∀w:Ψ,(ğ 128 (η #[ξ κ x.a,ξ κ x.b,ξ κ x.c]) (ξ κ 0)).run prog w=.ok (ξ κ x.a) w:=λw=>by simp[ğ,go_sem]
   have i1:∀w:Ψ,(ğ 128 (η #[ξ κ x.a,ξ κ x.b,ξ κ x.c]) (ξ κ 1)).run prog w=.ok (ξ κ x.b) w:=λw=>by simp[ğ,go_sem]
   have i2:∀w:Ψ,(ğ 128 (η #[ξ κ x.a,ξ κ x.b,ξ κ x.c]) (ξ κ 2)).run prog w=.ok (ξ κ x.c) w:=λw=>by simp[ğ,go_sem]
   clear hx aq st JD;go_wp2;go_loopw [9,30] (λs z W=>∃j:Nat,j<=3/\z=ξ κ j/\s=ξ κ (if j=0 then 0 else if j=1 then x.a else if j=2 then x.a+x.b else x.a+x.b+x.c)/\W=wr.alloc (Ξ #[ξ κ x.a,ξ κ x.b,ξ κ x.c] 128)) (λ_ z _=>3 - (ϗ z).toNat)
   case atStart=>exact⟨0,by omega,rfl,rfl,rfl⟩
   case round=>
    obtain⟨j,hj,rfl,rfl,rfl⟩:=hrel;match j,hj with
    |0,_=>
     go_wp2;go_roundw;case rel=>exact⟨1,by omega,rfl,by simp,trivial⟩
     case measure=>simp[ϗ]
    |1,_=>
     go_wp2;go_roundw;case rel=>exact⟨2,by omega,rfl,by simp,trivial⟩
     case measure=>simp[ϗ]
    |2,_=>
     go_wp2;go_roundw;case rel=>exact⟨3,by omega,rfl,by simp,trivial⟩
     case measure=>simp[ϗ]
    |3,_=>
     obtain⟨S,hS⟩:∃S,S=x.a+x.b+x.c:=⟨_,rfl⟩
     have HS:Hid (S=x.sum):=ψ hS;have e3:(if 3=0 then 0 else if 3=1 then x.a else if 3=2 then x.a+x.b else x.a+x.b+x.c)=S:=by simp[hS]
     rw[e3];clear hS e3;have q1:w1.heap.size+1<wr.heap.size+1:=by omega
     have eD:=hk.e.alloc (Ξ #[ξ κ x.a,ξ κ x.b,ξ κ x.c] 128);by_cases h0:i=0
     ·subst h0
      go_wp2;go_roundw;case rel=>exact⟨1,by omega,by simp,ψ (by
           have e:(aB b).take 1=[x]:=by have:=pT HX.e;simpa using this
           rw[e,apZ];have:=(((hk.e.set 0 (ξ κ S)).set 1 (ξ κ S)).set 0 (ξ κ S)).set 1 (ξ κ S);simpa [C8,HS.e] using this.alloc (Ξ #[ξ κ x.a,ξ κ x.b,ξ κ x.c] 128)),
          ψ (ũ (by(repeat refine Ĺ ?_ (by simp) _);exact hb.e) (by simp[ï];omega) _)⟩
      case measure=>simp[ϗ];omega
     ·have aw:((i:Int)==0)=χ:=by simp;omega
      go_wp2;go_roundw;case rel=>exact⟨i+1,by omega,by go_num,ψ (by
           have hn:(aB b).take i≠ []:=by
            intro e;have h1:((aB b).take i).length=i:=by rw[List.length_take,ri.e];omega
            rw[e] at h1;simp at h1;omega
           rw[pT HX.e,ap0 hn,<-HT.e];have:=(hk.e.set 0 (ξ κ (min T.lo S))).set 1 (ξ κ (max T.hi S));simpa [C8,HS.e] using this.alloc (Ξ #[ξ κ x.a,ξ κ x.b,ξ κ x.c] 128)),
          ψ (ũ (by(repeat refine Ĺ ?_ (by simp) _);exact hb.e) (by simp[ï];omega) _)⟩
      case measure=>simp[ϗ];omega
  ·obtain rfl:i=n9:=by omega
   have ZP:Hid (T=pV (aB b)):=ψ (by rw[HT.e,Ċ (ú ri.e)])
   have kr:=k2.e.below hb.e (by omega)
   have r0: wr.cell? ⟨w.heap.size+1,0,ν⟩=φ (ξ κ 0):=kr.cell 0;have r1: wr.cell? ⟨w.heap.size+1,1,ν⟩=φ (ξ κ 0):=kr.cell 1;have y0:=kr.frozen 0;have y1:=kr.frozen 1;have e1:w.heap.size+1<w1.heap.size+1:=by omega
   clear kr;go_wp2;refine à (v:=μ #[η #[ξ κ T.lo,ξ κ T.hi],ξ κ 0]) (by simp[results,Tryz.results26,go_sem,r0,r1]) rfl ⟨by rw[ZP.e],?_⟩
   repeat refine Ĺ ?_ (by simp) _
   exact wm.e
def ajI:prog.keyTypeAt 10 225=θ:=by kernel_rfl
def apW:prog.tiled 10 225=θ:=by kernel_rfl
def small:10+1<=10000:=by omega
def FL:Maps.Keyed prog 225:=Maps.Keyed.of_law (deep_law small ajI apW (by kernel_rfl))
def kt:prog.keyType 225=θ:=by kernel_rfl
def sz:prog.types.size=260:=by kernel_rfl
def Tj:prog.cellsOf 225=4:=by kernel_rfl
def c3:prog.cellsOf 3=1:=by kernel_rfl
def fm(a b c d:Int):(Value.agg #[.int .i64 a,.int .i64 b,.int .i64 c,.int .i64 d]).formed prog 225=θ:=by
 have u:=U Tryz.underlying225;simp only[Value.formed,u,Tj];rfl
def ajG(n:Nat)(a b c d:Int)(ha:(Lit.int .i64 a).wf=θ)(hb:(Lit.int .i64 b).wf=θ)(hc:(Lit.int .i64 c).wf=θ)(hd:(Lit.int .i64 d).wf=θ):
 prog.keyLits (n+1+1) 225 [.int .i64 a,.int .i64 b,.int .i64 c,.int .i64 d]=φ [.int .i64 a,.int .i64 b,.int .i64 c,.int .i64 d]:=by
 have u:=U Tryz.underlying225;have u3:=U Tryz.underlying3;simp[Program.keyLits,u,u3,Tj,c3,ha,hb,hc,hd]
def ajD(a b c d:Int)(ha:(Lit.int .i64 a).wf=θ)(hb:(Lit.int .i64 b).wf=θ)(hc:(Lit.int .i64 c).wf=θ)(hd:(Lit.int .i64 d).wf=θ):∃l,keyOf prog 225 (η #[.int .i64 a,.int .i64 b,.int .i64 c,.int .i64 d])=φ l:=by
 have u:=U Tryz.underlying225;refine⟨.string (keyBytes [.int .i64 a,.int .i64 b,.int .i64 c,.int .i64 d]),?_⟩
 unfold keyOf;simp only[u,kt,fm,Bool.and_self,if_true];rw[sz];have:=ajG 259 a b c d ha hb hc hd;simp only[Value.cells,Array.toList] at this |-
 rw[this];rfl
def kv(bd fr ln be:Int):υ:=η #[.int .i64 bd,.int .i64 fr,.int .i64 ln,.int .i64 be]
def mC(a:Int):Prop:= -9223372036854775808<=a/\a<=9223372036854775807
def Dd(h:mC a):(Lit.int .i64 a).wf=θ:=WalkArith.wf_i64 h
def qN(b:eR)(bd fr ln be:Int):Bool:=match b.aC[bd.toNat]? with
 |some x=>pO x be ln ⟨bd,fr⟩
 |none=>χ
structure Bm(bd fr ln be:Int):Prop where
 a:mC bd
 b:mC fr
 c:mC ln
 d:mC be
def Bm.key(h:Bm bd fr ln be):∃l,keyOf prog 225 (kv bd fr ln be)=φ l:=ajD bd fr ln be (Dd h.a) (Dd h.b) (Dd h.c) (Dd h.d)
def CH(b:eR)(e:MapEntry):Prop:=∃bd fr ln be,Bm bd fr ln be/\e.key=kv bd fr ln be/\e.val=.bool (qN b bd fr ln be)
def dS(W:Ψ)(g:Nat)(b:eR):Prop:=∃es clock,W.heap[g]?=φ (.map es clock)/\∀e∈es.toList,CH b e
def dS.lt(h:dS W g b):g<W.heap.size:=by
 obtain⟨es,clock,h,_⟩:=h;exact(ϛ.1 h).1
def ajJ{b c b' d':Int}(h:kv a b c d=kv a' b' c' d'):a=a'/\b=b'/\c=c'/\d=d':=by
 simp[kv] at h;exact h
def CH.key{b:eR}{e:MapEntry}(h:CH b e):∃l,keyOf prog 225 e.key=φ l:=by
 obtain⟨bd,fr,ln,be,h1,h2,_⟩:=h;obtain⟨l,hl⟩:=h1.key;exact⟨l,by rw[h2];exact hl⟩
def akA(h:dS W g b)(hk:Bm bd fr ln be):
 ∃v ok,(Ŕ 149 (.map (φ g)) (kv bd fr ln be) θ).run prog W=.ok (μ #[.bool v,.bool ok]) W/\(ok=θ->v=qN b bd fr ln be):=by
 obtain⟨es,clock,hg,sS⟩:=h;obtain⟨l,hl⟩:=hk.key;have hc:=FL.check W es.isEmpty hl;have hz:(zeroValue 4).run prog W=.ok (.bool χ) W:=by rw[QS];kernel_rfl
 have hgo:(getObj g).run prog W=.ok (.map es clock) W:=by simp[getObj,Sem.run,hg]
 rcases FL.find W hl es.toList (λe he=>(sS e he).key) with⟨hf,_⟩ | ⟨j,e,hf,hj,Oh⟩
 ·refine⟨χ,χ,?_,by simp⟩
  unfold Ŕ;simp[Sem.run_bind,hgo,Ũ,hc,hf,hz,go_sem]
 ·obtain⟨bd',ba,ln',be',_,h2,h3⟩:=sS e (Ϩ hj)
  rw[Oh] at h2;obtain⟨rfl,rfl,rfl,rfl⟩:=ajJ h2;refine⟨_,θ,?_,λ_=>rfl⟩
  unfold Ŕ;simp[Sem.run_bind,hgo,Ũ,hc,hf,h3,go_sem]
def aqo(h:dS W g b)(hk:Bm bd fr ln be):
 ∃W',(ŕ 149 (.map (φ g)) (kv bd fr ln be) (.bool (qN b bd fr ln be))).run prog W=.ok () W'/\dS W' g b/\W.grownBy W' (φ g):=by
 obtain⟨es,clock,hg,sS⟩:=h;have ao:=(ϛ.1 hg).1
 obtain⟨l,hl⟩:=hk.key;have hc:=FL.check W χ hl;have hgo:(getObj g).run prog W=.ok (.map es clock) W:=by simp[getObj,Sem.run,hg]
 have I0:∀es' DV,(setObj g (.map es' DV)).run prog W=.ok () (W.putObj g (.map es' DV)):=λes' DV=>by
  have e:W.heap[g]=.map es clock:=(ϛ.1 hg).2
  simp[setObj,Sem.run,World.putObj,ao,e]
 have gr:∀es' DV,W.grownBy (W.putObj g (.map es' DV)) (φ g):=λ_ _=>Ĭ _ _ _
 rcases FL.find W hl es.toList (λe he=>(sS e he).key) with⟨hf,_⟩ | ⟨j,e,hf,hj,Oh⟩
 ·refine⟨W.putObj g (.map (es.push {key:=kv bd fr ln be,val:=.bool (qN b bd fr ln be),born:=clock}) (clock+1)),?_,?_,gr _ _⟩
  ·unfold ŕ
   simp[Sem.run_bind,hgo,Ũ,hc,hf,go_sem,I0]
  ·refine⟨_,_,Ŋ ao,λe he=>?_⟩
   simp at he;rcases he with he|rfl
   ·exact sS e (by simpa using he)
   ·exact⟨bd,fr,ln,be,hk,rfl,rfl⟩
 ·have eW:=FL.stays W hl
  refine⟨W.putObj g (.map (es.modify j λe=> {e with key:=kv bd fr ln be,val:=.bool (qN b bd fr ln be)}) clock),?_,?_,gr _ _⟩
  ·unfold ŕ
   have rQ:es[j]?=φ e:=by simpa using hj
   simp[Sem.run_bind,hgo,Ũ,hc,hf,go_sem,rQ,Oh,eW,I0]
  ·refine⟨_,_,Ŋ ao,λe' he'=>?_⟩
   obtain⟨i,hi⟩:=List.getElem?_of_mem he'
   rw[ī,Array.getElem?_modify] at hi
   split at hi
   ·cases h:es[i]? with
    |none=>rw[h] at hi;cases hi
    |some e0=>
     rw[h] at hi;cases hi;exact⟨bd,fr,ln,be,hk,rfl,rfl⟩
   ·exact sS e' (by rw[<-ī] at hi;exact Ϩ hi)
def ZF{o:Oper}{a:Act}{Q:Exit->Act->Ψ->Prop}(hg:o.guard=ν)(m x:Ë)(t:TypeId)(ag:o.op=Op.lookup t m x θ)(r:υ)
 (bh:(Ŕ t (a.eval m) (a.eval x) θ).run P w=.ok r w)(hK:û P ops Q rest (a.put o.dst r) w):û P ops Q (o::rest) a w:=by
 refine wpList_plain hg λK' Eg=>?_
 unfold ž;simp[execOp,ag,bh,Ũ];exact Eg _ _ hK
def aqX{o:Oper}{a:Act}{Q:Exit->Act->Ψ->Prop}(hg:o.guard=ν)(m x v:Ë)(t:TypeId)(ag:o.op=Op.mapUpdate t m x v)
 (bh:(ŕ t (a.eval m) (a.eval x) (a.eval v)).run P w=.ok () w')(hK:û P ops Q rest (a.put o.dst ω) w'):û P ops Q (o::rest) a w:=by
 refine wpList_plain hg λK' Eg=>?_
 unfold ž;simp[execOp,ag,bh,Ũ];exact Eg _ _ hK
def dS.grown{row:Option Nat}(h:dS W g b)(hg:W.grownBy W' row)(hr:row≠φ g):dS W' g b:=by
 have hl:=h.lt;obtain⟨es,clock,h1,h2⟩:=h;exact⟨es,clock,(hg.block g hl (λe=>hr e.symm)).trans h1,h2⟩
def dS.below(h:dS W g b)(hb:Γ B W W')(hg:g<B):dS W' g b:=by
 obtain⟨es,clock,h1,h2⟩:=h;exact⟨es,clock,(hb.block g hg).trans h1,h2⟩
def jQ(h:Γ B w w')(hB:w.heap.size<=B)(row:Option Nat):w.grownBy w' row:=⟨h.os,h.tape,h.output,h.size,λk hk _=>h.block k (by omega)⟩
def Zl{row:Option Nat}(h:w.drew.grownBy w' row):w.grownBy w' row:=⟨h.os,h.tape,h.output,h.size,h.block⟩
def can{p:Piece}{from_ length:Int}(ah:aQ w B b pv bv tv)(hB:B<=w.heap.size)(nQ:∃A n c,sv=ζ A n c)(hm:dS w g b)(hgB:B<=g)
 (hp:b.pieces[i]?=φ p)(hx:b.aC[k]?=φ x)(hf:0<=from_/\from_<=1000)(hl:0<=length/\length<=1000)(NG:0<=p.bears/\p.bears<=2)(jx:k<=3):
 ύ prog 176 #[η #[ξ κ b.ab,pv,bv,tv,sv,.map (φ g)],ξ κ i,ξ κ length,η #[ξ κ k,ξ κ from_]] w λe w'=>e=Ω (.bool (qN b k from_ length p.bears))/\w.grownBy w' (φ g)/\dS w' g b:=by
 obtain⟨A4,n4,c4,rfl⟩:=nQ;have bD:=ψ ah;have Vu:Bm k from_ length p.bears:=⟨by unfold mC;omega,by unfold mC;omega,by unfold mC;omega,by unfold mC;omega⟩
 have RQ:=ψ Vu;have HM:=ψ hm;obtain⟨A1,n1,c1,rfl,e1,h1,du,r1⟩:=ah.pieces.Φ;obtain⟨A2,n2,c2,rfl,e2,h2,ei,r2⟩:=ah.aC.Φ;obtain⟨A3,n3,c3,rfl,-⟩:=ah.aI.Φ;unfold ϑ at du ei;have hi:i<n1:=by have:=(Ϯ.1 hp).1;omega
 obtain⟨er,p',wT,rfl,B3,E0,⟨rfl,VZ⟩,-,fU⟩:=r1 i hi;obtain rfl:p'=p:=by rw[E0] at hp;exact Ϟ hp
 have st:=Δ.refl (B:=B) w;have g3: w.cell? ⟨(er.add (i * 4)).block,(er.add (i * 4)).off+3,ν⟩=φ (ξ κ p'.bears):=bj fU st B3 2 rfl;have s0:(er.add (i * 4)).block<w.heap.size:=by rw[b9];omega
 have s1:(er.add (i * 4)).block<=w.heap.size:=by omega
 have s2:(er.add (i * 4)).block<=w.heap.size+1:=by omega
 have kA:=hm.lt;have aG:=λ(W:Ψ) (eW:Δ B w W) (hs:B<=W.heap.size)=>Xi (w:=W) (bD.e.still eW) hs hp hx hf hl
 have eP:qN b k from_ length p'.bears=pO x p'.bears length ⟨k,from_⟩:=by unfold qN;simp[hx]
 have HC:=ψ aG;have uK:=ψ eP;clear ah e1 e2 r1 r2 hp hx E0 fU st Vu hm aG eP VZ;have gB:((w.alloc (ϣ #[ξ κ b.ab,ζ (φ er) n1 c1,ζ A2 n2 c2,ζ A3 n3 c3,ζ A4 n4 c4,.map (φ g)] 151)).alloc (ϣ #[ξ κ k,ξ κ from_] 56)).cell? ⟨(er.add (i * 4)).block,(er.add (i * 4)).off+3,ν⟩=φ (ξ κ p'.bears):=
  (ù _ _ _ (by simp;omega)).trans ((ù _ _ _ (by simp;omega)).trans g3)
 have gA:(((w.alloc (ϣ #[ξ κ b.ab,ζ (φ er) n1 c1,ζ A2 n2 c2,ζ A3 n3 c3,ζ A4 n4 c4,.map (φ g)] 151)).alloc (ϣ #[ξ κ k,ξ κ from_] 56)).alloc (ϣ #[ξ κ 0,ξ κ 0,ξ κ 0,ξ κ 0] 225)).cell? ⟨(er.add (i * 4)).block,(er.add (i * 4)).off+3,ν⟩=φ (ξ κ p'.bears):=
  (ù _ _ _ (by simp;omega)).trans gB
 go_enter func176,Tryz.ntmps176;go_wp2;go_region
 clear gA gB;obtain⟨W4,B2⟩:∃W4,W4=(((w.alloc (ϣ #[ξ κ b.ab,ζ (φ er) n1 c1,ζ A2 n2 c2,ζ A3 n3 c3,ζ A4 n4 c4,.map (φ g)] 151)).alloc (ϣ #[ξ κ k,ξ κ from_] 56)).alloc (ϣ #[ξ κ k,ξ κ from_,ξ κ length,ξ κ p'.bears] 225)).drew:=⟨_,rfl⟩
 rw[<-B2];have b4:Bk W4 w.heap.size 151 #[ξ κ b.ab,ζ (φ er) n1 c1,ζ A2 n2 c2,ζ A3 n3 c3,ζ A4 n4 c4,.map (φ g)]:=by rw[B2];exact((Bk.new w _ _).alloc _).alloc _
 have Hd:Bk W4 (w.heap.size+1) 56 #[ξ κ k,ξ κ from_]:=by rw[B2];exact(Bk.bZ (by simp) _ _).alloc _
 have k4:Bk W4 (w.heap.size+1+1) 225 #[ξ κ k,ξ κ from_,ξ κ length,ξ κ p'.bears]:=by rw[B2];exact Bk.bZ (by simp) _ _
 have B4:Γ w.heap.size w W4:=by rw[B2];exact dT ((((ώ _ _).alloc (ϊ _) _).alloc (by simp) _).alloc (by simp;omega) _)
 have jK:=ψ (Ϗ b4 (Ϗ Hd (Ϗ k4 B4)));have Lv:=ψ (HM.e.below B4 kA);have sc:w.heap.size+1+1<W4.heap.size:=k4.lt;have m0:=b4.cell 0;have m1:=b4.cell 1;have m2:=b4.cell 2;have m3:=b4.cell 3;have m5: W4.cell? ⟨w.heap.size,5,ν⟩=φ (.map (φ g)):=b4.cell 5;have Mw:=Hd.cell 0;have Mx:=Hd.cell 1;have q0: W4.cell? ⟨w.heap.size+1+1,0,ν⟩=φ (ξ κ k):=k4.cell 0;have q1: W4.cell? ⟨w.heap.size+1+1,1,ν⟩=φ (ξ κ from_):=k4.cell 1;have q2: W4.cell? ⟨w.heap.size+1+1,2,ν⟩=φ (ξ κ length):=k4.cell 2;have q3: W4.cell? ⟨w.heap.size+1+1,3,ν⟩=φ (ξ κ p'.bears):=k4.cell 3;obtain⟨v,ok,VK,cD⟩:=akA Lv.e RQ.e;have RV:=ψ VK;have aG:=ψ (HC.e W4 (Δ.aJ B4 hB) (by have:=B4.size;omega))
 clear B2 b4 Hd k4 B4 VK;cases ok with
 |true=>
  obtain rfl:=cD rfl;clear cD;go_wp2_with (first
   | (at_lookup;refine ZF rfl (.tmp 29) (.tmp 30) 149 rfl _ RV.e ?_))
  go_ret;exact⟨bU rfl,jQ jK.e.2.2.2 (ϊ _) _,Lv.e⟩
 |false=>
  clear cD;go_wp2_with (first
   | (at_lookup;refine ZF rfl (.tmp 29) (.tmp 30) 149 rfl _ RV.e ?_)
   | (go_at_call 165;refine aG.e.mono ?_;rintro e w1 ⟨rfl,ai⟩
      have m5: w1.cell? ⟨w.heap.size,5,ν⟩=φ (.map (φ g)):=(jK.e.1.below ai (by omega)).cell 5
      have q0: w1.cell? ⟨w.heap.size+1+1,0,ν⟩=φ (ξ κ k):=(jK.e.2.2.1.below ai (by omega)).cell 0
      have q1: w1.cell? ⟨w.heap.size+1+1,1,ν⟩=φ (ξ κ from_):=(jK.e.2.2.1.below ai (by omega)).cell 1
      have q2: w1.cell? ⟨w.heap.size+1+1,2,ν⟩=φ (ξ κ length):=(jK.e.2.2.1.below ai (by omega)).cell 2
      have q3: w1.cell? ⟨w.heap.size+1+1,3,ν⟩=φ (ξ κ p'.bears):=(jK.e.2.2.1.below ai (by omega)).cell 3
      obtain⟨w2,O2,eD,oK⟩:=aqo (Lv.e.below ai (by omega)) RQ.e
      rw[uK.e] at O2;have ZQ:=ψ O2;have HE:=ψ (Ϗ eD oK);have fS:=ψ (chain jK.e.2.2.2 ai (by omega))
      clear ai O2 eD oK)
   | (at_mapUpdate;refine aqX rfl (.tmp 44) (.tmp 45) (.tmp 46) 149 rfl ZQ.e ?_))
  go_ret;exact⟨bU (by rw[uK.e]),(jQ fS.e (ϊ _) _).trans HE.e.2,HE.e.1⟩
def kF(b:eR)(k:Nat):Nat:=match b.aC[k]? with
 |some x=>x.aL.toNat
 |none=>0
def nX(b:eR)(n:al)(cs:List Cut)(c:Cut):Bool:=pN b cs.length (n.at cs.length) c && (ε cs.length).all (sg b n cs cs.length c)
def jY(b:eR)(n:al)(S:List Cut->Option (List Cut))(cs:List Cut)(k fr:Nat):Option (List Cut):=if nX b n cs ⟨k,fr⟩ then S (cs++ [⟨k,fr⟩]) else ν
def jM(b:eR)(n:al)(out:Nat->Bool)(S:List Cut->Option (List Cut))(cs:List Cut)(k:Nat):Option (List Cut):=
 if out k then ν else(ε (kF b k)).findSome? (jY b n S cs k)
def search(b:eR)(n:al)(out:Nat->Bool):Nat->List Cut->Option (List Cut)
 |0,cs=>φ cs
 |f+1,cs=>(ε b.aC.length).findSome? (jM b n out (search b n out f) cs)
def zq{F:Nat->Option α}:(ε n).findSome? F=ν↔∀i,i<n->F i=ν:=by simp
def Ur{F:Nat->Option α}{x:α}(hk:k<n)(h0:∀i,i<k->F i=ν)(h:F k=φ x):(ε n).findSome? F=φ x:=by
 have e:ε n=ε k++k::(ε n).drop (k+1):=by
  have h1:(ε n).take k=ε k:=by rw[List.take_range,Ain (by omega)]
  have h2:=List.take_append_drop k (ε n);rw[h1,List.drop_eq_getElem_cons (by simpa using hk)] at h2
  rw[List.getElem_range] at h2;exact h2.symm
 rw[e,List.findSome?_append,zq.2 h0,List.findSome?_cons,h]
 rfl
def Cut.vs(c:Cut):List υ:=[ξ κ c.bt,ξ κ c.from_]
structure cY where
 w:Ψ
 b:eR
 pv:υ
 bv:υ
 tv:υ
 sv:υ
 n:al
 gs:Nat
 go:Nat
 gn:Nat
 gm:Nat
 KO:Nat
 kE:Array υ
 e:Nat->Bool
 l:Nat
def cY.s(X:cY):Nat:=X.w.heap.size
def cY.np(X:cY):Nat:=X.b.pieces.length
def cY.args(X:cY):Array υ:=#[π (φ ⟨X.s+2,0,ν⟩),π (φ ⟨X.gs,0,ν⟩),π (φ ⟨X.s,0,ν⟩),π (φ ⟨X.go,0,ν⟩),π (φ ⟨X.gn,0,ν⟩),π (φ ⟨X.s+3,0,ν⟩)]
structure cY.Ok(X:cY)(B:Nat):Prop where
 book:aQ X.w B X.b X.pv X.bv X.tv
 valid:Valid X.b
 lens:X.n.Ok
 sv:∃A n c,X.sv=ζ A n c
 B:B<=X.gm
 s:X.gs<X.s
 o:X.go<X.s
 gn:X.gn<X.s
 gm:X.gm<X.s
 ns:X.gs≠X.gm
 no:X.go≠X.gm
 nn:X.gn≠X.gm
 cs:Bk X.w X.gs 151 #[ξ κ X.b.ab,X.pv,X.bv,X.tv,X.sv,.map (φ X.gm)]
 co:Bk X.w X.go 158 #[fv X.KO X.kE]
 cn:Bk X.w X.gn 128 X.n.cs
 eg:∀args w,(callFunc X.KO args).run prog w=.ok (.enter X.KO args) w
 e:∀(k:Nat) (W:Ψ),k<X.b.aC.length->X.w.grownBy W (φ X.gm)->ύ prog X.KO (#[ξ κ k]++X.kE) W λe W'=>e=Ω (.bool (X.e k))/\Γ W.heap.size W W'
structure DI(X:cY)(cs:List Cut)(W:Ψ):Prop where
 y:Bk W X.s 139 #[.func (.yield X.l) #[] #[]]
 arr:W.ownsRow (X.s+1) 56 2 (ζ (φ ⟨X.s+1,0,ν⟩) cs.length X.np) cs.length (cs.flatMap Cut.vs)
 lv:Bk W (X.s+2) 27 #[ζ (φ ⟨X.s+1,0,ν⟩) cs.length X.np]
 nx:Bk W (X.s+3) 29 #[.func (.func 175) #[] X.args]
 gr:X.w.grownBy W (φ X.gm)
 known:dS W X.gm X.b
def Bk.grown{t:TypeId}{row:Option Nat}(h:Bk W g t cs)(hg:W.grownBy W' row)(hr:φ g≠row):Bk W' g t cs:=(hg.block g h.lt hr).trans h
def amW{base:Nat}{sz:Nat}{row:Option Nat}(h:w.ownsRow base e sz v n xs)(hg:w.grownBy w' row)(hr:∀k,row=φ k->k<base):w'.ownsRow base e sz v n xs:=by
 refine⟨h.1,?_⟩
 rcases h.2 with h0| ⟨g,cap,cur,h1,h2,h3,h4⟩
 ·exact .inl h0
 ·exact .inr ⟨g,cap,cur,h1,h2,(hg.block g (ϛ.1 h3).1 (λe=>by have:=hr g e.symm;omega)).trans h3,h4⟩
def DI.grown{X:cY}{B:Nat}{cs:List Cut}{W W':Ψ}(ok:X.Ok B)(h:DI X cs W)(hg:W.grownBy W' (φ X.gm))(hk:dS W' X.gm X.b):DI X cs W':=by
 have:=ok.gm;exact⟨h.y.grown hg (by simp;omega),amW h.arr hg (λk e=>by cases e;omega),h.lv.grown hg (by simp;omega),h.nx.grown hg (by simp;omega),h.gr.trans hg,hk⟩
def DI.below{X:cY}{B:Nat}{cs:List Cut}{W W':Ψ}(ok:X.Ok B)(h:DI X cs W)(hb:Γ W.heap.size W W'):DI X cs W':=
 h.grown ok (jQ hb (ϊ _) _) (h.known.below hb h.known.lt)
def Gj(h:w.grownBy W (φ g))(hg:B<=g)(hB:B<=w.heap.size):Δ B w W:=λp hp=>World.cell?_of_block (h.block p.block (by omega) (by simp;omega))
def amX{base:Nat}{sz:Nat}(h:w.ownsRow base e sz (ζ (φ ⟨g,0,ν⟩) n cap) n xs){m:Nat}(hm:m<=n):w.ownsRow base e sz (ζ (φ ⟨g,0,ν⟩) m cap) m (xs.take (m * sz)):=by
 have IM:m * sz<=n * sz:=Ail _ hm;refine⟨by rw[List.length_take,h.1];omega,?_⟩
 rcases h.2 with⟨h0,_⟩ | ⟨g',ze,cur,h1,h2,h3,h4,h5,h6,h7⟩
 ·cases h0
 ·cases h1
  exact .inr ⟨g,cap,cur,rfl,h2,h3,by omega,h5,h6,by rw[<-h7,List.take_take,Ain IM]⟩
def afW(l:List Cut)(c:Cut):((l++ [c]).flatMap Cut.vs).take (l.length * 2)=l.flatMap Cut.vs:=by
 have hl:∀l:List Cut,(l.flatMap Cut.vs).length=l.length * 2:=by
  intro l;induction l with
  |nil=>rfl
  |cons a l ih=>rw[Ġ,Ĉ,ih];simp[Cut.vs];omega
 rw[ă,<-hl l,List.take_left]
def zu{row:Option Nat}(h:w.grownBy W row)(hp:w.heap.size<=p.block):w.grownBy (W.setCell p u) row:=
 ⟨h.os,h.tape,h.output,by simp[ï];exact h.size,λk hk aw=>(Ô _ _ _ _ (by omega)).trans (h.block k hk aw)⟩
def zt{row X9:Option Nat}(h:w.grownBy W row)(k:W.grownBy W' X9)(hr:∀g,X9=φ g->w.heap.size<=g):w.grownBy W' row:=
 ⟨k.os.trans h.os,k.tape.trans h.tape,k.output.trans h.output,ϡ h.size k.size,λi hi aw=>(k.block i (Nat.lt_of_lt_of_le hi h.size) (λe=>by have:=hr i e.symm;omega)).trans (h.block i hi aw)⟩
def DI.back{X:cY}{cs:List Cut}{c:Cut}(ok:X.Ok B)(h:DI X (cs++ [c]) W):DI X cs (W.setCell ⟨X.s+2,0,ν⟩ (ζ (φ ⟨X.s+1,0,ν⟩) cs.length X.np)):=by
 have Ce:=ok.gm;have hx:=h.nx.lt;have hs:X.w.heap.size=X.s:=rfl;have ha:W.ownsRow (X.s+1) 56 2 (ζ (φ ⟨X.s+1,0,ν⟩) cs.length X.np) cs.length (cs.flatMap Cut.vs):=by
  have:=amX (m:=cs.length) (by have:=h.arr;rwa[Ĉ,Af7] at this) (by omega)
  rwa[afW] at this
 refine⟨h.y.dV (by simp) _,?_,h.lv.set 0 _,h.nx.dV (by simp) _,zu h.gr (by simp[cY.s]),?_⟩
 ·refine⟨ha.1,?_⟩
  rcases ha.2 with⟨h0,_⟩ | ⟨g,cap,cur,h1,h2,h3,h4⟩
  ·cases h0
  ·cases h1
   exact .inr ⟨_,_,cur,rfl,h2,(Ô _ _ _ _ (by simp)).trans h3,h4⟩
 ·obtain⟨es,clock,h1,h2⟩:=h.known
  exact⟨es,clock,(Ô _ _ _ _ (by simp;omega)).trans h1,h2⟩
def DI.push{X:cY}{cs:List Cut}{c:Cut}{W1:Ψ}(ok:X.Ok B)(h:DI X cs W)
 (aH:W1.ownsRow (X.s+1) 56 2 (ζ (φ ⟨X.s+1,0,ν⟩) (cs.length+1) X.np) (cs.length+1) (cs.flatMap Cut.vs++c.vs))(hg:(W.alloc o).grownBy W1 (φ (X.s+1))):
 DI X (cs++ [c]) (W1.setCell ⟨X.s+2,0,ν⟩ (ζ (φ ⟨X.s+1,0,ν⟩) (cs.length+1) X.np)):=by
 have Ce:=ok.gm;have hx:=h.nx.lt;have hl:(cs++ [c]).length=cs.length+1:=by simp
 have fD:W.grownBy W1 (φ (X.s+1)):=(ϯ W o _).trans hg;have hz:=fD.size;refine⟨(h.y.grown fD (by simp)).dV (by simp) _,?_,?_,(h.nx.grown fD (by simp)).dV (by simp) _,zu (zt h.gr fD (λg e=>by cases e;simp[cY.s])) (by simp[cY.s]),?_⟩
 ·rw[hl,ă,Ah0]
  refine⟨aH.1,?_⟩
  rcases aH.2 with⟨h0,_⟩ | ⟨g,cap,cur,h1,h2,h3,h4⟩
  ·cases h0
  ·cases h1
   exact .inr ⟨_,_,cur,rfl,h2,(Ô _ _ _ _ (by simp)).trans h3,h4⟩
 ·rw[hl];exact(h.lv.grown fD (by simp)).set 0 _
 ·obtain⟨es,clock,h1,h2⟩:=h.known.grown fD (by simp;omega)
  exact⟨es,clock,(Ô _ _ _ _ (by simp;omega)).trans h1,h2⟩
end Go.Tw
namespace Go.Tw
variable [Go.Tw.aK]
open Go Go.Proofs Go.RowKit
attribute [local go_sem] AZ AY Ahl
structure Bq(X:cY)(Z:List Cut->Ψ->Prop):Prop where
 lv:∀full W,Z full W->∃i,Bk W (X.s+2) 27 #[ζ (φ ⟨X.s+1,0,ν⟩) i X.np]
 set:∀full W i,Z full W->Z full (W.setCell ⟨X.s+2,0,ν⟩ (ζ (φ ⟨X.s+1,0,ν⟩) i X.np))
 yield:∀(m:Nat) (full:List Cut) (W:Ψ),full.length=X.np->DI X full W->YieldAt ø m prog X.l #[ζ (φ ⟨X.s+1,0,ν⟩) X.np X.np] W λe W'=>e=Ω (.bool χ)/\Z full W'
def GY(X:cY)(Z:List Cut->Ψ->Prop)(cs:List Cut)(r:Option (List Cut))(e:Ň)(W':Ψ):Prop:=
 (∃full,r=φ full/\e=Ω (.bool χ)/\Z full W')\/(r=ν/\e=Ω (.bool θ)/\DI X cs W')
def aoJ{X:cY}(ok:X.Ok B){Z:List Cut->Ψ->Prop}(hZ:Bq X Z){cs:List Cut}(hc:cs.length=X.np)(h:DI X cs W):
 ύ prog 175 X.args W (GY X Z cs (φ cs)):=by
 refine(callsIn_wide (n:=0)).1 ?_
 have HZ:=ψ hZ;have HI:=ψ h;have HC:=ψ hc;obtain⟨n,hn⟩:∃n,n=X.np:=⟨_,rfl⟩
 have asv:n<=9223372036854775807:=by have:=ok.valid.np.2;rw[hn];unfold cY.np;omega
 obtain⟨A1,n1,c1,qG,e1,h1,du,-⟩:=ok.book.pieces.Φ;have ks:Bk W X.gs 151 #[ξ κ X.b.ab,ζ A1 n1 c1,X.bv,X.tv,X.sv,.map (φ X.gm)]:=by
  have:=ok.cs.grown h.gr (by simpa using ok.ns);rwa[qG] at this
 have e1':n1=n:=by rw[hn];unfold cY.np;omega
 have s1: W.cell? ⟨X.gs,1,ν⟩=φ (ζ A1 n1 c1):=ks.cell 1;have v0: W.cell? ⟨X.s+2,0,ν⟩=φ (ζ (φ ⟨X.s+1,0,ν⟩) n n):=by rw[hn];have:=h.lv.cell 0;rw[hc] at this;exact this
 have y0: W.cell? ⟨X.s,0,ν⟩=φ (.func (.yield X.l) #[] #[]):=h.y.cell 0;obtain⟨f1,t1,a1,b1,kC,pD⟩:=hZ.yield (0 - 1) cs W hc h;rw[<-hn] at kC;have Es:=ψ pD;subst e1';clear hZ h hc hn ks qG e1 pD;unfold cY.args;refine callsIn_of_wp func175 rfl trivial ?_
 simp only[Tryz.ntmps175,ř,Ă,Ś,ĸ,Ŝ,ŗ,Ř,ś,Ķ,ì,ķ]
 gi_wp2
 refine Es.e.mono ?_
 rintro e W' ⟨rfl,hz⟩
 gi_wp2
 go_ret;exact .inl ⟨cs,rfl,bU rfl,hz⟩
end Go.Tw
namespace Go.Tw
variable [Go.Tw.aK]
open Go Go.Proofs Go.RowKit
def kP(g n:Nat):(⟨g,0,ν⟩:Addr).add n=⟨g,n,ν⟩:=by
 unfold ċ;split
 ·rename_i h;rw[h]
 ·simp
def rH(w:Ψ)(o:Obj)(row:Option Nat):w.grownBy (w.alloc o).drew row:=let h:=ϯ w o row;⟨h.os,h.tape,h.output,h.size,h.block⟩
def ajm:∃i0,prog.info? 56=φ i0/\i0.size=2:=by
 have h:(prog.info? 56).map (λi=>i.size)=φ 2:=by rw[qS];kernel_rfl
 cases e: prog.info? 56 with
 |none=>rw[e] at h;cases h
 |some i=>rw[e] at h;exact⟨i,rfl,by simpa using h⟩
def afY{X:cY}{cs:List Cut}{fr:Nat}{full:List Cut}(hk:k<X.b.aC.length)(h0:∀j,j<k->jM X.b X.n X.e (search X.b X.n X.e f) cs j=ν)(ho:X.e k=χ)
 (hf:fr<kF X.b k)(h1:∀j,j<fr->jY X.b X.n (search X.b X.n X.e f) cs k j=ν)(h2:jY X.b X.n (search X.b X.n X.e f) cs k fr=φ full):search X.b X.n X.e (f+1) cs=φ full:=by
 unfold search;refine Ur hk h0 ?_
 unfold jM;rw[ho];exact Ur hf h1 h2
def aoK{X:cY}(ok:X.Ok B)(hB:B<=X.s){Z:List Cut->Ψ->Prop}(hZ:Bq X Z)
 (ih:∀(cs:List Cut) (W:Ψ),cs.length+f=X.np->(∀c∈cs,q9 X.b c)->DI X cs W->ύ prog 175 X.args W (GY X Z cs (search X.b X.n X.e f cs)))
 {cs:List Cut}(hc:cs.length+(f+1)=X.np)(fh:∀c∈cs,q9 X.b c)(h:DI X cs W):
 ύ prog 175 X.args W (GY X Z cs (search X.b X.n X.e (f+1) cs)):=by
 obtain⟨i,hi⟩:∃i,i=cs.length:=⟨_,rfl⟩
 obtain⟨i56,Vl,Vm⟩:=ajm;have GL:=ψ (Ϗ Vl Vm);clear Vl Vm;obtain⟨A1,n1,c1,qG,e1,h1,du,-⟩:=ok.book.pieces.Φ;obtain⟨A2,nb,c2,Ex,e2,h2,ei,kY⟩:=ok.book.aC.Φ;obtain⟨A3,n3,c3,OZ,-⟩:=ok.book.aI.Φ;obtain⟨A4,n4,c4,nQ⟩:=ok.sv;have dc:i<n1:=by unfold cY.np at hc;omega
 have iW:n1<=3:=by have:=ok.valid.np.2;omega
 have VV:nb<=3:=by have:=ok.valid.nb;omega
 have rU:((i:Int)==(n1:Int))=χ:=by simp;omega
 unfold ϑ at du ei;have nV:X.np=n1:=by unfold cY.np;exact e1
 have ks:Bk W X.gs 151 #[ξ κ X.b.ab,ζ A1 n1 c1,ζ A2 nb c2,ζ A3 n3 c3,ζ A4 n4 c4,.map (φ X.gm)]:=by
  have:=ok.cs.grown h.gr (by simpa using ok.ns);rwa[qG,Ex,OZ,nQ] at this
 have s1: W.cell? ⟨X.gs,1,ν⟩=φ (ζ A1 n1 c1):=ks.cell 1;have s2: W.cell? ⟨X.gs,2,ν⟩=φ (ζ A2 nb c2):=ks.cell 2;have v0: W.cell? ⟨X.s+2,0,ν⟩=φ (ζ (φ ⟨X.s+1,0,ν⟩) i n1):=by rw[hi,<-nV];exact h.lv.cell 0
 have HI:=ψ h;have OK:=ψ ok;have kN:=ψ (Ϗ hi (Ϗ hc fh));have my:=ψ (Ϗ qG (Ϗ Ex (Ϗ OZ (Ϗ nQ (Ϗ e1 e2)))));have ZK:=ψ kY;have IH:=ψ ih;have HZ:=ψ hZ;have NP:=ψ nV;clear ks h ok hi hc fh qG Ex OZ nQ e1 e2 kY ih hZ nV;have zJ:X.args=#[π (φ ⟨X.s+2,0,ν⟩),π (φ ⟨X.gs,0,ν⟩),π (φ ⟨X.s,0,ν⟩),π (φ ⟨X.go,0,ν⟩),π (φ ⟨X.gn,0,ν⟩),π (φ ⟨X.s+3,0,ν⟩)]:=rfl;rw[zJ];have GJ:=ψ zJ;clear zJ;go_enter func175,Tryz.ntmps175;go_wp2;go_loopw [34] (λu wr=>∃k:Nat,k<=nb/\u=ξ κ k/\(Hid (∀j,j<k->jM X.b X.n X.e (search X.b X.n X.e f) cs j=ν))/\Hid (DI X cs wr)) (λu _=>nb - (ϗ u).toNat)
 case atStart=>exact⟨0,Ϡ _,rfl,ψ (λj hj=>by omega),HI⟩
 case round=>
  obtain⟨wo,rfl⟩:∃wo:Ψ,wo=wr:=⟨_,rfl⟩
  obtain⟨k,hk,rfl,br,hD⟩:=hrel;by_cases ao:k<nb
  ·obtain⟨ad,x,ju,lZ,aE,hx,⟨kvv,rfl,dD,cP⟩,-,aq⟩:=ZK.e k ao
   subst lZ;obtain⟨A5,n5,c5,rfl,-⟩:=cP.Φ;have st:Δ B X.w wo:=Gj hD.e.gr OK.e.B hB;have g0:=cA aq st aE rfl;have g1:=bj aq st aE 0 rfl;have g2:=bj aq st aE 1 rfl;have hzw:X.s+3<wo.heap.size:=hD.e.nx.lt;have rK:(ad.add (k * 3)).block<wo.heap.size:=by rw[b9];omega
   have HX:=ψ hx;have ko:Bk wo X.go 158 #[fv X.KO X.kE]:=OK.e.co.grown hD.e.gr (by simpa using OK.e.no)
   have hgo:=OK.e.o;have o0:(wo.alloc (Ξ #[.string x.name,ξ κ x.aL,ζ A5 n5 c5] 59)).cell? ⟨X.go,0,ν⟩=φ (.func (.func X.KO) #[] X.kE):=(ko.alloc _).cell 0;have a1:X.go<wo.heap.size:=by omega
   have a2:X.go<=wo.heap.size:=by omega
   have eg:=OK.e.eg;have Ry:=ψ (OK.e.e k (wo.alloc (Ξ #[.string x.name,ξ κ x.aL,ζ A5 n5 c5] 59)) (by have:=my.e.2.2.2.2.2;omega) (hD.e.gr.trans (ϯ _ _ _)))
   have Cx:1<=x.aL/\x.aL<=40:=(OK.e.valid.bt x (Ϩ hx)).aL;clear hx aq st ko dD cP;go_wp2
   go_step3
   go_wp2;refine Ry.e.mono ?_
   rintro e w1 ⟨rfl,ai⟩;have UJ:=ψ (hD.e.grown OK.e (ϯ wo (Ξ #[.string x.name,ξ κ x.aL,ζ A5 n5 c5] 59) _) (hD.e.known.grown (ϯ wo (Ξ #[.string x.name,ξ κ x.aL,ζ A5 n5 c5] 59) ν) (by simp)))
   have UK:=ψ (UJ.e.below OK.e ai);have kx:Hid (Bk w1 wo.heap.size 59 #[.string x.name,ξ κ x.aL,ζ A5 n5 c5]):=ψ ((Bk.new wo _ _).below ai (by simp))
   have x1: w1.cell? ⟨wo.heap.size,1,ν⟩=φ (ξ κ x.aL):=kx.e.cell 1;clear ai;cases ho:X.e k with
   |true=>
    go_wp2;rw[Exit.noGoto_exit];go_wp2;go_roundw;case rel=>exact⟨k+1,by omega,by go_num,ψ (λj hj=>by
     rcases Æ.1 hj with h|rfl
     ·exact br.e j h
     ·unfold jM;rw[ho];rfl),UK⟩
    case measure=>simp[ϗ];omega
   |false=>
    go_wp2
    go_step3
    go_wp2;have sY:kF X.b k=x.aL.toNat:=by unfold kF;rw[HX.e]
    have RU:=ψ sY;have hp:∃p,X.b.pieces[i]?=φ p:=⟨_,Ã (by have:=my.e.2.2.2.2.1;omega)⟩
    obtain⟨p,hp⟩:=hp;have oP:=OK.e.valid.piece p (Ϩ hp);have HP:=ψ (Ϗ hp oP.bears);obtain⟨ln,sV⟩:∃ln,ln=X.n.at i:=⟨_,rfl⟩
    have VJ:0<=ln/\ln<=1000:=by rw[sV];exact OK.e.lens i
    have ox:=ψ sV;have fM:i<3:=by omega
    have Vk:(i:Int)<3:=by omega
    have hgs:=OK.e.s;have xz:=OK.e.gn;clear sY hp oP sV hD UJ Ry o0 x1 g0 g1 g2 s1 s2 v0;go_loopw [44] (λu W2=>∃fr:Nat,(fr:Int)<=x.aL/\u=ξ κ fr/\(Hid (∀j,j<fr->jY X.b X.n (search X.b X.n X.e f) cs k j=ν))/\Hid (DI X cs W2)) (λu _=>(x.aL - ϗ u).toNat)
    case atStart=>exact⟨0,by omega,rfl,ψ (λj hj=>by omega),UK⟩
    case round=>
     obtain⟨fr,cq,rfl,EV,hE⟩:=hrel;obtain⟨wp,rfl⟩:∃wp:Ψ,wp=wr:=⟨_,rfl⟩
     by_cases hf:(fr:Int)<x.aL
     ·have WD:X.s+3<wp.heap.size:=hE.e.nx.lt
      have ks:Bk wp X.gs 151 #[ξ κ X.b.ab,ζ A1 n1 c1,ζ (φ ad) nb c2,ζ A3 n3 c3,ζ A4 n4 c4,.map (φ X.gm)]:=by
          have:=OK.e.cs.grown hE.e.gr (by simpa using OK.e.ns);rwa[my.e.1,my.e.2.1,my.e.2.2.1,my.e.2.2.2.1] at this
      have k0:=ks.cell 0;have k1:=ks.cell 1;have k2:=ks.cell 2;have k3:=ks.cell 3;have k4:=ks.cell 4;have k5:=ks.cell 5;have gi: wp.cell? ⟨X.gn,i,ν⟩=φ (ξ κ ln):=by
          have:=(OK.e.cn.grown hE.e.gr (by simpa using OK.e.nn)).cell i
          rw[al.wU fM,<-ox.e] at this;exact this
      have b1:X.gs<wp.heap.size:=by omega
      have b2:X.gs<=wp.heap.size:=by omega
      have b3:X.gn<wp.heap.size:=by omega
      have b4:X.gn<=wp.heap.size:=by omega
      have xt:(fr:Int)<=1000:=by omega
      have ie:0<=(fr:Int):=by omega
      clear ks;go_wp2;refine tA 6 (by kernel_rfl) (by kernel_rfl) ?_
      simp only[ê,ë,ñ,ò];repeat still_step
      refine wpStill_nil ?_
      have bS:X.w.grownBy (wp.alloc (ϣ #[Ϝ ϙ ↑k,Ϝ ϙ ↑fr] 56)).drew (φ X.gm):=hE.e.gr.trans (rH wp _ _);have xG:dS (wp.alloc (ϣ #[Ϝ ϙ ↑k,Ϝ ϙ ↑fr] 56)).drew X.gm X.b:=hE.e.known.grown (rH wp (ϣ #[Ϝ ϙ ↑k,Ϝ ϙ ↑fr] 56) ν) (by simp)
      have call:ύ prog 176 #[η #[ξ κ X.b.ab,ζ A1 n1 c1,ζ (φ ad) nb c2,ζ A3 n3 c3,ζ A4 n4 c4,.map (φ X.gm)],ξ κ i,ξ κ ln,η #[ξ κ k,ξ κ fr]] (wp.alloc (ϣ #[Ϝ ϙ ↑k,Ϝ ϙ ↑fr] 56)).drew
           λe w'=>e=Ω (.bool (qN X.b k fr ln p.bears))/\(wp.alloc (ϣ #[Ϝ ϙ ↑k,Ϝ ϙ ↑fr] 56)).drew.grownBy w' (φ X.gm)/\dS w' X.gm X.b:=by
          have ah:=OK.e.book.still (Gj bS OK.e.B hB);rw[my.e.1,my.e.2.1,my.e.2.2.1] at ah;exact can (B:=B) ah (by have:=bS.size;have:X.w.heap.size=X.s:=rfl;omega) ⟨_,_,_,rfl⟩ xG OK.e.B HP.e.1 HX.e ⟨ie,xt⟩ VJ HP.e.2 (by omega)
      have aG:=ψ call;have VG:pN X.b i (X.n.at i) ⟨k,fr⟩=qN X.b k fr ln p.bears:=by unfold pN qN;rw[<-ox.e];simp[HP.e.1,HX.e]
      have RS:=ψ VG;have aO:Hid (wp.heap.size<(wp.alloc (ϣ #[Ϝ ϙ ↑k,Ϝ ϙ ↑fr] 56)).drew.heap.size):=ψ (by simp)
      have Le:Hid (Bk (wp.alloc (ϣ #[Ϝ ϙ ↑k,Ϝ ϙ ↑fr] 56)).drew wp.heap.size 56 #[ξ κ k,ξ κ fr]):=ψ (Bk.new wp _ _);clear call VG bS xG;cases Cg:qN X.b k fr ln p.bears with
      |false=>
       have NX:Hid (jY X.b X.n (search X.b X.n X.e f) cs k fr=ν):=ψ (by unfold jY nX;rw[<-kN.e.1,RS.e,Cg];rfl)
       go_wp2_with (first
           | (go_at_call 176;refine aG.e.mono ?_;rintro e w1 ⟨rfl,fD,fj⟩
              have GK:=ψ (hE.e.grown OK.e ((ϯ wp _ _).trans (Zl fD)) fj);clear fD fj))
       go_roundw;case rel=>exact⟨fr+1,by omega,by go_num,ψ (λj hj=>by
           rcases Æ.1 hj with h|rfl
           ·exact EV.e j h
           ·exact NX.e),GK⟩
       case measure=>simp[ϗ];omega
      |true=>
       go_wp2_with (first
           | (go_at_call 176;refine aG.e.mono ?_;rintro e w3 ⟨rfl,fD,fj⟩
              have GK:=ψ (hE.e.grown OK.e ((ϯ wp _ _).trans (Zl fD)) fj);have Bg:=ψ (Le.e.grown fD (by have:=hE.e.known.lt;simp;omega))
              have v0: w3.cell? ⟨X.s+2,0,ν⟩=φ (ζ (φ ⟨X.s+1,0,ν⟩) i n1):=by rw[kN.e.1,<-NP.e];exact GK.e.lv.cell 0
              clear fD fj))
       have gw:wp.heap.size<w3.heap.size:=Bg.e.lt;clear k0 k1 k2 k3 k4 k5 gi;go_loopw [60] (λu wr=>∃j:Nat,j<=i/\u=ξ κ j/\(Hid (∀q,q<j->sg X.b X.n cs i ⟨k,fr⟩ q=θ))/\Hid (DI X cs wr)/\Hid (Bk wr wp.heap.size 56 #[ξ κ k,ξ κ fr])) (λu _=>i - (ϗ u).toNat)
       case atStart=>exact⟨0,Ϡ _,rfl,ψ (λj hj=>by omega),GK,Bg⟩
       case round=>
           obtain⟨j,hj,rfl,B6,hF,dg⟩:=hrel;have sd:X.s+3<wr.heap.size:=hF.e.nx.lt;have hzc:wp.heap.size<wr.heap.size:=dg.e.lt;have asW:wp.heap.size<=wr.heap.size:=by omega
           have b1:X.gs<wr.heap.size:=by omega
           have b2:X.gs<=wr.heap.size:=by omega
           have b3:X.gn<wr.heap.size:=by omega
           have b4:X.gn<=wr.heap.size:=by omega
           have Mw: wr.cell? ⟨wp.heap.size,0,ν⟩=φ (ξ κ k):=dg.e.cell 0;have Mx: wr.cell? ⟨wp.heap.size,1,ν⟩=φ (ξ κ fr):=dg.e.cell 1;by_cases qv:j<i
           ·have ks:Bk wr X.gs 151 #[ξ κ X.b.ab,ζ A1 n1 c1,ζ (φ ad) nb c2,ζ A3 n3 c3,ζ A4 n4 c4,.map (φ X.gm)]:=by
             have:=OK.e.cs.grown hF.e.gr (by simpa using OK.e.ns);rwa[my.e.1,my.e.2.1,my.e.2.2.1,my.e.2.2.2.1] at this
            have k0:=ks.cell 0;have k1:=ks.cell 1;have k2:=ks.cell 2;have k3:=ks.cell 3;have RF:j<3:=by omega
            have Vo:(j:Int)<3:=by omega
            have kn:=OK.e.cn.grown hF.e.gr (by simpa using OK.e.nn)
            have gi: wr.cell? ⟨X.gn,i,ν⟩=φ (ξ κ ln):=by
             have:=kn.cell i;rw[al.wU fM,<-ox.e] at this;exact this
            have gj: wr.cell? ⟨X.gn,j,ν⟩=φ (ξ κ (X.n.at j)):=by
             have:=kn.cell j;rw[al.wU RF] at this;exact this
            have dE:=mZ (R:=Cut.R) hF.e.arr (λ_=>rfl) (λ_ _=>rfl)
            obtain⟨A8,n8,c8,e8,hl8,-,-,Am⟩:=dE.Φ;cases e8;obtain⟨ad8,d,cs8,aeP,arW,hd,rfl,-,NU⟩:=Am j (by rw[<-kN.e.1];exact qv)
            cases aeP;obtain⟨nC,jv⟩:=d;have XO:=kN.e.2.2 _ (Ϩ hd);have h0: wr.cell? ⟨X.s+1,j * 2,ν⟩=φ (ξ κ nC):=by have:=NU 0 _ rfl;rwa[kP] at this
            have h1: wr.cell? ⟨X.s+1,j * 2+1,ν⟩=φ (ξ κ jv):=by have:=NU 1 _ rfl;rwa[kP] at this
            have nI:0<=jv/\jv<=40:=XO.from_;have HD:=ψ hd;clear ks kn dE hl8 Am hd NU XO;have e1:X.s+1<wr.heap.size:=by omega
            go_wp2;refine tA 11 (by kernel_rfl) (by kernel_rfl) ?_
            simp only[ê,ë,ñ,ò];repeat still_step
            refine wpStill_nil ?_
            have US:sg X.b X.n cs i ⟨k,fr⟩ j=nA X.b.ab ⟨k,fr⟩ ⟨nC,jv⟩ ln (X.n.at j):=by unfold sg;rw[HD.e,ox.e]
            have Dt:=ψ US;have call:∀W:Ψ,ύ prog 166 #[η #[ξ κ X.b.ab,ζ A1 n1 c1,ζ (φ ad) nb c2,ζ A3 n3 c3],η #[ξ κ k,ξ κ fr],η #[ξ κ nC,ξ κ jv],ξ κ ln,ξ κ (X.n.at j)] W
             λe w'=>e=Ω (.bool (nA X.b.ab ⟨k,fr⟩ ⟨nC,jv⟩ ln (X.n.at j)))/\Γ W.heap.size W w':=λW=>
             apart (c:=⟨k,fr⟩) (d:=⟨nC,jv⟩) ⟨OK.e.valid.ab.1,by have:=OK.e.valid.ab.2;omega⟩ VJ (OK.e.lens j) ⟨ie,xt⟩ ⟨nI.1,by have:=nI.2;show jv<=1000;omega⟩ ⟨_,_,_,rfl⟩ ⟨_,_,_,rfl⟩ ⟨_,_,_,rfl⟩
            have wh:=ψ call;clear US call;cases EP:nA X.b.ab ⟨k,fr⟩ ⟨nC,jv⟩ ln (X.n.at j) with
            |false=>
             have NX:Hid (jY X.b X.n (search X.b X.n X.e f) cs k fr=ν):=ψ (by
              unfold jY;rw[if_neg];unfold nX;rw[<-kN.e.1,G5 qv (by rw[Dt.e,EP])]
              simp)
             go_wp2_with (first
              | (go_at_call 166;refine(wh.e _).mono ?_;rintro e w4 ⟨rfl,cU⟩
                 have Lj:=ψ ((hF.e.grown OK.e (rH wr _ _) (hF.e.known.grown (rH wr (Ξ #[ξ κ nC,ξ κ jv] 56) ν) (by simp))).below OK.e cU);clear cU))
             go_roundw;case rel=>exact⟨fr+1,by omega,by go_num,ψ (λj hj=>by
              rcases Æ.1 hj with h|rfl
              ·exact EV.e j h
              ·exact NX.e),Lj⟩
             case measure=>simp[ϗ];omega
            |true=>
             go_wp2_with (first
              | (go_at_call 166;refine(wh.e _).mono ?_;rintro e w4 ⟨rfl,cU⟩
                 have Lj:=ψ ((hF.e.grown OK.e (rH wr _ _) (hF.e.known.grown (rH wr (Ξ #[ξ κ nC,ξ κ jv] 56) ν) (by simp))).below OK.e cU)
                 have W6:=ψ ((dg.e.grown (rH wr (Ξ #[ξ κ nC,ξ κ jv] 56) ν) (by simp)).below cU (by simp;omega));clear cU))
             go_roundw;case rel=>exact⟨j+1,by omega,by go_num,ψ (λq hq=>by
              rcases Æ.1 hq with h|rfl
              ·exact B6.e q h
              ·rw[Dt.e,EP]),Lj,W6⟩
             case measure=>simp[ϗ];omega
           ·obtain rfl:j=i:=by omega
            have R6:Hid (nX X.b X.n cs ⟨k,fr⟩=θ):=ψ (by
             unfold nX;rw[<-kN.e.1,RS.e,Cg,j7.2 B6.e];rfl)
            have v0: wr.cell? ⟨X.s+2,0,ν⟩=φ (ζ (φ ⟨X.s+1,0,ν⟩) j n1):=by rw[kN.e.1,<-NP.e];exact hF.e.lv.cell 0
            have e2:X.s+2<wr.heap.size:=by omega
            have TV:X.s+2<=wr.heap.size:=by omega
            have R7:Hid (wr.ownsRow (X.s+1) 56 2 (ζ (φ ⟨X.s+1,0,ν⟩) j n1) j (cs.flatMap Cut.vs)):=ψ (by rw[kN.e.1,<-NP.e];exact hF.e.arr)
            have RO:Hid (∀c∈cs++ [(⟨k,fr⟩:Cut)],q9 X.b c):=ψ (λc hc=>by
             rcases ĉ.1 hc with hc|hc
             ·exact kN.e.2.2 c hc
             ·simp at hc;subst hc;exact⟨⟨k,rfl,by have:=my.e.2.2.2.2.2;omega⟩,by show 0<=(fr:Int)/\(fr:Int)<=40;omega⟩)
            clear B6;cases hs:search X.b X.n X.e f (cs++ [⟨k,fr⟩]) with
            |none=>
             have NX:Hid (jY X.b X.n (search X.b X.n X.e f) cs k fr=ν):=ψ (by unfold jY;rw[R6.e,if_pos rfl,hs])
             go_wp2_with (first
              | (at_builtin
                 refine wpList_append_fits _ rfl (.tmp 79) (.tmp 81) 27 rfl (X.s+1) 56 i56 2 (U Tryz.underlying27) GL.e.1 GL.e.2 (X.s+1) j n1 _ rfl (R7.e.alloc _) ⟨wr.heap.size,0,ν⟩ 1 1 [ξ κ k,ξ κ fr] rfl rfl ?c1 ?c2 ?c3 ?_
                 case c1=>(intro q u hu;match q,hu with|0,hu=>(simp at hu;subst hu;simp[go_sem,ċ]) |1,hu=>(simp at hu;subst hu;simp[go_sem,ċ]))
                 case c2=>simp[Value.oneCell']
                 case c3=>omega
                 intro W1 b7 fD;have Lz:Hid (DI X (cs++ [⟨k,fr⟩]) (W1.setCell ⟨X.s+2,0,ν⟩ (ζ (φ ⟨X.s+1,0,ν⟩) (j+1) n1))):=ψ (by
                  have:=DI.push (c:=⟨k,fr⟩) OK.e hF.e (by rw[<-kN.e.1,NP.e];exact b7) fD
                  rwa[<-kN.e.1,NP.e] at this)
                 have xu:=(ϯ wr (Ξ #[ξ κ k,ξ κ fr] 56) (φ (X.s+1))).trans fD;have pI:=hF.e.lv.grown xu (by simp)
                 have EY:=hF.e.nx.grown xu (by simp)
                 have v0: W1.cell? ⟨X.s+2,0,ν⟩=φ (ζ (φ ⟨X.s+1,0,ν⟩) j n1):=by rw[kN.e.1,<-NP.e];exact pI.cell 0
                 have v1:=pI.frozen 0;have x0: W1.cell? ⟨X.s+3,0,ν⟩=φ (.func (.func 175) #[] #[π (φ ⟨X.s+2,0,ν⟩),π (φ ⟨X.gs,0,ν⟩),π (φ ⟨X.s,0,ν⟩),π (φ ⟨X.go,0,ν⟩),π (φ ⟨X.gn,0,ν⟩),π (φ ⟨X.s+3,0,ν⟩)]):=by rw[<-GJ.e];exact EY.cell 0
                 have Ds:=ψ (IH.e (cs++ [⟨k,fr⟩]) _ (by have:=kN.e.2.1;simp;omega) RO.e Lz.e)
                 rw[GJ.e,hs] at Ds;clear b7 fD xu pI EY)
              | (go_at_call 175;refine Ds.e.mono ?_;rintro e w6 (⟨full,hr,-,-⟩ | ⟨-,rfl,hd⟩)
                 ·cases hr
                 have v0: w6.cell? ⟨X.s+2,0,ν⟩=φ (ζ (φ ⟨X.s+1,0,ν⟩) (j+1) n1):=by have:=hd.lv.cell 0;rw[Ĉ,Af7,<-kN.e.1,NP.e] at this;exact this
                 have v1:=hd.lv.frozen 0;have dG:=ψ (hd.back OK.e);rw[<-kN.e.1,NP.e] at dG;clear hd))
             go_roundw;case rel=>exact⟨fr+1,by omega,by go_num,ψ (λq hq=>by
              rcases Æ.1 hq with h|rfl
              ·exact EV.e q h
              ·exact NX.e),dG⟩
             case measure=>simp[ϗ];omega
            |some full=>
             have aaY:Hid (search X.b X.n X.e (f+1) cs=φ full):=ψ (afY (k:=k) (fr:=fr) (by have:=my.e.2.2.2.2.2;omega) br.e ho (by rw[RU.e];omega) EV.e (by unfold jY;rw[R6.e,if_pos rfl,hs]))
             go_wp2_with (first
              | (at_builtin
                 refine wpList_append_fits _ rfl (.tmp 79) (.tmp 81) 27 rfl (X.s+1) 56 i56 2 (U Tryz.underlying27) GL.e.1 GL.e.2 (X.s+1) j n1 _ rfl (R7.e.alloc _) ⟨wr.heap.size,0,ν⟩ 1 1 [ξ κ k,ξ κ fr] rfl rfl ?c1 ?c2 ?c3 ?_
                 case c1=>(intro q u hu;match q,hu with|0,hu=>(simp at hu;subst hu;simp[go_sem,ċ]) |1,hu=>(simp at hu;subst hu;simp[go_sem,ċ]))
                 case c2=>simp[Value.oneCell']
                 case c3=>omega
                 intro W1 b7 fD;have Lz:Hid (DI X (cs++ [⟨k,fr⟩]) (W1.setCell ⟨X.s+2,0,ν⟩ (ζ (φ ⟨X.s+1,0,ν⟩) (j+1) n1))):=ψ (by
                  have:=DI.push (c:=⟨k,fr⟩) OK.e hF.e (by rw[<-kN.e.1,NP.e];exact b7) fD
                  rwa[<-kN.e.1,NP.e] at this)
                 have xu:=(ϯ wr (Ξ #[ξ κ k,ξ κ fr] 56) (φ (X.s+1))).trans fD;have pI:=hF.e.lv.grown xu (by simp)
                 have EY:=hF.e.nx.grown xu (by simp)
                 have v0: W1.cell? ⟨X.s+2,0,ν⟩=φ (ζ (φ ⟨X.s+1,0,ν⟩) j n1):=by rw[kN.e.1,<-NP.e];exact pI.cell 0
                 have v1:=pI.frozen 0;have x0: W1.cell? ⟨X.s+3,0,ν⟩=φ (.func (.func 175) #[] #[π (φ ⟨X.s+2,0,ν⟩),π (φ ⟨X.gs,0,ν⟩),π (φ ⟨X.s,0,ν⟩),π (φ ⟨X.go,0,ν⟩),π (φ ⟨X.gn,0,ν⟩),π (φ ⟨X.s+3,0,ν⟩)]):=by rw[<-GJ.e];exact EY.cell 0
                 have Ds:=ψ (IH.e (cs++ [⟨k,fr⟩]) _ (by have:=kN.e.2.1;simp;omega) RO.e Lz.e)
                 rw[GJ.e,hs] at Ds;clear b7 fD xu pI EY)
              | (go_at_call 175;refine Ds.e.mono ?_;rintro e w6 (⟨Ut,hr,rfl,hz⟩ | ⟨hr,-,-⟩)
                 rotate_left
                 ·cases hr
                 cases hr;obtain⟨i6,Ow⟩:=HZ.e.lv _ _ hz;have v0: w6.cell? ⟨X.s+2,0,ν⟩=φ (ζ (φ ⟨X.s+1,0,ν⟩) i6 n1):=by have:=Ow.cell 0;rw[NP.e] at this;exact this
                 have v1:=Ow.frozen 0;have Sd:=ψ (HZ.e.set full w6 j hz);rw[NP.e] at Sd;clear hz Ow))
             rw[Exit.noGoto_ret];go_ret;exact .inl ⟨full,aaY.e,bU rfl,Sd.e⟩
     ·have sT:(fr:Int)=x.aL:=by omega
      have NX:Hid (jM X.b X.n X.e (search X.b X.n X.e f) cs k=ν):=ψ (by
          unfold jM;rw[ho,if_neg (by simp)]
          exact zq.2 (λj hj=>EV.e j (by rw[RU.e] at hj;omega)))
      clear sT;go_wp2;go_roundw;case rel=>exact⟨k+1,by omega,by go_num,ψ (λq hq=>by
          rcases Æ.1 hq with h|rfl
          ·exact br.e q h
          ·exact NX.e),hE⟩
      case measure=>simp[ϗ];omega
  ·obtain rfl:k=nb:=by omega
   go_wp2;go_ret;exact .inr ⟨by unfold search;rw[my.e.2.2.2.2.2];exact zq.2 br.e,bU rfl,hD.e⟩
def Yw{X:cY}{B:Nat}(ok:X.Ok B)(hB:B<=X.s){Z:List Cut->Ψ->Prop}(hZ:Bq X Z):∀(f:Nat) (cs:List Cut) (W:Ψ),cs.length+f=X.np->(∀c∈cs,q9 X.b c)->DI X cs W->ύ prog 175 X.args W (GY X Z cs (search X.b X.n X.e f cs))
 |0,cs,W,hc,_,h=>aoJ ok hZ (by omega) h
 |f+1,cs,W,hc,fh,h=>aoK ok hB hZ (Yw ok hB hZ f) hc fh h
def ajn:(prog.info? 56).map (λi=>(i.zero,i.size,i.bytes))=φ (φ (η #[ξ κ 0,ξ κ 0]),2,16):=by
 rw[qS];kernel_rfl
def TQ{X:cY}(ok:X.Ok B)(hB:B<=X.s){Z:List Cut->Ψ->Prop}(hZ:Bq X Z)(hk:dS X.w X.gm X.b):
 ύ prog 174 #[.func (.yield X.l) #[] #[],π (φ ⟨X.gs,0,ν⟩),π (φ ⟨X.go,0,ν⟩),π (φ ⟨X.gn,0,ν⟩)] X.w λe W'=>
  (∃v,e=Ω v)/\((∃full,search X.b X.n X.e X.np []=φ full/\Z full W')\/(search X.b X.n X.e X.np []=ν/\DI X [] W')):=by
 obtain⟨A1,n1,c1,qG,e1,h1,du,-⟩:=ok.book.pieces.Φ;have hn:=ok.valid.np;have ks:=ok.cs;rw[qG] at ks;have s1: X.w.cell? ⟨X.gs,1,ν⟩=φ (ζ A1 n1 c1):=ks.cell 1;have hgs:=ok.s;have Ce:=ok.gm;have hs:X.w.heap.size=X.s:=rfl;have b1:X.gs<X.w.heap.size:=by omega
 have b2:X.gs<=X.w.heap.size:=by omega
 obtain⟨i0,cJ,cK,aO,aZ⟩:=Ą ajn;have ass:1<=n1/\n1<=3:=by omega
 have Cj:∀w:Ψ,(Instr.makeSlice 27 (ξ κ 0) (ξ κ n1)).run prog w=.ok (ζ (φ ⟨w.heap.size,0,ν⟩) 0 n1) (w.alloc (.cells (madeCells [ξ κ 0,ξ κ 0].toArray (n1 * 2)) 56)):=λw=>by
  have hr:=run_makeSlice (P:=prog) w 27 56 i0 _ (U Tryz.underlying27) cJ cK .i64 .i64 0 n1 (Int.le_refl _) (by omega) (by rw[aO];omega) (by rw[aZ];omega) (by omega)
  rw[aO] at hr;simpa [Value.cells] using hr
 obtain⟨mc,Oy⟩:∃mc,mc=madeCells [ξ κ 0,ξ κ 0].toArray (n1 * 2):=⟨_,rfl⟩
 rw[<-Oy] at Cj;have VS:mc.size=n1 * 2:=by rw[Oy];exact size_madeCells _ _
 have nV:X.np=n1:=by unfold cY.np;exact e1
 have U9:DI X [] ((((X.w.alloc (Ξ #[.func (.yield X.l) #[] #[]] 139)).alloc (.cells mc 56)).alloc (Ξ #[ζ (φ ⟨X.w.heap.size+1,0,ν⟩) 0 n1] 27)).alloc (Ξ #[.func (.func 175) #[] #[π (φ ⟨X.w.heap.size+1+1,0,ν⟩),π (φ ⟨X.gs,0,ν⟩),π (φ ⟨X.w.heap.size,0,ν⟩),π (φ ⟨X.go,0,ν⟩),π (φ ⟨X.gn,0,ν⟩),π (φ ⟨X.w.heap.size+1+1+1,0,ν⟩)]] 29)):=by
  refine⟨(((Bk.bZ rfl _ _).alloc _).alloc _).alloc _,?_,?_,Bk.bZ (by simp[cY.s]) _ _,?_,?_⟩
  ·refine⟨rfl,.inr ⟨X.s+1,n1,mc,(by rw[nV];try rfl),ϊ _,nB (nB (wK (by simp[cY.s]))),Ϡ _,by unfold ϑ;omega,VS,by simp⟩⟩
  ·rw[nV];exact(Bk.bZ (by simp[cY.s]) _ _).alloc _
  ·exact((((ϯ _ _ _).trans (ϯ _ _ _)).trans (ϯ _ _ _)).trans (ϯ _ _ _))
  ·have:=hk
   exact(((this.grown (ϯ _ _ ν) (by simp)).grown (ϯ _ _ ν) (by simp)).grown (ϯ _ _ ν) (by simp)).grown (ϯ _ _ ν) (by simp)
 have call:=Yw ok hB hZ X.np [] _ (by simp) (by simp) U9
 have zJ:X.args=#[π (φ ⟨X.w.heap.size+1+1,0,ν⟩),π (φ ⟨X.gs,0,ν⟩),π (φ ⟨X.w.heap.size,0,ν⟩),π (φ ⟨X.go,0,ν⟩),π (φ ⟨X.gn,0,ν⟩),π (φ ⟨X.w.heap.size+1+1+1,0,ν⟩)]:=rfl;rw[zJ] at call;have call2:=call.mono (R':=λe W'=>(∃bb:Bool,e=Ω (.bool bb))/\Hid ((∃full,search X.b X.n X.e X.np []=φ full/\Z full W')\/(search X.b X.n X.e X.np []=ν/\DI X [] W'))) (by
  rintro e W' (⟨full,h1,h2,h3⟩ | ⟨h1,h2,h3⟩)
  ·exact⟨⟨_,h2⟩,ψ (.inl ⟨full,h1,h3⟩)⟩
  ·exact⟨⟨_,h2⟩,ψ (.inr ⟨h1,h3⟩)⟩)
 have aG:=ψ call2;clear Oy VS nV U9 call call2 zJ;have OK:=ψ ok;have HZ:=ψ hZ;have HK:=ψ hk;have E1:=ψ e1;clear ok hZ hk e1 qG ks cJ cK aO aZ hs hn;go_enter func174,Tryz.ntmps174;go_wp2_with (first
  | (go_at_call 175;refine aG.e.mono ?_;rintro e w1 ⟨⟨bb,rfl⟩,Ai⟩))
 go_end0
 exact⟨⟨_,rfl⟩,Ai.e⟩
def WQ:(prog.info? 56).map (λi=>(i.zero,i.size,i.bytes))=φ (φ (η #[ξ κ 0,ξ κ 0]),2,16):=by
 rw[qS];kernel_rfl
def adK(hl:news.length=n * 2)(hc:∀j u,news[j]?=φ u-> w.cell? (ad.add j)=φ u)(h1:∀u∈news,u.oneCell'=θ)(hn:n<=1000000)(aE:ad.block<w.heap.size):
 ύ prog 201 #[ζ (φ ad) n c] w λe w'=>∃v,e=Ω v/\w'.ownsRow w.heap.size 56 2 v n news/\Γ w.heap.size w w':=by
 obtain⟨i0,cJ,cK,aO,aZ⟩:=Ą WQ;have cy:=ψ (Ϗ cJ (Ϗ cK (Ϗ aO aZ)));have HC:Hid (∀j u,news[j]?=φ u->(w.alloc (Ξ #[] 56)).cell? (ad.add j)=φ u):=ψ (λj u hu=>(ù w _ _ (by rw[b9];exact aE)).trans (hc j u hu))
 have HL:=ψ (Ϗ hl h1);have HO:Hid ((w.alloc (Ξ #[] 56)).ownsRow w.heap.size 56 2 (ζ (φ ⟨w.heap.size,0,ν⟩) 0 0) 0 []):=ψ ⟨rfl,.inr ⟨w.heap.size,0,#[],rfl,ϊ _,ŧ w _,ϊ _,by unfold ϑ;omega,rfl,rfl⟩⟩
 clear hl hc h1 cJ cK aO aZ;have q:∀(w:Ψ) (a:Option Addr) (n c n' c':Nat),(binOp .eql 27 (ζ a n c) (ζ ν n' c')).run prog w=.ok (.bool a.isNone) w:=λw a n c n' c'=>Į w _ _ a n c n' c' (U Tryz.underlying27)
 go_enter func201,Tryz.ntmps201;go_wp2_with (first
  | (at_builtin
     refine ĭ _ rfl (.tmp 5) (.tmp 6) 27 rfl w.heap.size 56 i0 (η #[ξ κ 0,ξ κ 0]) 2 16 (U Tryz.underlying27) cy.e.1 cy.e.2.1 cy.e.2.2.1 cy.e.2.2.2 rfl (by decide) _ 0 _ rfl HO.e ad n c news rfl HL.e.1 HC.e HL.e.2 ?c3 ?c4 ?c5 ?_
     case c3=>(simp only[ϑ];omega)
     case c4=>omega
     case c5=>simp
     intro v' w1 b7 cW _;have gC:=ψ b7;have gX:=ψ cW;clear b7 cW))
 go_ret;refine⟨_,rfl,by have:=gC.e;rwa[ŭ,ì] at this,((ώ _ _).alloc (ϊ _) _).grown gX.e (by simp) (λk hk=>dX HO.e k hk)⟩
def cY.Ok.alloc{X:cY}{B:Nat}(ok:X.Ok B)(hB:B<=X.w.heap.size)(o:Obj):cY.Ok {X with w:=X.w.alloc o} B where
 book:=ok.book.still ((Δ.refl _).alloc hB o)
 valid:=ok.valid
 lens:=ok.lens
 sv:=ok.sv
 B:=ok.B
 s:=by have:=ok.s;simp[cY.s] at this |-;omega
 o:=by have:=ok.o;simp[cY.s] at this |-;omega
 gn:=by have:=ok.gn;simp[cY.s] at this |-;omega
 gm:=by have:=ok.gm;simp[cY.s] at this |-;omega
 ns:=ok.ns
 no:=ok.no
 nn:=ok.nn
 cs:=ok.cs.alloc o
 co:=ok.co.alloc o
 cn:=ok.cn.alloc o
 eg:=ok.eg
 e:=λk W hk hg=>ok.e k W hk ((ϯ X.w o _).trans hg)
def cY.Ok.SK{X:cY}(ok:X.Ok B)(l:Nat):cY.Ok {X with l:=l} B:=⟨ok.book,ok.valid,ok.lens,ok.sv,ok.B,ok.s,ok.o,ok.gn,ok.gm,ok.ns,ok.no,ok.nn,ok.cs,ok.co,ok.cn,ok.eg,ok.e⟩
end Go.Tw
namespace Go.Tw
variable [Go.Tw.aK]
open Go Go.Proofs Go.RowKit
attribute [local go_sem] AZ AY Ahl
structure FZ(w0:Ψ)(gm:Nat)(b:eR)(rc:Loop)(np:Nat)(full:List Cut)(W:Ψ):Prop where
 r0:∃v,Bk W w0.heap.size 27 #[v]/\W.ownsRow (w0.heap.size+8) 56 2 v np (full.flatMap Cut.vs)
 r1:Bk W (w0.heap.size+1) 4 #[.bool θ]
 d:W.heap[w0.heap.size+2]?=φ (.deferred (φ []))
 l:W.heap[w0.heap.size+3]?=φ (.loop {rc with state:=.done,pending:=φ .ret})
 lv:∃i,Bk W (w0.heap.size+4+2) 27 #[ζ (φ ⟨w0.heap.size+4+1,0,ν⟩) i np]
 gr:w0.grownBy W (φ gm)
 known:dS W gm b
def FJ(h:dS W g b)(hp:g≠p.block):dS (W.setCell p u) g b:=by
 obtain⟨es,clock,h1,h2⟩:=h;exact⟨es,clock,(Ô _ _ _ _ hp).trans h1,h2⟩
def FZ.set{w0:Ψ}{gm:Nat}{b:eR}{rc:Loop}{np:Nat}{full:List Cut}{W:Ψ}(h:FZ w0 gm b rc np full W)(Ce:gm<w0.heap.size)(i:Nat):FZ w0 gm b rc np full (W.setCell ⟨w0.heap.size+4+2,0,ν⟩ (ζ (φ ⟨w0.heap.size+4+1,0,ν⟩) i np)):=by
 obtain⟨v,v1,v2⟩:=h.r0;obtain⟨i',hi⟩:=h.lv;exact⟨⟨v,v1.dV (by simp;omega) _,gN v2 (by simp)⟩,h.r1.dV (by simp) _,(Ô _ _ _ _ (by simp)).trans h.d,(Ô _ _ _ _ (by simp)).trans h.l,⟨i,hi.set 0 _⟩,zu h.gr (by simp;omega),FJ h.known (by simp;omega)⟩
def aa1(X:cY)(e:Ň)(W':Ψ):Prop:=
 ((∃full v,search X.b X.n X.e X.np []=φ full/\e=Ω (μ #[v,.bool θ])/\W'.ownsRow X.w.heap.size 56 2 v X.np (full.flatMap Cut.vs))\/(search X.b X.n X.e X.np []=ν/\e=Ω (μ #[ζ ν 0 0,.bool χ])))/\
 X.w.grownBy W' (φ X.gm)/\dS W' X.gm X.b
def vK{base:Nat}{sz:Nat}(h:w.ownsRow base e sz (ζ (φ ⟨g,0,ν⟩) n cap) n xs):∀j u,xs[j]?=φ u-> w.cell? ((⟨g,0,ν⟩:Addr).add j)=φ u:=by
 intro j u hu;rcases h.2 with⟨h0,_⟩ | ⟨g',ze,cur,h1,h2,h3,h4,h5,h6,h7⟩
 ·cases h0
 ·cases h1
  rw[kP];refine(cell_of_row w g j cur _ (0,0) h3).trans ?_
  rw[<-h7,List.getElem?_take] at hu
  split at hu
  ·rw[<-ī];exact hu
  ·cases hu
def aek(l:List Cut):∀u∈l.flatMap Cut.vs,u.oneCell'=θ:=by
 intro u hu;simp only[ĺ,Cut.vs,List.mem_cons,List.not_mem_nil,or_false] at hu;obtain⟨c,_,rfl|rfl⟩:=hu<;>rfl
def Ud{X:cY}(ok:X.Ok B)(hB:B<=X.w.heap.size)(hk:dS X.w X.gm X.b):
 ύ prog 170 #[fv 174 #[π (φ ⟨X.gs,0,ν⟩),π (φ ⟨X.go,0,ν⟩),π (φ ⟨X.gn,0,ν⟩)]] X.w (aa1 X):=by
 refine(callsIn_wide (n:=0)).1 ?_
 have Ce:=ok.gm;have hs:X.s=X.w.heap.size:=rfl;have asc:X.gm<X.w.heap.size:=Ce;have OK:=ψ ok;have HK:=ψ hk;have kX:1<=X.np/\X.np<=3:=ok.valid.np;clear ok hk;refine callsIn_of_wp_marks func170 rfl trivial ?_
 simp only[Tryz.ntmps170,ř,Ă,Ś,ĸ,Ŝ,ŗ,Ř,ś,Ķ,ì,ķ]
 gi_wp2
 refine Qf (gf:=174) (pre:=#[]) (lb:=#[π (φ ⟨X.gs,0,ν⟩),π (φ ⟨X.go,0,ν⟩),π (φ ⟨X.gn,0,ν⟩)]) rfl call174 λfn rc iD=>?_
 simp only[Ahx,Nat.add_assoc,ĸ,Ķ,ķ,ì,Ah1];obtain⟨W1,eS⟩:∃W1,W1=(((X.w.alloc (ϣ #[Value.slice ν 0 0] 27)).alloc (ϣ #[Value.bool χ] 4)).alloc (Obj.deferred (φ []))).alloc (Obj.loop rc):=⟨_,rfl⟩
 have Cl:=((((OK.e.alloc hB (Ξ #[ζ ν 0 0] 27)).alloc (by simp;omega) (Ξ #[.bool χ] 4)).alloc (by simp;omega) (.deferred (φ []))).alloc (by simp;omega) (.loop rc)).SK (X.w.heap.size+3)
 have NA:W1.heap.size=X.w.heap.size+4:=by rw[eS];simp
 have zZ:W1.heap[X.w.heap.size+3]?=φ (.loop rc):=by rw[eS];exact wK (by simp)
 have kT:W1.heap[X.w.heap.size+2]?=φ (.deferred (φ [])):=by rw[eS];exact nB (wK (by simp))
 have k0:Bk W1 X.w.heap.size 27 #[ζ ν 0 0]:=by rw[eS];exact(((Bk.new _ _ _).alloc _).alloc _).alloc _
 have k1:Bk W1 (X.w.heap.size+1) 4 #[.bool χ]:=by rw[eS];exact((Bk.bZ (by simp) _ _).alloc _).alloc _
 have fD:X.w.grownBy W1 (φ X.gm):=by rw[eS];exact(((ϯ _ _ _).trans (ϯ _ _ _)).trans (ϯ _ _ _)).trans (ϯ _ _ _)
 have fj:dS W1 X.gm X.b:=HK.e.grown (row:=ν) (by rw[eS];exact(((ϯ _ _ _).trans (ϯ _ _ _)).trans (ϯ _ _ _)).trans (ϯ _ _ _)) (by simp)
 rw[<-eS] at Cl |-
 clear eS;obtain⟨X1,ic⟩:∃X1:cY,X1={X with w:=W1,l:=X.w.heap.size+3}:=⟨_,rfl⟩
 have cD:X1.Ok B:=by rw[ic];exact Cl
 have e0:X1.s=X.w.heap.size+4:=by rw[ic];exact NA
 have hZ:Bq X1 (FZ X.w X.gm X.b rc X.np):=by
  refine⟨λfull W hz=>?_,λfull W i hz=>?_,?yr⟩
  ·obtain⟨i,hi⟩:=hz.lv
   rw[e0,show X1.np=X.np by rw[ic];rfl];exact⟨i,hi⟩
  ·rw[e0,show X1.np=X.np by rw[ic];rfl];exact hz.set (by rw[<-hs];exact Ce) i
  ·intro m full W hlen hD
   have Ae:X1.np=X.np:=by rw[ic];rfl
   have Od:X1.gm=X.gm:=by rw[ic]
   have Au:X1.w=W1:=by rw[ic]
   have ai:X1.b=X.b:=by rw[ic]
   have Vx:X1.l=X.w.heap.size+3:=by rw[ic]
   have ew:=hD.gr;rw[Au,Od] at ew;have pH:W.heap[X.w.heap.size+3]?=φ (.loop rc):=(ew.block _ (by omega) (by simp;omega)).trans zZ
   have gh:W.heap[X.w.heap.size+2]?=φ (.deferred (φ [])):=(ew.block _ (by omega) (by simp;omega)).trans kT
   have FF:Bk W X.w.heap.size 27 #[ζ ν 0 0]:=k0.grown ew (by simp;omega)
   have vG:Bk W (X.w.heap.size+1) 4 #[.bool χ]:=k1.grown ew (by simp;omega)
   have pI:Bk W (X.w.heap.size+4+2) 27 #[ζ (φ ⟨X.w.heap.size+4+1,0,ν⟩) X.np X.np]:=by have:=hD.lv;rw[e0,hlen,Ae] at this;exact this
   have B7:W.ownsRow (X.w.heap.size+4+1) 56 2 (ζ (φ ⟨X.w.heap.size+4+1,0,ν⟩) X.np X.np) X.np (full.flatMap Cut.vs):=by have:=hD.arr;rw[e0,hlen,Ae] at this;exact this
   have cP:dS W X.gm X.b:=by have:=hD.known;rw[Od,ai] at this;exact this
   have oR:X.w.heap.size+4+3<W.heap.size:=by have:=hD.nx.lt;rw[e0] at this;exact this
   rw[Vx,e0,Ae];refine Rh (n:=0) iD pH rfl ?_
   gi_wp2
   refine⟨_,Mn iD pH,?_⟩
   obtain⟨Wb,rI⟩:∃Wb,Wb=W.putObj (X.w.heap.size+3) (.loop {rc with state:=.busy}):=⟨_,rfl⟩
   rw[<-rI];have jy:∀g,g≠X.w.heap.size+3->Wb.heap[g]?=W.heap[g]?:=λg hg=>by rw[rI];exact Á hg
   have vp:Wb.heap[X.w.heap.size+3]?=φ (.loop {rc with state:=.busy}):=by rw[rI];exact Ŋ (by omega)
   have E7:Wb.heap.size=W.heap.size:=by rw[rI];simp
   have Cd:X.w.grownBy Wb (φ X.gm):=by
    rw[rI];exact zt (fD.trans ew) (Ĭ W _ _) (λg e=>by cases e;omega)
   have eP:dS Wb X.gm X.b:=by
    obtain⟨es,clock,h1,h2⟩:=cP;exact⟨es,clock,(jy _ (by omega)).trans h1,h2⟩
   have WY:Bk Wb X.w.heap.size 27 #[ζ ν 0 0]:=(jy _ (by omega)).trans FF
   have WZ:Bk Wb (X.w.heap.size+1) 4 #[.bool χ]:=(jy _ (by omega)).trans vG
   have U7:Wb.heap[X.w.heap.size+2]?=φ (.deferred (φ [])):=(jy _ (by omega)).trans gh
   have VO:Bk Wb (X.w.heap.size+4+2) 27 #[ζ (φ ⟨X.w.heap.size+4+1,0,ν⟩) X.np X.np]:=(jy _ (by omega)).trans pI
   have hab:Wb.ownsRow (X.w.heap.size+4+1) 56 2 (ζ (φ ⟨X.w.heap.size+4+1,0,ν⟩) X.np X.np) X.np (full.flatMap Cut.vs):=by
    rw[rI];exact xv B7 (by omega)
   have VF:full.length=X.np:=hlen.trans Ae;have dE:=mZ (R:=Cut.R) (f:=Cut.vs) (l:=full) (by rw[VF];exact hab) (λ_=>rfl) (λ_ _=>rfl)
   have IP:∀j u,(full.flatMap Cut.vs)[j]?=φ u-> Wb.cell? ((⟨X.w.heap.size+4+1,0,ν⟩:Addr).add j)=φ u:=λj u hu=>vK hab j u hu
   have Cm:∀u∈full.flatMap Cut.vs,u.oneCell'=θ:=aek full
   have Ck:(full.flatMap Cut.vs).length=X.np * 2:=hab.1;have aG:=ψ (adK (n:=X.np) (c:=X.np) Ck IP Cm (by omega) (by simp;omega))
   have FR:=ψ (Ϗ Cd (Ϗ eP (Ϗ WY (Ϗ WZ (Ϗ U7 (Ϗ VO vp))))));clear rI jy hab dE IP Cm Ck Cd eP WY WZ U7 VO vp pH gh FF vG pI B7 cP ew hD ic cD Cl VF hlen Ae Od Au ai Vx e0 k0 k1 fD fj zZ kT NA hs
   gi_wp2_with (first
    | (gi_at_call 201;refine(callsIn_wide.2 aG.e).mono ?_;rintro e w1 ⟨v,rfl,aH,ai⟩
       obtain⟨A9,m9,c9,rfl⟩:=iI aH;have q0:Bk w1 X.w.heap.size 27 #[ζ ν 0 0]:=FR.e.2.2.1.below ai (by omega)
       have q1:Bk w1 (X.w.heap.size+1) 4 #[.bool χ]:=FR.e.2.2.2.1.below ai (by omega)
       have r0: w1.cell? ⟨X.w.heap.size,0,ν⟩=φ (ζ ν 0 0):=q0.cell 0;have z0:=q0.frozen 0;have r1: w1.cell? ⟨X.w.heap.size+1,0,ν⟩=φ (.bool χ):=q1.cell 0;have z1:=q1.frozen 0;have uF:=ψ (Ϗ aH (Ϗ ai (Ϗ q0 q1)));clear aH ai q0 q1))
   have hzb:X.w.heap.size+7<Wb.heap.size:=by omega
   have aO:=uF.e.2.1.size;refine⟨_,_,TU .ret ((Ô _ _ _ _ (by simp)).trans ((Ô _ _ _ _ (by simp)).trans ((uF.e.2.1.block _ (by omega)).trans FR.e.2.2.2.2.2.2))),rfl,?_⟩
   refine⟨⟨_,(Á (by omega)).trans ((uF.e.2.2.1.set 0 _).dV (by simp) _),xv (gN (gN (uF.e.1.base (by omega)) (by simp)) (by simp)) (by omega)⟩,
    (Á (by omega)).trans ((uF.e.2.2.2.dV (by simp) _).set 0 _),(Á (by omega)).trans ((Ô _ _ _ _ (by simp)).trans ((Ô _ _ _ _ (by simp)).trans ((uF.e.2.1.block _ (by omega)).trans FR.e.2.2.2.2.1))),
    Ŋ (by simp[ï];omega),⟨_,(Á (by omega)).trans (((FR.e.2.2.2.2.2.1.below uF.e.2.1 (by omega)).dV (by simp;omega) _).dV (by simp) _)⟩,?_,?_⟩
   ·exact zt (zu (zu (FR.e.1.trans (jQ uF.e.2.1 (ϊ _) _)) (by simp)) (by simp)) (Ĭ _ _ _) (λg e=>by cases e;omega)
   ·have jx:=FJ (u:=.bool θ) (p:=⟨X.w.heap.size+1,0,ν⟩) (FJ (u:=ζ A9 m9 c9) (p:=⟨X.w.heap.size,0,ν⟩) (FR.e.2.1.below uF.e.2.1 FR.e.2.1.lt) (by simp;omega)) (by simp;omega)
    obtain⟨es,clock,h1,h2⟩:=jx;exact⟨es,clock,(Á (by omega)).trans h1,h2⟩
 have call:=TQ cD (by rw[e0];omega) hZ (by rw[ic];exact fj)
 rw[show X1.l=X.w.heap.size+3 by rw[ic],show X1.gs=X.gs by rw[ic],show X1.go=X.go by rw[ic],show X1.gn=X.gn by rw[ic],show X1.w=W1 by rw[ic],show X1.b=X.b by rw[ic],show X1.n=X.n by rw[ic],show X1.e=X.e by rw[ic],show X1.np=X.np by rw[ic];rfl] at call
 refine(callsIn_wide.2 call).mono ?_
 rintro e W2 ⟨⟨v,rfl⟩,(⟨full,vC,hz⟩ | ⟨vC,hD⟩)⟩
 ·have HZ:=ψ hz
  have HS:=ψ vC;obtain⟨v2,v21,v22⟩:=hz.r0;obtain⟨A9,m9,c9,rfl⟩:=iI v22;refine⟨φ .ret,_,TY hz.l,?_⟩
  obtain⟨W3,gd⟩:∃W3,W3=W2.putObj (X.w.heap.size+3) (.loop {rc with state:=.exhausted,pending:=φ .ret}):=⟨_,rfl⟩
  have q0:Bk W3 X.w.heap.size 27 #[ζ A9 m9 c9]:=by rw[gd];exact(Á (by omega)).trans v21
  have q1:Bk W3 (X.w.heap.size+1) 4 #[.bool θ]:=by rw[gd];exact(Á (by omega)).trans hz.r1
  have Li:Hid (W3.heap[X.w.heap.size+2]?=φ (.deferred (φ []))):=ψ (by rw[gd];exact(Á (by omega)).trans hz.d)
  have jo:Hid (X.w.grownBy W3 (φ X.gm)/\dS W3 X.gm X.b/\W3.ownsRow (X.w.heap.size+8) 56 2 (ζ A9 m9 c9) X.np (full.flatMap Cut.vs)):=ψ (by
   rw[gd];refine⟨zt hz.gr (Ĭ _ _ _) (λg e=>by cases e;omega),?_,xv v22 (by omega)⟩
   obtain⟨es,clock,h1,h2⟩:=hz.known;exact⟨es,clock,(Á (by omega)).trans h1,h2⟩)
  have Q:=ψ (Ϗ q0 q1);have cK:X.w.heap.size+1<W3.heap.size:=q1.lt;rw[<-gd];clear gd hz v21 v22 vC q0 q1;show Code.wpIn ø 0 prog Code.ret _ _ _
  gi_wp2
  refine⟨by simp,.inl ⟨_,_,rfl,Ahc Li.e,?_⟩⟩
  have r0:(W3.putObj (X.w.heap.size+2) (.deferred ν)).cell? ⟨X.w.heap.size,0,ν⟩=φ (ζ A9 m9 c9):=Bk.cell (g:=X.w.heap.size) ((Á (by omega)).trans Q.e.1) 0
  have r1:(W3.putObj (X.w.heap.size+2) (.deferred ν)).cell? ⟨X.w.heap.size+1,0,ν⟩=φ (.bool θ):=Bk.cell (g:=X.w.heap.size+1) ((Á (by omega)).trans Q.e.2) 0
  refine⟨μ #[ζ A9 m9 c9,.bool θ],by simp[results,Tryz.results170,go_sem,r0,r1],.inl ⟨full,ζ A9 m9 c9,HS.e,rfl,(xv jo.e.2.2 (by omega)).base (by omega)⟩,zt jo.e.1 (Ĭ _ _ _) (λg e=>by cases e;omega),?_⟩
  obtain⟨es,clock,h1,h2⟩:=jo.e.2.1;exact⟨es,clock,(Á (by omega)).trans h1,h2⟩
 ·have HS:=ψ vC
  have ew:=hD.gr;rw[show X1.w=W1 by rw[ic],show X1.gm=X.gm by rw[ic]] at ew
  have cP:dS W2 X.gm X.b:=by have:=hD.known;rw[show X1.gm=X.gm by rw[ic],show X1.b=X.b by rw[ic]] at this;exact this
  have pH:W2.heap[X.w.heap.size+3]?=φ (.loop rc):=(ew.block _ (by omega) (by simp;omega)).trans zZ
  have gh:W2.heap[X.w.heap.size+2]?=φ (.deferred (φ [])):=(ew.block _ (by omega) (by simp;omega)).trans kT
  have FF:Bk W2 X.w.heap.size 27 #[ζ ν 0 0]:=k0.grown ew (by simp;omega)
  have vG:Bk W2 (X.w.heap.size+1) 4 #[.bool χ]:=k1.grown ew (by simp;omega)
  refine⟨ν,_,MR iD pH,?_⟩
  obtain⟨W3,gd⟩:∃W3,W3=W2.putObj (X.w.heap.size+3) (.loop {rc with state:=.exhausted}):=⟨_,rfl⟩
  have q0:Bk W3 X.w.heap.size 27 #[ζ ν 0 0]:=by rw[gd];exact(Á (by omega)).trans FF
  have q1:Bk W3 (X.w.heap.size+1) 4 #[.bool χ]:=by rw[gd];exact(Á (by omega)).trans vG
  have Li:Hid (W3.heap[X.w.heap.size+2]?=φ (.deferred (φ []))):=ψ (by rw[gd];exact(Á (by omega)).trans gh)
  have jo:Hid (X.w.grownBy W3 (φ X.gm)/\dS W3 X.gm X.b):=ψ (by
   rw[gd];refine⟨zt (fD.trans ew) (Ĭ _ _ _) (λg e=>by cases e;omega),?_⟩
   obtain⟨es,clock,h1,h2⟩:=cP;exact⟨es,clock,(Á (by omega)).trans h1,h2⟩)
  have Q:=ψ (Ϗ q0 q1);have r0: W3.cell? ⟨X.w.heap.size,0,ν⟩=φ (ζ ν 0 0):=q0.cell 0;have r1: W3.cell? ⟨X.w.heap.size+1,0,ν⟩=φ (.bool χ):=q1.cell 0;have z0:=q0.frozen 0;have z1:=q1.frozen 0;have cK:X.w.heap.size+1<W3.heap.size:=q1.lt;rw[<-gd];clear gd hD vC ew cP pH gh FF vG q0 q1 hZ call cD Cl ic e0 k0 k1 fD fj zZ kT NA hs;show Exit.inBlock _ _ _ _ _
  gi_wp2
  refine⟨by simp,.inl ⟨_,_,rfl,Ahc ((Ô _ _ _ _ (by simp)).trans ((Ô _ _ _ _ (by simp)).trans Li.e)),?_⟩⟩
  have t0:(((W3.setCell ⟨X.w.heap.size,0,ν⟩ (ζ ν 0 0)).setCell ⟨X.w.heap.size+1,0,ν⟩ (.bool χ)).putObj (X.w.heap.size+2) (.deferred ν)).cell? ⟨X.w.heap.size,0,ν⟩=φ (ζ ν 0 0):=Bk.cell (g:=X.w.heap.size) (t:=27) (cs:=#[ζ ν 0 0]) ((Á (by omega)).trans ((Q.e.1.set 0 (ζ ν 0 0)).dV (by simp) _)) 0
  have t1:(((W3.setCell ⟨X.w.heap.size,0,ν⟩ (ζ ν 0 0)).setCell ⟨X.w.heap.size+1,0,ν⟩ (.bool χ)).putObj (X.w.heap.size+2) (.deferred ν)).cell? ⟨X.w.heap.size+1,0,ν⟩=φ (.bool χ):=Bk.cell (g:=X.w.heap.size+1) (t:=4) (cs:=#[.bool χ]) ((Á (by omega)).trans ((Q.e.2.dV (by simp) _).set 0 (.bool χ))) 0
  refine⟨μ #[ζ ν 0 0,.bool χ],by simp[results,Tryz.results170,go_sem,t0,t1],.inr ⟨HS.e,rfl⟩,zt (zu (zu jo.e.1 (by simp)) (by simp)) (Ĭ _ _ _) (λg e=>by cases e;omega),?_⟩
  obtain⟨es,clock,h1,h2⟩:=FJ (u:=.bool χ) (p:=⟨X.w.heap.size+1,0,ν⟩) (FJ (u:=ζ ν 0 0) (p:=⟨X.w.heap.size,0,ν⟩) jo.e.2 (by simp;omega)) (by simp;omega)
  exact⟨es,clock,(Á (by omega)).trans h1,h2⟩
end Go.Tw
namespace Go.Tw
variable [Go.Tw.aK]
open Go Go.Proofs Go.RowKit
def YF(w:Ψ)(b:eR)(pv bv tv:υ)(e:Ň)(w':Ψ):Prop:=∃g,e=Ω (μ #[η #[ξ κ 0,ζ ν 0 0,ζ ν 0 0,ζ ν 0 0,ζ ν 0 0,.map (φ g)],ξ κ (bT b 0)])/\Γ w.heap.size w w'
def ao0(hB:B<=w.heap.size)(ah:aQ w B b pv bv tv)(h:bT b 0≠0):
 ύ prog 119 #[η #[ξ κ b.ab,pv,bv,tv]] w (YF w b pv bv tv):=by
 have st:Δ B w ((w.alloc (Ξ #[ξ κ b.ab,pv,bv,tv] 26)).alloc (Ξ #[ξ κ 0,ζ ν 0 0,ζ ν 0 0,ζ ν 0 0,ζ ν 0 0,.map ν] 151)):=((Δ.refl w).alloc hB _).alloc (by simp;omega) _
 have aG:=ψ (XS (w:=((w.alloc (Ξ #[ξ κ b.ab,pv,bv,tv] 26)).alloc (Ξ #[ξ κ 0,ζ ν 0 0,ζ ν 0 0,ζ ν 0 0,ζ ν 0 0,.map ν] 151))) (B:=B) (by simp;omega) (ah.still st) (Bw (ah.still st)) h)
 obtain⟨s,hs⟩:∃s,s=bT b 0:=⟨_,rfl⟩
 have HS:=ψ hs;rw[<-hs] at aG h;obtain⟨A1,n1,c1,rfl,-⟩:=ah.pieces.Φ;obtain⟨A2,n2,c2,rfl,-⟩:=ah.aC.Φ;obtain⟨A3,n3,c3,rfl,-⟩:=ah.aI.Φ;clear ah st hs;have hmm:= @run_makeMap prog;go_enter func119,Tryz.ntmps119;go_wp2_with (first
  | (go_at_call 98;refine aG.e.mono ?_;rintro e w1 ⟨rfl,ai⟩
     have k1:Bk w1 (w.heap.size+1) 151 #[ξ κ 0,ζ ν 0 0,ζ ν 0 0,ζ ν 0 0,ζ ν 0 0,.map ν]:=(Bk.bZ (by simp) _ _).below ai (by simp)
     have r0:=k1.cell 0;have z0:=k1.frozen 0;have r1:=k1.cell 1;have z1:=k1.frozen 1;have r2:=k1.cell 2;have z2:=k1.frozen 2;have r3:=k1.cell 3;have z3:=k1.frozen 3;have r4:=k1.cell 4;have z4:=k1.frozen 4;have r5:=k1.cell 5;have z5:=k1.frozen 5;have aO:w.heap.size+1<w1.heap.size:=by have:=ai.size;simp at this;omega
     have aZ:w.heap.size+1<=w1.heap.size:=by omega
     have gw:w.heap.size<w1.heap.size:=by omega
     have sc:w.heap.size<=w1.heap.size:=by omega
     have YK:=ψ k1;have aW:Hid (Γ w.heap.size w w1):=ψ ((((ώ _ _).alloc (ϊ _) _).alloc (by simp) _).trans (ai.mono (by simp;omega)))
     clear ai k1))
 refine à (v:=μ #[η #[ξ κ 0,ζ ν 0 0,ζ ν 0 0,ζ ν 0 0,ζ ν 0 0,.map (φ (w1.heap.size+1))],ξ κ s]) (by simp[results,Tryz.results119,go_sem,r0,r1,r2,r3,r4,r5,aO,aZ,gw,sc]) rfl ?_
 rw[show s=bT b 0 from HS.e]
 refine⟨_,rfl,?_⟩
 ((refine ũ (ũ ?_ (by simp[ï];omega) _) (by simp[ï];omega) _);(repeat refine Ĺ ?_ (by simp) _);exact aW.e)
def aoZ(w:Ψ)(b:eR)(pv bv tv:υ)(e:Ň)(w':Ψ):Prop:=∃sv g,e=Ω (μ #[η #[ξ κ b.ab,pv,bv,tv,sv,.map (φ g)],ξ κ 0])/\fx w' w.heap.size sv (aB b)/\dS w' g b/\w.heap.size<=g/\Γ w.heap.size w w'
def Qw(hB:B<=w.heap.size)(ah:aQ w B b pv bv tv)(h:bT b 0=0):
 ύ prog 119 #[η #[ξ κ b.ab,pv,bv,tv]] w (aoZ w b pv bv tv):=by
 have st:Δ B w ((w.alloc (Ξ #[ξ κ b.ab,pv,bv,tv] 26)).alloc (Ξ #[ξ κ 0,ζ ν 0 0,ζ ν 0 0,ζ ν 0 0,ζ ν 0 0,.map ν] 151)):=((Δ.refl w).alloc hB _).alloc (by simp;omega) _
 have aG:=ψ (ym (w:=((w.alloc (Ξ #[ξ κ b.ab,pv,bv,tv] 26)).alloc (Ξ #[ξ κ 0,ζ ν 0 0,ζ ν 0 0,ζ ν 0 0,ζ ν 0 0,.map ν] 151))) (B:=B) (by simp;omega) (ah.still st) (Bw (ah.still st)) h)
 obtain⟨A1,n1,c1,rfl,-⟩:=ah.pieces.Φ;obtain⟨A2,n2,c2,rfl,-⟩:=ah.aC.Φ;obtain⟨A3,n3,c3,rfl,-⟩:=ah.aI.Φ;clear ah st h;have hmm:= @run_makeMap prog;go_enter func119,Tryz.ntmps119;go_wp2_with (first
  | (go_at_call 98;refine aG.e.mono ?_;rintro e w1 ⟨sv,rfl,aH,ai⟩
     obtain⟨A9,m9,c9,rfl⟩:=iI aH;have HO:=ψ aH;have k1:Bk w1 (w.heap.size+1) 151 #[ξ κ 0,ζ ν 0 0,ζ ν 0 0,ζ ν 0 0,ζ ν 0 0,.map ν]:=(Bk.bZ (by simp) _ _).below ai (by simp)
     have r0:=k1.cell 0;have z0:=k1.frozen 0;have r1:=k1.cell 1;have z1:=k1.frozen 1;have r2:=k1.cell 2;have z2:=k1.frozen 2;have r3:=k1.cell 3;have z3:=k1.frozen 3;have r4:=k1.cell 4;have z4:=k1.frozen 4;have r5:=k1.cell 5;have z5:=k1.frozen 5;have aO:w.heap.size+1<w1.heap.size:=by have:=ai.size;simp at this;omega
     have aZ:w.heap.size+1<=w1.heap.size:=by omega
     have gw:w.heap.size<w1.heap.size:=by omega
     have sc:w.heap.size<=w1.heap.size:=by omega
     have YK:=ψ k1;have aW:Hid (Γ w.heap.size w w1):=ψ ((((ώ _ _).alloc (ϊ _) _).alloc (by simp) _).trans (ai.mono (by simp;omega)))
     clear ai k1 aH))
 refine à (v:=μ #[η #[ξ κ b.ab,ζ A1 n1 c1,ζ A2 n2 c2,ζ A3 n3 c3,ζ A9 m9 c9,.map (φ (w1.heap.size+1))],ξ κ 0]) (by simp[results,Tryz.results119,go_sem,r0,r1,r2,r3,r4,r5,aO,aZ,gw,sc]) rfl ?_
 refine⟨_,_,rfl,?_,?_,?_,?_⟩
 ·refine fx.base (base:=w.heap.size+2) ?_ (by omega)
  have h0:fx w1 (w.heap.size+2) (ζ A9 m9 c9) (aB b):=by have:=HO.e;simpa using this
  first
   |exact((((((((h0.set (by simp)).set (by simp)).set (by simp)).set (by simp)).set (by simp)).set (by simp)).alloc _).alloc _)
   | (repeat(first|exact h0|refine fx.set ?_ (by simp) |refine fx.alloc ?_ _))
 ·exact⟨#[],0,wK (by simp[ï]),by simp⟩
 ·omega
 · ((refine ũ (ũ ?_ (by simp[ï];omega) _) (by simp[ï];omega) _);(repeat refine Ĺ ?_ (by simp) _);exact aW.e)
def aaU(w:Ψ)(b:eR)(pv bv tv sv:υ)(g KO:Nat)(kE:Array υ)(ps:List al)(e:Ň)(w':Ψ):Prop:=
 ∃gn,e=Ω (fv 174 #[π (φ ⟨w.heap.size,0,ν⟩),π (φ ⟨w.heap.size+1,0,ν⟩),π (φ ⟨gn,0,ν⟩)])/\Bk w' w.heap.size 151 #[ξ κ b.ab,pv,bv,tv,sv,.map (φ g)]/\
  Bk w' (w.heap.size+1) 158 #[fv KO kE]/\Bk w' gn 128 (cB ps).cs/\w.heap.size<=gn/\Γ w.heap.size w w'
def ML{ps:List al}(hs:Row w B 3 al.R sv ps)(hB:B<=w.heap.size)(hp:∃A n c,pv=ζ A n c)(hb:∃A n c,bv=ζ A n c)(ht:∃A n c,tv=ζ A n c):
 ύ prog 122 #[η #[ξ κ b.ab,pv,bv,tv,sv,.map (φ g)],fv KO kE] w (aaU w b pv bv tv sv g KO kE ps):=by
 have st:Δ B w ((w.alloc (Ξ #[ξ κ b.ab,pv,bv,tv,sv,.map (φ g)] 151)).alloc (Ξ #[fv KO kE] 158)):=((Δ.refl w).alloc hB _).alloc (by simp;omega) _
 have aG:=ψ (UB (s:=b.ab) (hs.still st λ_ _ h=>h) (by simp;omega) hp hb ht)
 obtain⟨A1,n1,c1,rfl⟩:=hp;obtain⟨A2,n2,c2,rfl⟩:=hb;obtain⟨A3,n3,c3,rfl⟩:=ht;obtain⟨A4,n4,c4,rfl,-⟩:=hs.Φ;obtain⟨G,hG⟩:∃G,G=cB ps:=⟨_,rfl⟩
 rw[<-hG] at aG;unfold al.cs at aG;have HG:=ψ hG;clear hs st hG;go_enter func122,Tryz.ntmps122;go_wp2_with (first
  | (go_at_call 115;refine aG.e.mono ?_;rintro e w1 ⟨rfl,ai⟩
     have aO:w.heap.size+1<w1.heap.size:=by have:=ai.size;simp at this;omega
     have k0:=ψ (Bk.below (g:=w.heap.size) (t:=151) (cs:=#[ξ κ b.ab,ζ A1 n1 c1,ζ A2 n2 c2,ζ A3 n3 c3,ζ A4 n4 c4,.map (φ g)]) ((Bk.new w _ _).alloc _) ai (by simp;omega))
     have k1:=ψ (Bk.below (g:=w.heap.size+1) (t:=158) (cs:=#[fv KO kE]) (Bk.bZ (by simp) _ _) ai (by simp))
     have aW:Hid (Γ w.heap.size w w1):=ψ ((((ώ _ _).alloc (ϊ _) _).alloc (by simp) _).trans (ai.mono (by simp;omega)))
     clear ai))
 go_ret;refine⟨w1.heap.size,rfl,k0.e.alloc _,k1.e.alloc _,?_,by omega,aW.e.alloc (by omega) _⟩
 rw[<-HG.e];exact Bk.bZ rfl _ _
def alg{l:List Cut}(hl:Row w B 2 Cut.R lv l)(hB:B<=w.heap.size)(zx:l.length<=1000)(hp:∃A n c,pv=ζ A n c)(hb:∃A n c,bv=ζ A n c)(ht:∃A n c,tv=ζ A n c)(hs:∃A n c,sv=ζ A n c):
 ύ prog 234 #[η #[ξ κ b.ab,pv,bv,tv,sv,.map (φ g)],lv] w λe w'=>e=Ω (ξ κ (jX l).length)/\Γ w.heap.size w w':=by
 have aG:=ψ (taken (w:=w.alloc (Ξ #[ξ κ b.ab,pv,bv,tv,sv,.map (φ g)] 151)) (hl.still ((Δ.refl w).alloc hB _) λ_ _ h=>h) (by simp;omega) zx)
 obtain⟨A1,n1,c1,rfl⟩:=hp;obtain⟨A2,n2,c2,rfl⟩:=hb;obtain⟨A3,n3,c3,rfl⟩:=ht;obtain⟨A4,n4,c4,rfl⟩:=hs;obtain⟨A,n,c,rfl,-⟩:=hl.Φ;clear hl;go_enter func234,Tryz.ntmps234;go_wp2_with (first
  | (go_at_call 235;refine aG.e.mono ?_;rintro e w1 ⟨u,rfl,aH,ai⟩
     obtain⟨A9,m9,c9,rfl⟩:=iI aH;have hm:Hid ((m9:Int)=(jX l).length):=ψ (by
      rcases aH.2 with⟨h1,h2⟩ | ⟨_,_,_,h1,_⟩
      ·cases h1;rw[h2]
      ·cases h1;rfl)
     have HB:=ψ (da (ώ _ _) ai (ϊ _));clear ai aH))
 go_ret;exact⟨bm hm.e,HB.e⟩
def iG(m k:Nat):Bool:= !(m.testBit k)
def SQ{m:Nat}(hm:m<8)(hk:k<3)(hg:Bk w g 3 #[ξ κ m]):
 ύ prog 171 (#[ξ κ k]++#[π (φ ⟨g,0,ν⟩)]) w λe w'=>e=Ω (.bool (iG m k))/\Γ w.heap.size w w':=by
 refine app1 ?_
 have g0: w.cell? ⟨g,0,ν⟩=φ (ξ κ m):=hg.cell 0;clear hg;go_enter func171,Tryz.ntmps171;go_wp2;go_ret;refine⟨bU ?_,ώ _ _⟩
 match m,hm,k,hk with
 |0,_,0,_=>rfl
 |0,_,1,_=>rfl
 |0,_,2,_=>rfl
 |1,_,0,_=>rfl
 |1,_,1,_=>rfl
 |1,_,2,_=>rfl
 |2,_,0,_=>rfl
 |2,_,1,_=>rfl
 |2,_,2,_=>rfl
 |3,_,0,_=>rfl
 |3,_,1,_=>rfl
 |3,_,2,_=>rfl
 |4,_,0,_=>rfl
 |4,_,1,_=>rfl
 |4,_,2,_=>rfl
 |5,_,0,_=>rfl
 |5,_,1,_=>rfl
 |5,_,2,_=>rfl
 |6,_,0,_=>rfl
 |6,_,1,_=>rfl
 |6,_,2,_=>rfl
 |7,_,0,_=>rfl
 |7,_,1,_=>rfl
 |7,_,2,_=>rfl
def alm{zs:List Int}{x:Int}(h:x∈Lib.compact zs):x∈zs:=by
 unfold Lib.compact Lib.compactUpTo at h;simp only[ó,List.mem_filter,ş] at h;obtain⟨j,⟨hj,_⟩,rfl⟩:=h;have:zs.toArray[j]! =zs[j]:=by simp[hj]
 rw[this];exact List.getElem_mem hj
def aln{l:List Cut}{x:Int}(h:x∈jX l):∃c∈l,c.bt=x:=by
 have h1:=alm h;unfold fQ at h1;rw[List.mem_mergeSort] at h1;simpa using h1
def AE(b:eR)(k:Int):Int:=match b.aC[k.toNat]? with
 |some x=>x.aL
 |none=>0
def mV(b:eR)(l:List Int):Int:=(l.map (AE b)).sum
def akx(b:eR)(l:List Int)(k:Int):mV b (l++ [k])=mV b l+AE b k:=by simp[mV]
def Xm{b:eR}(h:∀x∈b.aC,0<=x.aL/\x.aL<=40):∀l:List Int,0<=mV b l/\mV b l<=40 * l.length
 | []=>⟨by simp[mV],by simp[mV]⟩
 |k::l=>by
  have ih:=Xm h l;have:mV b (k::l)=AE b k+mV b l:=by simp[mV]
  rw[this];have h1:0<=AE b k/\AE b k<=40:=by
   unfold AE;cases e:b.aC[k.toNat]? with
   |none=>simp
   |some x=>exact h x (Ϩ e)
  simp only[Ă,Int.natCast_add];omega
def ff:List Cut->List Cut->Int
 | [],[]=>0
 | [],_::_=> -1
 |_::_,[]=>1
 |a::x,c::y=>if fO a c≠0 then fO a c else ff x y
def ME:∀ {i:Nat} {l m:List Cut} {c d:Cut},l[i]?=φ c->m[i]?=φ d->(∀(j:Nat) (c d:Cut),j<i->l[j]?=φ c->m[j]?=φ d->fO c d=0)->fO c d≠0->ff l m=fO c d
 |0,a::l,b::m,c,d,hc,hd,_,h=>by
  simp at hc hd;subst hc;subst hd
  unfold ff;rw[if_pos h]
 |i+1,a::l,b::m,c,d,hc,hd,h0,h=>by
  have:=h0 0 a b (by omega) rfl rfl
  unfold ff;rw[if_neg (by simpa using this)]
  exact ME (i:=i) (by simpa using hc) (by simpa using hd) (λj c d hj hc hd=>h0 (j+1) c d (by omega) (by simpa using hc) (by simpa using hd)) h
 |0,[],_,_,_,hc,_,_,_=>by simp at hc
 |i+1,[],_,_,_,hc,_,_,_=>by simp at hc
 |0,_::_,[],_,_,_,hd,_,_=>by simp at hd
 |i+1,_::_,[],_,_,_,hd,_,_=>by simp at hd
def TE:∀ {l m:List Cut},l.length=m.length->(∀(j:Nat) (c d:Cut),l[j]?=φ c->m[j]?=φ d->fO c d=0)->ff l m=0
 | [],[],_,_=>rfl
 |a::l,b::m,hl,h=>by
  have:=h 0 a b rfl rfl;unfold ff;rw[if_neg (by simpa using this)]
  exact TE (by simpa using hl) λj c d hc hd=>h (j+1) c d (by simpa using hc) (by simpa using hd)
def K3(c:Cut):Prop:=0<=c.bt/\c.bt<=1000/\0<=c.from_/\c.from_<=1000
def ad3{l m:List Cut}{mv:υ}(hl:Row w B 2 Cut.R lv l)(hm:Row w B 2 Cut.R mv m)(hB:B<=w.heap.size)(VI:l.length=m.length)(sl:∀c∈l,K3 c)(sm:∀c∈m,K3 c):
 ύ prog 172 #[lv,mv,.func (.func 173) #[] #[]] w λe w'=>e=Ω (ξ κ (ff l m))/\Γ w.heap.size w w':=by
 obtain⟨A1,n1,c1,rfl,e1,h1,du,r1⟩:=hl.Φ;obtain⟨A2,n2,c2,rfl,e2,h2,ei,r2⟩:=hm.Φ;obtain rfl:n1=n2:=by omega
 unfold ϑ at du ei;have HE:=ψ (Ϗ e1 (Ϗ e2 (Ϗ VI (Ϗ sl sm))));have H1:=ψ r1;have H2:=ψ r2;clear hl hm e1 e2 r1 r2 VI sl sm;go_enter func172,Tryz.ntmps172;go_wp2;go_loopw [13] (λu wr=>∃i:Nat,i<=n1/\u=ξ κ i/\Hid (∀(j:Nat) (c d:Cut),j<i->l[j]?=φ c->m[j]?=φ d->fO c d=0)/\Hid (Γ w.heap.size w wr)) (λu _=>n1 - (ϗ u).toNat)
 case atStart=>exact⟨0,Ϡ _,rfl,ψ (λj c d hj=>by omega),ψ (ώ _ _)⟩
 case round=>
  obtain⟨i,hi,rfl,hz,hb⟩:=hrel;have aN:=hb.e.size;by_cases ao:i<n1
  ·obtain⟨er,c,wT,aeO,B3,hc,rfl,-,NT⟩:=H1.e i ao
   obtain⟨cR,d,ju,DX,gT,hd,rfl,-,fa⟩:=H2.e i ao;subst aeO;subst DX
   have st:Δ B w wr:=Δ.aJ hb.e hB;have g0:=cA NT st B3 rfl;have g1:=bj NT st B3 0 rfl;have f0:=cA fa st gT rfl;have f1:=bj fa st gT 0 rfl;have b1:(er.add (i * 2)).block<wr.heap.size:=by rw[b9];omega
   have b2:(cR.add (i * 2)).block<wr.heap.size:=by rw[b9];omega
   have b2':(cR.add (i * 2)).block<=wr.heap.size:=by omega
   have fh:=HE.e.2.2.2.1 c (Ϩ hc);have EA:=HE.e.2.2.2.2 d (Ϩ hd);have aG:=ψ (λW:Ψ=>less (c:=c) (d:=d) (w:=W) fh.1 EA.1 fh.2.2.1 EA.2.2.1 fh.2.1 EA.2.1 fh.2.2.2 EA.2.2.2)
   have HX:=ψ (Ϗ hc hd);have ky:decide ((i:Int)>=(n1:Int))=χ:=by simp;omega
   clear hc hd NT fa st fh EA;by_cases h0:fO c d=0
   ·go_wp2_with (first
     | (go_at_call 173;refine(aG.e _).mono ?_;rintro e w1 ⟨rfl,ai⟩;have aW:=ψ ((hb.e.trans (((ώ _ _).alloc aN _).alloc (by simp;omega) _)).trans (ai.mono (by simp;omega)));clear ai))
    go_roundw;case rel=>exact⟨i+1,by omega,by go_num,ψ (λj c' d' hj h1 h2=>by
     rcases Æ.1 hj with h|rfl
     ·exact hz.e j c' d' h h1 h2
     ·rw[HX.e.1] at h1;rw[HX.e.2] at h2;cases h1;cases h2;exact h0),aW⟩
    case measure=>simp[ϗ];omega
   ·obtain⟨q,hq⟩:∃q,q=fO c d:=⟨_,rfl⟩
    have HQ:=ψ hq;rw[<-hq] at h0 aG;clear hq;go_wp2_with (first
     | (go_at_call 173;refine(aG.e _).mono ?_;rintro e w1 ⟨rfl,ai⟩;have aW:=ψ ((hb.e.trans (((ώ _ _).alloc aN _).alloc (by simp;omega) _)).trans (ai.mono (by simp;omega)));clear ai))
    go_ret;exact⟨bm (by rw[HQ.e];exact(ME HX.e.1 HX.e.2 hz.e (by rw[<-HQ.e];exact h0)).symm),aW.e⟩
  ·obtain rfl:i=n1:=by omega
   go_wp2;go_ret;exact⟨bm (TE HE.e.2.2.1 (λj c d h1 h2=>hz.e j c d (by have:=(Ϯ.1 h1).1;have:=HE.e.1;omega) h1 h2)).symm,hb.e⟩
def Ug(l:List Int):l.flatMap (λk=> [ξ κ k])=l.map (ξ κ):=by
 induction l with
 |nil=>rfl
 |cons a l ih=>rw[Ġ,List.map_cons,ih];rfl
def CF{base:Nat}{l:List Int}(h:w.ownsRow base e 1 v l.length (l.map (ξ κ))):Row w w.heap.size 1 bI v l:=
 mZ (f:=λk:Int=> [ξ κ k]) (by rw[Ug];exact h) (λ_=>rfl) (λ_ _=>rfl)
def alh{l:List Cut}(ah:aQ w B b pv bv tv)(hl:Row w B 2 Cut.R lv l)(hB:B<=w.heap.size)(zx:l.length<=1000)(hs:∃A n c,sv=ζ A n c)
 (cD:∀c∈l,∃k:Nat,c.bt=k/\k<b.aC.length)(sY:∀x∈b.aC,0<=x.aL/\x.aL<=40):
 ύ prog 236 #[η #[ξ κ b.ab,pv,bv,tv,sv,.map (φ g)],lv] w λe w'=>e=Ω (ξ κ (mV b (jX l)))/\Γ w.heap.size w w':=by
 have aG:=ψ (taken (w:=w.alloc (Ξ #[ξ κ b.ab,pv,bv,tv,sv,.map (φ g)] 151)) (hl.still ((Δ.refl w).alloc hB _) λ_ _ h=>h) (by simp;omega) zx)
 have bD:=ψ ah;obtain⟨A1,n1,c1,rfl,-⟩:=ah.pieces.Φ;obtain⟨A2,n2,c2,rfl,e2,h2,ei,r2⟩:=ah.aC.Φ;obtain⟨A3,n3,c3,rfl,-⟩:=ah.aI.Φ;obtain⟨A4,n4,c4,rfl⟩:=hs;obtain⟨A,n,c,rfl,sV,-⟩:=hl.Φ;unfold ϑ at ei;have nR:(jX l).length<=1000:=by
  unfold jX;have:=TG (fQ (l.map (·.bt)));have h2:(fQ (l.map (·.bt))).length=l.length:=by simp[fQ]
  omega
 have E2:=ψ (Ϗ e2 (Ϗ cD (Ϗ sY nR)));have H2:=ψ r2;clear hl ah e2 r2 cD sY sV nR;go_enter func236,Tryz.ntmps236;go_wp2_with (first
  | (go_at_call 235;refine aG.e.mono ?_;rintro e w1 ⟨u,rfl,aH,ai⟩
     have dE:=CF aH;obtain⟨A9,m9,c9,rfl,dh,kW,fg,jz⟩:=dE.Φ;have mz:=ψ (Ϗ dh jz);have kk:=ψ (Bk.below (g:=w.heap.size) (t:=151) (cs:=#[ξ κ b.ab,ζ A1 n1 c1,ζ A2 n2 c2,ζ A3 n3 c3,ζ A4 n4 c4,.map (φ g)]) (Bk.new w _ _) ai (by simp))
     have aW:=ψ (da (ώ _ _) ai (ϊ _));clear ai aH dE dh jz))
 unfold ϑ at fg;go_loopw [5,11] (λs u wr=>∃i:Nat,i<=m9/\u=ξ κ i/\s=ξ κ (mV b ((jX l).take i))/\wr=w1) (λ_ u _=>m9 - (ϗ u).toNat)
 case atStart=>exact⟨0,Ϡ _,rfl,by simp[mV],rfl⟩
 case round=>
  obtain⟨i,hi,rfl,rfl,rfl⟩:=hrel;have agy:((jX l).take i).length<=1000:=by have:=E2.e.2.2.2;simp;omega
  have hle:=Xm (b:=b) E2.e.2.2.1 ((jX l).take i);obtain⟨S,hS⟩:∃S,S=mV b ((jX l).take i):=⟨_,rfl⟩
  rw[<-hS] at hle |-
  have HS:=ψ hS;have Ii:0<=S:=hle.1;have gS:S<=40000:=by have:=hle.2;omega
  clear hS hle agy;by_cases ao:i<m9
  ·obtain⟨ad,k,cs,lZ,aE,hk,rfl,-,aq⟩:=mz.e.2 i ao
   subst lZ;have g0: wr.cell? (ad.add i)=φ (ξ κ k):=by have:=cA aq (Δ.refl wr) aE (u:=ξ κ k) rfl;rwa[Nat.mul_one] at this
   obtain⟨c0,jS,fV⟩:=aln (Ϩ hk);obtain⟨kn,cP,zU⟩:=E2.e.2.1 c0 jS;obtain rfl:k=kn:=by rw[<-fV,cP]
   have qw:kn<n2:=by have:=E2.e.1;omega
   have rS:(kn:Int)<n2:=by omega
   obtain⟨cR,x,ju,DX,gT,hx,⟨kvv,rfl,dD,-⟩,-,fa⟩:=H2.e kn qw;subst DX;have st:Δ B w wr:=Δ.aJ aW.e hB;have x1: wr.cell? ⟨(cR.add (kn * 3)).block,(cR.add (kn * 3)).off+1,ν⟩=φ (ξ κ x.aL):=bj fa st gT 0 rfl;have p2: wr.cell? ⟨w.heap.size,2,ν⟩=φ (ζ (φ cR) n2 c2):=kk.e.cell 2;have Cx:=E2.e.2.2.1 x (Ϩ hx);have xW:0<=x.aL:=Cx.1;have O6:x.aL<=40:=Cx.2;have HK:=ψ (Ϗ hk hx);clear hk hx aq fa fV cP st dD Cx jS;go_wp2;go_roundw;case rel=>exact⟨i+1,by omega,by go_num,by rw[pT HK.e.1,akx,<-HS.e];unfold AE;simp[HK.e.2],trivial⟩
   case measure=>simp[ϗ];omega
  ·obtain rfl:i=m9:=by omega
   go_wp2;go_ret;exact⟨bm (by rw[HS.e,Ċ (ú mz.e.1)]),aW.e⟩
def J1{b:eR}(hv:Valid b){n:al}{out:Nat->Bool}:∀(f:Nat) (cs full:List Cut),(∀c∈cs,q9 b c)->search b n out f cs=φ full->full.length=cs.length+f/\∀c∈full,q9 b c
 |0,cs,full,h,hs=>by
  unfold search at hs;cases hs;exact⟨rfl,h⟩
 |f+1,cs,full,h,hs=>by
  unfold search at hs;obtain⟨k,hk,hs⟩:=ū hs
  unfold jM at hs;split at hs
  ·cases hs
  ·obtain⟨fr,cq,hs⟩:=ū hs
   unfold jY at hs;split at hs
   ·have kU:k<b.aC.length:=by simpa using hk
    have N9:fr<kF b k:=by simpa using cq
    have hc:q9 b ⟨k,fr⟩:=by
     refine⟨⟨k,rfl,kU⟩,?_⟩
     unfold kF at N9;cases e:b.aC[k]? with
     |none=>simp[e] at N9
     |some x=>
      simp only[e] at N9;have:=(hv.bt x (Ϩ e)).aL;show 0<=(fr:Int)/\(fr:Int)<=40;omega
    have:=J1 hv f (cs++ [⟨k,fr⟩]) full (λc vf=>by
     rcases ĉ.1 vf with h1|h1
     ·exact h c h1
     ·simp at h1;subst h1;exact hc) hs
    refine⟨by rw[this.1];simp;omega,this.2⟩
   ·cases hs
def mF(mI:List Cut->Int)(st:Option (List Cut×Int))(l:List Cut):Option (List Cut×Int):=match st with
 |none=>φ (l,mI l)
 |some (c,m)=>if mI l<m\/(mI l=m/\ff l c<0) then φ (l,mI l) else φ (c,m)
def sH(b:eR)(n:al)(mI:List Cut->Int)(st:Option (List Cut×Int))(m:Nat):Option (List Cut×Int):=match search b n (iG m) b.pieces.length [] with
 |none=>st
 |some l=>mF mI st l
def ga(b:eR)(n:al)(mI:List Cut->Int)(M:Nat):Option (List Cut×Int):=(ε M).foldl (sH b n mI) ν
def pn(b:eR)(n:al)(mI:List Cut->Int)(M:Nat):ga b n mI (M+1)=sH b n mI (ga b n mI M) M:=by simp[ga,Ŭ]
def mr(b:eR)(c:List Cut):Prop:=c.length=b.pieces.length/\∀x∈c,q9 b x
def G8{b:eR}(hv:Valid b){n:al}{mI:List Cut->Int}:∀(M:Nat) (c:List Cut) (m:Int),ga b n mI M=φ (c,m)->mr b c
 |0,c,m,h=>by simp[ga] at h
 |M+1,c,m,h=>by
  rw[pn] at h;unfold sH at h;split at h
  ·exact G8 hv M c m h
  ·rename_i l hl
   have hg:mr b l:=by
    have:=J1 hv _ [] l (by simp) hl
    exact⟨by simpa using this.1,this.2⟩
   unfold mF at h;split at h
   ·simp at h;rw[<-h.1];exact hg
   ·split at h
    ·simp at h;rw[<-h.1];exact hg
    ·rename_i c' m' heq _
     simp at h;rw[<-h.1];exact G8 hv M c' m' heq
def YH(hv:Valid b){c:List Cut}(h:mr b c):∀x∈c,K3 x:=λx hx=>by
 obtain⟨⟨k,hk,eD⟩,h2⟩:=h.2 x hx;have:=hv.nb;exact⟨by omega,by omega,h2.1,by have:=h2.2;omega⟩
def LK(b:eR)(pv bv tv:υ)(KM:Nat)(mI:List Cut->Int)(w:Ψ)(B:Nat):Prop:=
 (∀args w,(callFunc KM args).run prog w=.ok (.enter KM args) w)/\∀(W:Ψ) (sv lv:υ) (g:Nat) (l:List Cut),Δ B w W->B<=W.heap.size->(∃A n c,sv=ζ A n c)->Row W W.heap.size 2 Cut.R lv l->mr b l->
   ύ prog KM #[η #[ξ κ b.ab,pv,bv,tv,sv,.map (φ g)],lv] W λe W'=>e=Ω (ξ κ (mI l))/\Γ W.heap.size W W'
def mD(W:Ψ)(base np:Nat)(st:Option (List Cut×Int))(cv mv fv:υ):Prop:=match st with
 |none=>cv=ζ ν 0 0/\mv=ξ κ 0/\fv=.bool χ
 |some (c,m)=>W.ownsRow base 56 2 cv np (c.flatMap Cut.vs)/\mv=ξ κ m/\fv=.bool θ
def acz(w:Ψ)(b:eR)(st:Option (List Cut×Int))(e:Ň)(w':Ψ):Prop:=
 ∃cv mv fv,e=Ω (μ #[cv,mv,fv,ξ κ 0])/\mD w' w.heap.size b.pieces.length st cv mv fv/\Γ w.heap.size w w'
def aoY(h:n<=3):wrap64 ((2:Int) ^ n)=((2 ^ n:Nat):Int):=by
 match n,h with
 |0,_=>simp[wrap64]
 |1,_=>simp[wrap64]
 |2,_=>simp[wrap64]
 |3,_=>simp[wrap64]
def SU{mI:List Cut->Int}{c l:List Cut}(h:mI l<m\/(mI l=m/\ff l c<0)):mF mI (φ (c,m)) l=φ (l,mI l):=by
 show(if mI l<m\/(mI l=m/\ff l c<0) then φ (l,mI l) else φ (c,m))=_
 rw[if_pos h]
def SS{mI:List Cut->Int}{c l:List Cut}(h:¬ (mI l<m\/(mI l=m/\ff l c<0))):mF mI (φ (c,m)) l=φ (c,m):=by
 show(if mI l<m\/(mI l=m/\ff l c<0) then φ (l,mI l) else φ (c,m))=_
 rw[if_neg h]
def mD.base{W:Ψ}{base fB np:Nat}{st:Option (List Cut×Int)}{cv mv fv:υ}(h:mD W base np st cv mv fv)(hb:fB<=base):mD W fB np st cv mv fv:=by
 unfold mD at h |-
 cases st with
 |none=>exact h
 |some p=>exact⟨World.ownsRow.base h.1 hb,h.2⟩
def CS{base:Nat}{sz:Nat}(h:w.ownsRow base e sz v n xs)(hk:dS w g b)(hg:w.grownBy w' (φ g)):w'.ownsRow base e sz v n xs:=by
 refine⟨h.1,?_⟩
 rcases h.2 with h0| ⟨q,cap,cur,h1,h2,h3,h4⟩
 ·exact .inl h0
 ·obtain⟨es,clock,k1,_⟩:=hk
  exact .inr ⟨q,cap,cur,h1,h2,(hg.block q (ϛ.1 h3).1 (λe=>by cases e;rw[k1] at h3;cases h3)).trans h3,h4⟩
def afR{X:cY}(ok:X.Ok B)(hB:B<=X.w.heap.size)(hk:dS X.w X.gm X.b)(hs:search X.b X.n X.e X.np []=ν):
 ύ prog 170 #[fv 174 #[π (φ ⟨X.gs,0,ν⟩),π (φ ⟨X.go,0,ν⟩),π (φ ⟨X.gn,0,ν⟩)]] X.w λe W'=>e=Ω (μ #[ζ ν 0 0,.bool χ])/\X.w.grownBy W' (φ X.gm)/\dS W' X.gm X.b:=
 (Ud ok hB hk).mono λe W' ⟨h1,h2,h3⟩=>by
   rcases h1 with⟨full,v,k1,_,_⟩ | ⟨_,k2⟩
   ·rw[hs] at k1;cases k1
   ·exact⟨k2,h2,h3⟩
def afS{X:cY}(ok:X.Ok B)(hB:B<=X.w.heap.size)(hk:dS X.w X.gm X.b){full:List Cut}(hs:search X.b X.n X.e X.np []=φ full):
 ύ prog 170 #[fv 174 #[π (φ ⟨X.gs,0,ν⟩),π (φ ⟨X.go,0,ν⟩),π (φ ⟨X.gn,0,ν⟩)]] X.w λe W'=>∃v,e=Ω (μ #[v,.bool θ])/\W'.ownsRow X.w.heap.size 56 2 v X.np (full.flatMap Cut.vs)/\X.w.grownBy W' (φ X.gm)/\dS W' X.gm X.b:=
 (Ud ok hB hk).mono λe W' ⟨h1,h2,h3⟩=>by
   rcases h1 with⟨Ut,v,k1,k2,k3⟩ | ⟨k1,_⟩
   ·rw[hs] at k1;cases k1;exact⟨v,k2,k3,h2,h3⟩
   ·rw[hs] at k1;cases k1
def UC:∀(l:List al),(∀L∈l,L.Ok)->(cB l).Ok:=by
 have key:∀(l:List al) (M:al),M.Ok->(∀L∈l,L.Ok)->(l.foldl (λM x=>iq M x 3) M).Ok:=by
  intro l;induction l with
  |nil=>intro M h _;exact h
  |cons a l ih=>
   intro M h hl;refine ih _ ?_ λL hL=>hl L (by simp[hL])
   have ha:=hl a (by simp)
   have a0:=ha 0;have a1:=ha 1;have a2:=ha 2
   have m0:=h 0;have m1:=h 1;have m2:=h 2
   simp only[al.at] at a0 a1 a2 m0 m1 m2;intro q;unfold al.at iq;by_cases h0:q=0
   ·subst h0;simp at *;split<;>omega
   ·by_cases h1:q=1
    ·subst h1;simp at *;split<;>omega
    ·simp[h0,h1] at *;split<;>omega
 exactλl hl=>key l _ (λq=>by unfold al.at;simp) hl
def CZ(w2:Ψ)(b:eR)(pv bv tv sv:υ)(ps:List al)(gs gn g KO:Nat)(kE:Array υ)(out:Nat->Bool):cY:=
 ⟨w2,b,pv,bv,tv,sv,cB ps,gs,gs+1,gn,g,KO,kE,out,0⟩
def Qq{Wa:Ψ}{ps:List al}{gn:Nat}{out:Nat->Bool}(ah:aQ w2 B b pv bv tv)(hv:Valid b)(vv:∀L∈ps,L.Ok)(nQ:∃A n c,sv=ζ A n c)
 (Nk:B<=g)(IB:g<Wa.heap.size)(k0:Bk w2 Wa.heap.size 151 #[ξ κ b.ab,pv,bv,tv,sv,.map (φ g)])(k1:Bk w2 (Wa.heap.size+1) 158 #[fv KO kE])(k2:Bk w2 gn 128 (cB ps).cs)(xz:Wa.heap.size<=gn)
 (eg:∀args w,(callFunc KO args).run prog w=.ok (.enter KO args) w)(ho:∀(k:Nat) (W:Ψ),k<b.aC.length->w2.grownBy W (φ g)->ύ prog KO (#[ξ κ k]++kE) W λe W'=>e=Ω (.bool (out k))/\Γ W.heap.size W W'):
 (CZ w2 b pv bv tv sv ps Wa.heap.size gn g KO kE out).Ok B:=
 ⟨ah,hv,UC ps vv,nQ,Nk,k0.lt,k1.lt,k2.lt,by show g<w2.heap.size;have:=k0.lt;omega,by show Wa.heap.size≠g;omega,by show Wa.heap.size+1≠g;omega,by show gn≠g;omega,k0,k1,k2,eg,ho⟩
def SW{mI:List Cut->Int}(hB:B<=w.heap.size)(ah:aQ w B b pv bv tv)(hM:LK b pv bv tv KM mI w B)(h:bT b 0=0):
 ύ prog 117 #[η #[ξ κ b.ab,pv,bv,tv],η #[.func (.func KM) #[] #[]]] w (acz w b (ga b (cB (aB b)) mI (2 ^ b.aC.length))):=by
 have st:Δ B w ((w.alloc (Ξ #[ξ κ b.ab,pv,bv,tv] 26)).alloc (Ξ #[.func (.func KM) #[] #[]] 145)):=((Δ.refl w).alloc hB _).alloc (by simp;omega) _
 have aG:=ψ (Qw (w:=((w.alloc (Ξ #[ξ κ b.ab,pv,bv,tv] 26)).alloc (Ξ #[.func (.func KM) #[] #[]] 145))) (B:=B) (by simp;omega) (ah.still st) h)
 have hv:=fG (mX h).1;have HV:=ψ hv;have bD:=ψ ah;have yT:=ψ hM.2;have egM:=hM.1;have eQ:=hv.nb;obtain⟨A1,n1,c1,rfl,-⟩:=ah.pieces.Φ;obtain⟨A2,n2,c2,rfl,e2,h2,ei,-⟩:=ah.aC.Φ;obtain⟨A3,n3,c3,rfl,-⟩:=ah.aI.Φ;have iW:n2<=3:=by omega
 have xQ:=aoY iW;obtain⟨M,Ih⟩:∃M,M=2 ^ n2:=⟨_,rfl⟩
 rw[<-Ih] at xQ;have hM8:M<=8:=by
  rw[Ih];exact Aim (n:=2) (by omega) iW
 have E2:=ψ (Ϗ e2 Ih);clear Ih;unfold ϑ at ei;clear ah hM st h hv eQ e2;go_enter func117,Tryz.ntmps117;go_wp2_with (first
  | (go_at_call 119;refine aG.e.mono ?_;rintro e w1 ⟨sv,g,rfl,aH,cP,hg,ai⟩
     obtain⟨A9,m9,c9,rfl⟩:=iI aH;have kb:=Bk.below (g:=w.heap.size) (t:=26) (cs:=#[ξ κ b.ab,ζ A1 n1 c1,ζ A2 n2 c2,ζ A3 n3 c3]) ((Bk.new w _ _).alloc _) ai (by simp;omega)
     have km:=Bk.below (g:=w.heap.size+1) (t:=145) (cs:=#[.func (.func KM) #[] #[]]) (Bk.bZ (by simp) _ _) ai (by simp)
     have b2: w1.cell? ⟨w.heap.size,2,ν⟩=φ (ζ A2 n2 c2):=kb.cell 2;have aO:w.heap.size+2<=w1.heap.size:=by have:=ai.size;simpa using this
     have aZ:w.heap.size<w1.heap.size:=by omega
     have gw:w.heap.size<=w1.heap.size:=by omega
     have oK:w.heap.size+2<=g:=by simpa using hg
     have aW:Hid (Γ w.heap.size w w1):=ψ ((((ώ _ _).alloc (ϊ _) _).alloc (by simp) _).trans (ai.mono (by simp;omega)))
     have FR:=ψ (Ϗ aH (Ϗ cP (Ϗ kb km)));clear ai aH cP kb km hg))
 obtain⟨G,UL⟩:∃G,G=cB (aB b):=⟨_,rfl⟩
 have HGD:=ψ UL;clear UL;rw[xQ];clear xQ;go_loopw [4,5,6,25] (λc m f u wr=>∃i:Nat,i<=M/\u=ξ κ i/\Hid (mD wr (w1.heap.size+1) b.pieces.length (ga b (cB (aB b)) mI i) c m f)/\Hid ((w1.alloc (Ξ #[ξ κ b.ab,ζ A1 n1 c1,ζ A2 n2 c2,ζ A3 n3 c3,ζ A9 m9 c9,.map (φ g)] 151)).grownBy wr (φ g))/\Hid (dS wr g b)) (λ_ _ _ u _=>M - (ϗ u).toNat)
 case atStart=>exact⟨0,Ϡ _,rfl,ψ (by simp[ga,mD]),ψ (World.grownBy.refl _ _),ψ (FR.e.2.1.grown (ϯ w1 _ ν) (by simp))⟩
 case round=>
  obtain⟨i,hi,rfl,eW,hG,hK⟩:=hrel;have hgw:g<w1.heap.size:=FR.e.2.1.lt;have sd:w1.heap.size+1<=wr.heap.size:=by have:=hG.e.size;simpa using this
  have AB:Bk wr w1.heap.size 151 #[ξ κ b.ab,ζ A1 n1 c1,ζ A2 n2 c2,ζ A3 n3 c3,ζ A9 m9 c9,.map (φ g)]:=(Bk.new w1 _ _).grown hG.e (by simp;omega)
  have r0:=AB.cell 0;have r1:=AB.cell 1;have r2:=AB.cell 2;have r3:=AB.cell 3;have r4:=AB.cell 4;have r5:=AB.cell 5;have V4:fx wr (w.heap.size+2) (ζ A9 m9 c9) (aB b):=by
   have h0:fx w1 (w.heap.size+2) (ζ A9 m9 c9) (aB b):=by have:=FR.e.1;simpa using this
   have h1:=h0.alloc (Ξ #[ξ κ b.ab,ζ A1 n1 c1,ζ A2 n2 c2,ζ A3 n3 c3,ζ A9 m9 c9,.map (φ g)] 151);exact CS h1 (FR.e.2.1.grown (ϯ w1 _ ν) (by simp)) hG.e
  have dE:Row (wr.alloc (Ξ #[ξ κ i] 3)) wr.heap.size 3 al.R (ζ A9 m9 c9) (aB b):=V4.row.still ((Δ.refl wr).alloc (ϊ _) _) λ_ _ h=>h
  clear AB V4;by_cases ao:i<M
  ·have a1:w1.heap.size<wr.heap.size:=by omega
   have a2:w1.heap.size<=wr.heap.size:=by omega
   cases hs:search b (cB (aB b)) (iG i) b.pieces.length [] with
   |none=>
    have NX:Hid (ga b (cB (aB b)) mI (i+1)=ga b (cB (aB b)) mI i):=ψ (by rw[pn];unfold sH;rw[hs])
    go_wp2_with (first
     | (go_at_call 122;refine(ML (B:=wr.heap.size) (ps:=aB b) dE (by simp) ⟨_,_,_,rfl⟩ ⟨_,_,_,rfl⟩ ⟨_,_,_,rfl⟩).mono ?_;rintro e w2 ⟨gn,rfl,k0,k1,k2,xz,an⟩
        have aZ:wr.heap.size+1<=w2.heap.size:=by have:=an.size;simpa using this
        have xy:wr.grownBy w2 (φ g):=(ϯ wr (Ξ #[ξ κ i] 3) _).trans (jQ an (ϊ _) _);have eD:dS w2 g b:=hK.e.grown (row:=ν) ((ϯ wr (Ξ #[ξ κ i] 3) _).trans (jQ an (ϊ _) _)) (by simp)
        have FH:Bk w2 wr.heap.size 3 #[ξ κ i]:=(Bk.new wr _ _).below an (by simp)
        have hX:=Qq (KO:=171) (kE:=#[π (φ ⟨wr.heap.size,0,ν⟩)]) (out:=iG i) (B:=B) (bD.e.still ((Gj ((jQ aW.e (ϊ _) _).trans ((ϯ w1 (Ξ #[ξ κ b.ab,ζ A1 n1 c1,ζ A2 n2 c2,ζ A3 n3 c3,ζ A9 m9 c9,.map (φ g)] 151) _).trans (hG.e.trans xy))) (by omega) hB))) HV.e (wI HV.e) ⟨_,_,_,rfl⟩ (by omega) (by simp;omega) k0 k1 k2 xz call171 (λk W hk ew=>SQ (by omega) (by have:=HV.e.nb;omega) (FH.grown ew (by simp;omega)))
        have zd:=afR hX (by show B<=w2.heap.size;omega) eD hs
        simp only[CZ,Ahx] at zd;have K0:=ψ zd;have wv:=ψ (Ϗ xy eD);clear an k0 k1 k2 xy eD FH hX zd)
     | (go_at_call 170;refine K0.e.mono ?_;rintro e w3 ⟨rfl,xx,jx⟩;have jo:=ψ (Ϗ xx jx);clear xx jx))
    go_roundw;case rel=>exact⟨i+1,by omega,by go_num,ψ (by
     have h0:=eW.e;rw[NX.e];unfold mD at h0 |-
     revert h0
     cases ga b (cB (aB b)) mI i with
     |none=>exact id
     |some p=>
      rintro⟨k1,k2,k3⟩;exact⟨CS (CS k1 hK.out wv.e.1) wv.e.2 jo.e.1,k2,k3⟩),
     ψ (hG.e.trans (wv.e.1.trans jo.e.1)),ψ jo.e.2⟩
    case measure=>simp[ϗ];omega
   |some l=>
    have kA:mr b l:=by
     have:=J1 HV.e _ [] l (by simp) hs
     exact⟨by simpa using this.1,this.2⟩
    have HL:=ψ kA;obtain⟨q,hq⟩:∃q,q=mI l:=⟨_,rfl⟩
    have HQ:=ψ hq;clear kA hq;have NX:Hid (ga b (cB (aB b)) mI (i+1)=mF mI (ga b (cB (aB b)) mI i) l):=ψ (by rw[pn];unfold sH;rw[hs])
    go_wp2_with (first
     | (go_at_call 122;refine(ML (B:=wr.heap.size) (ps:=aB b) dE (by simp) ⟨_,_,_,rfl⟩ ⟨_,_,_,rfl⟩ ⟨_,_,_,rfl⟩).mono ?_;rintro e w2 ⟨gn,rfl,k0,k1,k2,xz,an⟩
        have aZ:wr.heap.size+1<=w2.heap.size:=by have:=an.size;simpa using this
        have xy:wr.grownBy w2 (φ g):=(ϯ wr (Ξ #[ξ κ i] 3) _).trans (jQ an (ϊ _) _);have eD:dS w2 g b:=hK.e.grown (row:=ν) ((ϯ wr (Ξ #[ξ κ i] 3) _).trans (jQ an (ϊ _) _)) (by simp)
        have FH:Bk w2 wr.heap.size 3 #[ξ κ i]:=(Bk.new wr _ _).below an (by simp)
        have hX:=Qq (KO:=171) (kE:=#[π (φ ⟨wr.heap.size,0,ν⟩)]) (out:=iG i) (B:=B) (bD.e.still ((Gj ((jQ aW.e (ϊ _) _).trans ((ϯ w1 (Ξ #[ξ κ b.ab,ζ A1 n1 c1,ζ A2 n2 c2,ζ A3 n3 c3,ζ A9 m9 c9,.map (φ g)] 151) _).trans (hG.e.trans xy))) (by omega) hB))) HV.e (wI HV.e) ⟨_,_,_,rfl⟩ (by omega) (by simp;omega) k0 k1 k2 xz call171 (λk W hk ew=>SQ (by omega) (by have:=HV.e.nb;omega) (FH.grown ew (by simp;omega)))
        have zd:=afS hX (by show B<=w2.heap.size;omega) eD hs
        simp only[CZ,Ahx] at zd;have K0:=ψ zd;have wv:=ψ (Ϗ xy eD);clear an k0 k1 k2 xy eD FH hX zd)
     | (go_at_call 170;refine K0.e.mono ?_;rintro e w3 ⟨v,rfl,vt,xx,jx⟩
        obtain⟨A8,m8,c8,rfl⟩:=iI vt;have Ie:=hG.e.trans (wv.e.1.trans xx);have AD:Bk w3 w1.heap.size 151 #[ξ κ b.ab,ζ A1 n1 c1,ζ A2 n2 c2,ζ A3 n3 c3,ζ A9 m9 c9,.map (φ g)]:=(Bk.new w1 _ _).grown Ie (by simp;omega)
        have Xb:Bk w3 (w.heap.size+1) 145 #[.func (.func KM) #[] #[]]:=(FR.e.2.2.2.alloc (Ξ #[ξ κ b.ab,ζ A1 n1 c1,ζ A2 n2 c2,ζ A3 n3 c3,ζ A9 m9 c9,.map (φ g)] 151)).grown Ie (by simp;omega)
        have s0:=AD.cell 0;have s1:=AD.cell 1;have s2:=AD.cell 2;have s3:=AD.cell 3;have s4:=AD.cell 4;have s5:=AD.cell 5;have t0: w3.cell? ⟨w.heap.size+1,0,ν⟩=φ (.func (.func KM) #[] #[]):=Xb.cell 0;have jo:=ψ (Ϗ xx (Ϗ jx (Ϗ vt Ie)));clear xx jx vt Ie AD Xb))
    have hlen:l.length=b.pieces.length:=HL.e.1;have vt:w3.ownsRow w3.heap.size.pred 56 2 (ζ A8 m8 c8) l.length (l.flatMap Cut.vs)\/True:=.inr trivial;have OS:Row w3 w3.heap.size 2 Cut.R (ζ A8 m8 c8) l:=mZ (by rw[hlen];exact jo.e.2.2.1) (λ_=>rfl) (λ_ _=>rfl)
    have Wn:Δ B w w3:=Gj ((jQ aW.e (ϊ _) _).trans ((ϯ w1 (Ξ #[ξ κ b.ab,ζ A1 n1 c1,ζ A2 n2 c2,ζ A3 n3 c3,ζ A9 m9 c9,.map (φ g)] 151) _).trans jo.e.2.2.2)) (by omega) hB
    have WB:w1.heap.size+1<=w3.heap.size:=by have:=jo.e.2.2.2.size;simpa using this
    have Mv:=yT.e w3 (ζ A9 m9 c9) (ζ A8 m8 c8) g l Wn (by omega) ⟨_,_,_,rfl⟩ OS HL.e
    rw[<-HQ.e] at Mv;clear hlen vt Wn;refine Mv.mono ?_
    rintro e w4 ⟨rfl,cU⟩;have Wd:Row w4 w3.heap.size 2 Cut.R (ζ A8 m8 c8) l:=OS.still (Δ.aJ cU (ϊ _)) λ_ _ h=>h
    have HF:=ψ (Ϗ (jo.e.2.2.2.trans (jQ cU (ϊ _) (φ g))) (jo.e.2.1.below cU jo.e.2.1.lt));have V3:w4.ownsRow (w1.heap.size+1) 56 2 (ζ A8 m8 c8) b.pieces.length (l.flatMap Cut.vs):=(si (CS jo.e.2.2.1 jo.e.2.1 (World.grownBy.refl _ _)) cU (ϊ _)).base (by have:=wv.e.1.size;show w1.heap.size+1<=w2.heap.size;omega)
    have yU:=ψ V3;have ZM:=ψ Wd;have sc:=cU.size;have qI:=eW.e;clear OS Wd V3 Mv;cases fC:ga b (cB (aB b)) mI i with
    |none=>
     rw[fC] at qI;obtain⟨rfl,rfl,rfl⟩:=qI;have rm:Hid (mD w4 (w1.heap.size+1) b.pieces.length (mF mI ν l) (ζ A8 m8 c8) (ξ κ q) (.bool θ)):=ψ ⟨yU.e,by rw[HQ.e],rfl⟩
     clear cU;go_wp2;go_roundw;case rel=>exact⟨i+1,by omega,by go_num,ψ (by rw[NX.e,fC];exact rm.e),ψ HF.e.1,ψ HF.e.2⟩
     case measure=>simp[ϗ];omega
    |some p=>
     obtain⟨c,m⟩:=p;rw[fC] at qI;obtain⟨OL,rfl,rfl⟩:=qI;obtain⟨A7,m7,c7,rfl⟩:=iI OL;have OM:w4.ownsRow (w1.heap.size+1) 56 2 (ζ A7 m7 c7) b.pieces.length (c.flatMap Cut.vs):=si (CS (CS OL hK.out wv.e.1) wv.e.2 jo.e.1) cU (ϊ _);have zT:mr b c:=G8 HV.e i c m fC;have iD:Row w4 w4.heap.size 2 Cut.R (ζ A7 m7 c7) c:=mZ (by rw[zT.1];exact OM) (λ_=>rfl) (λ_ _=>rfl)
     have K2:=ψ (ad3 (ZM.e.more sc) iD (ϊ _) (HL.e.1.trans zT.1.symm) (YH HV.e HL.e) (YH HV.e zT));have R0:=ψ OM;clear cU OL OM zT iD;by_cases h1:q<m
     ·have rm:Hid (mD w4 (w1.heap.size+1) b.pieces.length (mF mI (φ (c,m)) l) (ζ A8 m8 c8) (ξ κ q) (.bool θ)):=ψ (by
       rw[SU (.inl (by rw[<-HQ.e];exact h1))];exact⟨yU.e,by rw[HQ.e],rfl⟩)
      go_wp2;go_roundw;case rel=>exact⟨i+1,by omega,by go_num,ψ (by rw[NX.e,fC];exact rm.e),ψ HF.e.1,ψ HF.e.2⟩
      case measure=>simp[ϗ];omega
     ·by_cases h2:q=m
      ·subst h2
       obtain⟨C,hC⟩:∃C,C=ff l c:=⟨_,rfl⟩
       have HC:=ψ hC;rw[<-hC] at K2;clear hC;by_cases h3:C<0
       ·have rm:∀w5,Γ w4.heap.size w4 w5->Hid (mD w5 (w1.heap.size+1) b.pieces.length (mF mI (φ (c,q)) l) (ζ A8 m8 c8) (ξ κ q) (.bool θ)):=λw5 h5=>ψ (by
           rw[SU (.inr ⟨HQ.e.symm,by rw[<-HC.e];exact h3⟩)];exact⟨si yU.e h5 (ϊ _),by rw[HQ.e],rfl⟩)
        have LB:=ψ rm;clear rm;go_wp2_with (first
           | (go_at_call 172;refine K2.e.mono ?_;rintro e w5 ⟨rfl,dB⟩;have fS:=ψ dB;clear dB))
        go_roundw;case rel=>exact⟨i+1,by omega,by go_num,ψ (by rw[NX.e,fC];exact(LB.e w5 fS.e).e),ψ (HF.e.1.trans (jQ fS.e (ϊ _) _)),ψ (HF.e.2.below fS.e HF.e.2.lt)⟩
        case measure=>simp[ϗ];omega
       ·have rm:∀w5,Γ w4.heap.size w4 w5->Hid (mD w5 (w1.heap.size+1) b.pieces.length (mF mI (φ (c,q)) l) (ζ A7 m7 c7) (ξ κ q) (.bool θ)):=λw5 h5=>ψ (by
           rw[SS (by rw[<-HQ.e,<-HC.e];omega)];exact⟨si R0.e h5 (ϊ _),rfl,rfl⟩)
        have LB:=ψ rm;clear rm;go_wp2_with (first
           | (go_at_call 172;refine K2.e.mono ?_;rintro e w5 ⟨rfl,dB⟩;have fS:=ψ dB;clear dB))
        go_roundw;case rel=>exact⟨i+1,by omega,by go_num,ψ (by rw[NX.e,fC];exact(LB.e w5 fS.e).e),ψ (HF.e.1.trans (jQ fS.e (ϊ _) _)),ψ (HF.e.2.below fS.e HF.e.2.lt)⟩
        case measure=>simp[ϗ];omega
      ·have h4:(q==m)=χ:=by simpa using h2
       have rm:Hid (mD w4 (w1.heap.size+1) b.pieces.length (mF mI (φ (c,m)) l) (ζ A7 m7 c7) (ξ κ m) (.bool θ)):=ψ (by
        rw[SS (by rw[<-HQ.e];omega)];exact⟨R0.e,rfl,rfl⟩)
       go_wp2;go_roundw;case rel=>exact⟨i+1,by omega,by go_num,ψ (by rw[NX.e,fC];exact rm.e),ψ HF.e.1,ψ HF.e.2⟩
       case measure=>simp[ϗ];omega
  ·obtain rfl:i=M:=by omega
   have fS:Hid (Γ w.heap.size w wr):=ψ (aW.e.trans (Ahs ((ώ _ _).alloc (by omega) _) hG.e (by simp;omega) (λk e=>by cases e;omega)))
   go_wp2;refine à (v:=μ #[u4,u5,u6,ξ κ 0]) (by simp[results,Tryz.results117,go_sem]) rfl ?_
   refine⟨u4,u5,u6,rfl,?_,fS.e⟩
   rw[E2.e.1,<-E2.e.2];exact eW.e.base (by omega)
def SV(hB:B<=w.heap.size)(ah:aQ w B b pv bv tv)(h:bT b 0≠0):
 ύ prog 117 #[η #[ξ κ b.ab,pv,bv,tv],η #[.func (.func KM) #[] #[]]] w λe w'=>e=Ω (μ #[ζ ν 0 0,ξ κ 0,.bool χ,ξ κ (bT b 0)])/\Γ w.heap.size w w':=by
 have st:Δ B w ((w.alloc (Ξ #[ξ κ b.ab,pv,bv,tv] 26)).alloc (Ξ #[.func (.func KM) #[] #[]] 145)):=((Δ.refl w).alloc hB _).alloc (by simp;omega) _
 have aG:=ψ (ao0 (w:=((w.alloc (Ξ #[ξ κ b.ab,pv,bv,tv] 26)).alloc (Ξ #[.func (.func KM) #[] #[]] 145))) (B:=B) (by simp;omega) (ah.still st) h)
 unfold YF at aG;obtain⟨s,hs⟩:∃s,s=bT b 0:=⟨_,rfl⟩
 rw[<-hs] at aG h |-
 obtain⟨A1,n1,c1,rfl,-⟩:=ah.pieces.Φ;obtain⟨A2,n2,c2,rfl,-⟩:=ah.aC.Φ;obtain⟨A3,n3,c3,rfl,-⟩:=ah.aI.Φ;clear ah st hs;go_enter func117,Tryz.ntmps117;go_wp2_with (first
  | (go_at_call 119;refine aG.e.mono ?_;rintro e w1 ⟨g,rfl,ai⟩
     have aW:Hid (Γ w.heap.size w w1):=ψ ((((ώ _ _).alloc (ϊ _) _).alloc (by simp) _).trans (ai.mono (by simp;omega)));clear ai))
 refine à (v:=μ #[ζ ν 0 0,ξ κ 0,.bool χ,ξ κ s]) (by simp[results,Tryz.results117,go_sem]) rfl ⟨rfl,?_⟩
 exact aW.e.alloc aW.e.size _
def gF(w:Ψ):Prop:=∃fr,w.heap[0]?=φ (Ξ #[.func (.func 234) #[] #[],.func (.func 236) #[] #[]] 146 fr)
def gF.cell{w:Ψ}(h:gF w)(i:Nat): w.cell? ⟨0,i,ν⟩=(#[.func (.func 234) #[] #[],.func (.func 236) #[] #[]]:Array υ)[i]?:=by
 obtain⟨fr,h⟩:=h;exact cell_of_row w 0 i _ 146 fr h
def gF.lt(h:gF w):0<w.heap.size:=by
 obtain⟨fr,h⟩:=h;exact(ϛ.1 h).1
def gF.below(h:gF w)(hb:Γ B w w')(hB:0<B):gF w':=by
 obtain⟨fr,h⟩:=h;exact⟨fr,(hb.block 0 hB).trans h⟩
def iH(l:List Cut):Int:=(jX l).length
def FO(b:eR)(l:List Cut):Int:=mV b (jX l)
def aju(ah:aQ w B b pv bv tv)(hv:Valid b):LK b pv bv tv 234 iH w B:=by
 refine⟨call234,λW sv lv g l hW hB hs hl hg=>?_⟩
 obtain⟨A1,n1,c1,e1,-⟩:=ah.pieces.Φ;obtain⟨A2,n2,c2,e2,-⟩:=ah.aC.Φ;obtain⟨A3,n3,c3,e3,-⟩:=ah.aI.Φ;exact alg (g:=g) hl (ϊ _) (by have:=hg.1;have:=hv.np;omega) ⟨_,_,_,e1⟩ ⟨_,_,_,e2⟩ ⟨_,_,_,e3⟩ hs
def ajv(ah:aQ w B b pv bv tv)(hv:Valid b):LK b pv bv tv 236 (FO b) w B:=by
 refine⟨call236,λW sv lv g l hW hB hs hl hg=>?_⟩
 have NJ:=ah.still hW;have B8:aQ W W.heap.size b pv bv tv:=⟨NJ.pieces.more hB,(NJ.aC.more hB).still (Δ.refl _) λx cs h=>by obtain⟨kv,h1,h2,h3⟩:=h;exact⟨kv,h1,h2,h3.more hB⟩,(NJ.aI.more hB).still (Δ.refl _) λx cs h=>by obtain⟨kv,h1,h2⟩:=h;exact⟨kv,h1,h2.more hB⟩⟩
 exact alh (g:=g) B8 hl (ϊ _) (by have:=hg.1;have:=hv.np;omega) hs (λc hc=>(hg.2 c hc).bt) λx hx=>by have:=(hv.bt x hx).aL;omega
def iR(b:eR)(mI:List Cut->Int):Option (List Cut×Int):=if bT b 0=0 then ga b (cB (aB b)) mI (2 ^ b.aC.length) else ν
def GI(w:Ψ)(b:eR)(mI:List Cut->Int)(e:Ň)(w':Ψ):Prop:=
 ∃cv mv fv,e=Ω (μ #[cv,mv,fv,ξ κ (bT b 0)])/\mD w' w.heap.size b.pieces.length (iR b mI) cv mv fv/\Γ w.heap.size w w'
def Hq(hB:B<=w.heap.size)(ah:aQ w B b pv bv tv)(hg:gF w):
 ύ prog 33 #[η #[ξ κ b.ab,pv,bv,tv]] w (GI w b iH):=by
 have st:Δ B w (w.alloc (Ξ #[ξ κ b.ab,pv,bv,tv] 26)):=(Δ.refl w).alloc hB _;have call:ύ prog 117 #[η #[ξ κ b.ab,pv,bv,tv],η #[.func (.func 234) #[] #[]]] (w.alloc (Ξ #[ξ κ b.ab,pv,bv,tv] 26)) λe w'=>
  ∃cv mv fv,e=Ω (μ #[cv,mv,fv,ξ κ (bT b 0)])/\Hid (mD w' w.heap.size b.pieces.length (iR b iH) cv mv fv/\Γ w.heap.size w w'):=by
  by_cases h:bT b 0=0
  ·refine(SW (w:=w.alloc (Ξ #[ξ κ b.ab,pv,bv,tv] 26)) (B:=B) (KM:=234) (by simp;omega) (ah.still st) (aju (ah.still st) (fG (mX h).1)) h).mono ?_
   rintro e w' ⟨cv,mv,fv,rfl,h1,h2⟩;refine⟨cv,mv,fv,by rw[h],ψ ⟨?_,da (ώ _ _) h2 (ϊ _)⟩⟩
   unfold iR;rw[if_pos h];exact h1.base (by simp)
  ·refine(SV (w:=w.alloc (Ξ #[ξ κ b.ab,pv,bv,tv] 26)) (B:=B) (KM:=234) (by simp;omega) (ah.still st) h).mono ?_
   rintro e w' ⟨rfl,h2⟩;refine⟨_,_,_,rfl,ψ ⟨?_,da (ώ _ _) h2 (ϊ _)⟩⟩
   unfold iR;rw[if_neg h];exact⟨rfl,rfl,rfl⟩
 have aG:=ψ call;obtain⟨s,hs⟩:∃s,s=bT b 0:=⟨_,rfl⟩
 rw[<-hs] at aG;have HS:=ψ hs;obtain⟨A1,n1,c1,rfl,-⟩:=ah.pieces.Φ;obtain⟨A2,n2,c2,rfl,-⟩:=ah.aC.Φ;obtain⟨A3,n3,c3,rfl,-⟩:=ah.aI.Φ;have g0: w.cell? ⟨0,0,ν⟩=φ (.func (.func 234) #[] #[]):=gF.cell hg 0;have h0:0<w.heap.size:=gF.lt hg;clear ah st hg call hs;go_enter func33,Tryz.ntmps33;go_wp2_with (first
  | (go_at_call 117;refine aG.e.mono ?_;rintro e w1 ⟨cv,mv,fv,rfl,Ai⟩))
 refine à (v:=μ #[cv,mv,fv,ξ κ s]) (by simp[results,Tryz.results33,go_sem]) rfl ⟨cv,mv,fv,by rw[HS.e],Ai.e.1,Ai.e.2⟩
def ao1(hB:B<=w.heap.size)(ah:aQ w B b pv bv tv)(hg:gF w):
 ύ prog 36 #[η #[ξ κ b.ab,pv,bv,tv]] w (GI w b (FO b)):=by
 have st:Δ B w (w.alloc (Ξ #[ξ κ b.ab,pv,bv,tv] 26)):=(Δ.refl w).alloc hB _;have call:ύ prog 117 #[η #[ξ κ b.ab,pv,bv,tv],η #[.func (.func 236) #[] #[]]] (w.alloc (Ξ #[ξ κ b.ab,pv,bv,tv] 26)) λe w'=>
  ∃cv mv fv,e=Ω (μ #[cv,mv,fv,ξ κ (bT b 0)])/\Hid (mD w' w.heap.size b.pieces.length (iR b (FO b)) cv mv fv/\Γ w.heap.size w w'):=by
  by_cases h:bT b 0=0
  ·refine(SW (w:=w.alloc (Ξ #[ξ κ b.ab,pv,bv,tv] 26)) (B:=B) (KM:=236) (by simp;omega) (ah.still st) (ajv (ah.still st) (fG (mX h).1)) h).mono ?_
   rintro e w' ⟨cv,mv,fv,rfl,h1,h2⟩;refine⟨cv,mv,fv,by rw[h],ψ ⟨?_,da (ώ _ _) h2 (ϊ _)⟩⟩
   unfold iR;rw[if_pos h];exact h1.base (by simp)
  ·refine(SV (w:=w.alloc (Ξ #[ξ κ b.ab,pv,bv,tv] 26)) (B:=B) (KM:=236) (by simp;omega) (ah.still st) h).mono ?_
   rintro e w' ⟨rfl,h2⟩;refine⟨_,_,_,rfl,ψ ⟨?_,da (ώ _ _) h2 (ϊ _)⟩⟩
   unfold iR;rw[if_neg h];exact⟨rfl,rfl,rfl⟩
 have aG:=ψ call;obtain⟨s,hs⟩:∃s,s=bT b 0:=⟨_,rfl⟩
 rw[<-hs] at aG;have HS:=ψ hs;obtain⟨A1,n1,c1,rfl,-⟩:=ah.pieces.Φ;obtain⟨A2,n2,c2,rfl,-⟩:=ah.aC.Φ;obtain⟨A3,n3,c3,rfl,-⟩:=ah.aI.Φ;have g0: w.cell? ⟨0,1,ν⟩=φ (.func (.func 236) #[] #[]):=gF.cell hg 1;have h0:0<w.heap.size:=gF.lt hg;clear ah st hg call hs;go_enter func36,Tryz.ntmps36;go_wp2_with (first
  | (go_at_call 117;refine aG.e.mono ?_;rintro e w1 ⟨cv,mv,fv,rfl,Ai⟩))
 refine à (v:=μ #[cv,mv,fv,ξ κ s]) (by simp[results,Tryz.results36,go_sem]) rfl ⟨cv,mv,fv,by rw[HS.e],Ai.e.1,Ai.e.2⟩
def MS{xs ys:List α}(hl:xs.length=ys.length)(h:∀(j:Nat) (x:α),j<xs.length->xs[j]?=φ x->ys[j]?=φ x):xs=ys:=by
 apply List.ext_getElem?;intro j;by_cases hj:j<xs.length
 ·rw[Ã hj,h j _ hj (Ã hj)]
 ·rw[Aib (by omega),Aib (by omega)]
def D4{xs ys:List Int}(ha:Row w B 1 bI av xs)(hb:Row w B 1 bI bv ys)(hB:B<=w.heap.size):
 ύ prog 30 #[av,bv] w λe w'=>e=Ω (.bool (decide (xs=ys)))/\Γ w.heap.size w w':=by
 obtain⟨A1,n,c1,rfl,e1,h1,du,r1⟩:=ha.Φ;obtain⟨A2,m,c2,rfl,e2,h2,ei,r2⟩:=hb.Φ;unfold ϑ at du ei;have E:=ψ (Ϗ e1 e2);have R1:=ψ r1;have R2:=ψ r2;clear ha hb e1 e2 r1 r2;by_cases iB:n=m
 ·subst iB
  have hq:((n:Int) !=(n:Int))=χ:=by simp
  go_enter func30,Tryz.ntmps30;go_wp2;go_loopw [4,5] (λr k wr=>∃i:Nat,i<=n/\k=ξ κ i/\Hid (∀(j:Nat) (x:Int),j<i->xs[j]?=φ x->ys[j]?=φ x)/\Hid (Γ w.heap.size w wr)) (λ_ k _=>n - (ϗ k).toNat)
  case atStart=>exact⟨0,Ϡ _,rfl,ψ λj _ hj=>by omega,ψ (ώ _ _)⟩
  case round=>
   obtain⟨i,hi,rfl,bS,dk⟩:=hrel;have st:Δ B w wr:=Δ.aJ dk.e hB;have aN:=dk.e.size;by_cases ao:i<n
   ·obtain⟨ad,x,cs,rfl,aE,hx,rfl,-,aq⟩:=R1.e i ao
    obtain⟨cR,y,ju,rfl,gT,hy,rfl,-,fa⟩:=R2.e i ao;have h0:=cA aq st aE rfl;have Nd:=cA fa st gT rfl;rw[Nat.mul_one] at h0 Nd;have q0:(ad.add i).block<wr.heap.size:=by rw[b9];omega
    have X4:(cR.add i).block<wr.heap.size:=by rw[b9];omega
    have HX:=ψ (Ϗ hx hy);clear hx hy aq fa;by_cases hxy:x=y
    ·have aw:(x !=y)=χ:=by simp[hxy]
     have rn:=ψ hxy;clear hxy;go_wp2;go_quiet (fail);go_wp2;go_roundw;case rel=>exact⟨i+1,by omega,by go_num,ψ λj z hj hz=>by
      rcases Æ.1 hj with h|rfl
      ·exact bS.e j z h hz
      ·rw[HX.e.1] at hz;cases hz;rw[HX.e.2,rn.e],ψ (jr dk.e _)⟩
     case measure=>simp[ϗ];omega
    ·have aw:(x !=y)=θ:=by simpa using hxy
     have rn:=ψ hxy;clear hxy;go_wp2;go_quiet (fail);go_wp2;go_ret;refine⟨bU ?_,jr dk.e _⟩
     simp only[Ž,decide_eq_false_iff_not];rintro rfl;have:=HX.e.1.symm.trans HX.e.2;exact rn.e (Ϟ this)
   ·obtain rfl:i=n:=by omega
    go_wp2;go_ret;refine⟨bU ?_,dk.e⟩
    have:=MS (xs:=xs) (ys:=ys) (by rw[E.e.1,E.e.2]) λj x hj hx=>bS.e j x (by rw[E.e.1] at hj;exact hj) hx
    simp[this]
 ·have hq:((n:Int) !=(m:Int))=θ:=by simp;omega
  have HQ:=ψ iB;clear iB;go_enter func30,Tryz.ntmps30;go_wp2;go_ret;refine⟨bU ?_,ώ _ _⟩
  simp only[Ž,decide_eq_false_iff_not];rintro rfl;exact HQ.e (E.e.1.symm.trans E.e.2)
def YW:Tryz.prog.stoodInHeld 37=χ:=by decide+kernel
def apA:Tryz.prog.stoodInHeld 56=χ:=by decide+kernel
def agt:Tryz.prog.eqGuardType Tryz.prog.depth 37=χ:=by decide+kernel
def agu:Tryz.prog.eqGuardType Tryz.prog.depth 56=χ:=by decide+kernel
def ae0(w:Ψ)(a b c d:Int):(Op.equalIn 10000 37 (η #[ξ κ a,ξ κ b]) (η #[ξ κ c,ξ κ d])).run prog w=.ok (a==c && b==d) w:=by
 have hu:=U Tryz.underlying37;rw[run_equalIn_struct w 9999 37 _ _ (by simp[ň,hu]) (by rw[Kd];exact YW)]
 have h3:=U Tryz.underlying3;have hf:(prog.fieldsOf 37).toList=[{name:= "Low",type:=3,offset:=0,embedded:=χ,tag:= "",pkgPath:= "",byteOffset:=0},{name:= "High",type:=3,offset:=1,embedded:=χ,tag:= "",pkgPath:= "",byteOffset:=8}]:=by simp[ň,hu]
 rw[hf];cases h1:(a==c)<;>cases h2:(b==d)<;>simp[Op.eqFields,go_sem,h1,h2,run_equalIn_int,h3]
def ae2(w:Ψ)(a b c d:Int):(Op.equalIn 10000 56 (η #[ξ κ a,ξ κ b]) (η #[ξ κ c,ξ κ d])).run prog w=.ok (a==c && b==d) w:=by
 have hu:=U Tryz.underlying56;rw[run_equalIn_struct w 9999 56 _ _ (by simp[ň,hu]) (by rw[Kd];exact apA)]
 have h3:=U Tryz.underlying3;have hf:(prog.fieldsOf 56).toList=[{name:= "Board",type:=3,offset:=0,embedded:=χ,tag:= "",pkgPath:= "",byteOffset:=0},{name:= "From",type:=3,offset:=1,embedded:=χ,tag:= "",pkgPath:= "",byteOffset:=8}]:=by simp[ň,hu]
 rw[hf];cases h1:(a==c)<;>cases h2:(b==d)<;>simp[Op.eqFields,go_sem,h1,h2,run_equalIn_int,h3]
def PW(w:Ψ)(a b c d:Int):(binOp .neq 37 (η #[ξ κ a,ξ κ b]) (η #[ξ κ c,ξ κ d])).run prog w=.ok (.bool (!(a==c && b==d))) w:=by
 rw[run_neq_struct,ae0];rfl
def Xy(w:Ψ)(a b c d:Int):(binOp .neq 56 (η #[ξ κ a,ξ κ b]) (η #[ξ κ c,ξ κ d])).run prog w=.ok (.bool (!(a==c && b==d))) w:=by
 rw[run_neq_struct,ae2];rfl
def M8(w:Ψ)(op:BinOp)(x y:Ë)(xs ys:Array υ):(eqGuard op 37 x y (.agg xs) (.agg ys)).run prog w=.ok () w:=run_eqGuard_agg w op 37 x y xs ys (by simpa using agt)
def Uw(w:Ψ)(op:BinOp)(x y:Ë)(xs ys:Array υ):(eqGuard op 56 x y (.agg xs) (.agg ys)).run prog w=.ok () w:=run_eqGuard_agg w op 56 x y xs ys (by simpa using agu)
def T1{xs ys:List Span}(ha:Row w B 2 Span.R av xs)(hb:Row w B 2 Span.R bv ys)(hB:B<=w.heap.size):
 ύ prog 75 #[av,bv] w λe w'=>e=Ω (.bool (decide (xs=ys)))/\Γ w.heap.size w w':=by
 obtain⟨A1,n,c1,rfl,e1,h1,du,r1⟩:=ha.Φ;obtain⟨A2,m,c2,rfl,e2,h2,ei,r2⟩:=hb.Φ;unfold ϑ at du ei;have E:=ψ (Ϗ e1 e2);have R1:=ψ r1;have R2:=ψ r2;clear ha hb e1 e2 r1 r2;by_cases iB:n=m
 ·subst iB
  have hq:((n:Int) !=(n:Int))=χ:=by simp
  have qn:=PW;have qg:=M8;go_enter func75,Tryz.ntmps75;go_wp2;go_loopw [4,5] (λr k wr=>∃i:Nat,i<=n/\k=ξ κ i/\Hid (∀(j:Nat) (x:Span),j<i->xs[j]?=φ x->ys[j]?=φ x)/\Hid (Γ w.heap.size w wr)) (λ_ k _=>n - (ϗ k).toNat)
  case atStart=>exact⟨0,Ϡ _,rfl,ψ λj _ hj=>by omega,ψ (ώ _ _)⟩
  case round=>
   obtain⟨i,hi,rfl,bS,dk⟩:=hrel;have st:Δ B w wr:=Δ.aJ dk.e hB;have aN:=dk.e.size;by_cases ao:i<n
   ·obtain⟨ad,x,cs,rfl,aE,hx,rfl,-,aq⟩:=R1.e i ao
    obtain⟨cR,y,ju,rfl,gT,hy,rfl,-,fa⟩:=R2.e i ao;have h0:=cA aq st aE rfl;have h1c:=bj aq st aE 0 rfl;have Nd:=cA fa st gT rfl;have agA:=bj fa st gT 0 rfl;have q0:(ad.add (i * 2)).block<wr.heap.size:=by rw[b9];omega
    have X4:(cR.add (i * 2)).block<wr.heap.size:=by rw[b9];omega
    have HX:=ψ (Ϗ hx hy);clear hx hy aq fa;by_cases hxy:x=y
    ·have aw:(x.lo==y.lo && x.hi==y.hi)=θ:=by simp[hxy]
     have rn:=ψ hxy;clear hxy;go_wp2;go_quiet (fail);go_wp2;go_roundw;case rel=>exact⟨i+1,by omega,by go_num,ψ λj z hj hz=>by
      rcases Æ.1 hj with h|rfl
      ·exact bS.e j z h hz
      ·rw[HX.e.1] at hz;cases hz;rw[HX.e.2,rn.e],ψ (jr dk.e _)⟩
     case measure=>simp[ϗ];omega
    ·have aw:(x.lo==y.lo && x.hi==y.hi)=χ:=by
      rw[Ag7];intro h;simp only[ϩ,beq_iff_eq] at h;exact hxy (by cases x;cases y;simp_all)
     have rn:=ψ hxy;clear hxy;go_wp2;go_quiet (fail);go_wp2;go_ret;refine⟨bU ?_,jr dk.e _⟩
     simp only[Ž,decide_eq_false_iff_not];rintro rfl;have:=HX.e.1.symm.trans HX.e.2;exact rn.e (Ϟ this)
   ·obtain rfl:i=n:=by omega
    go_wp2;go_ret;refine⟨bU ?_,dk.e⟩
    have:=MS (xs:=xs) (ys:=ys) (by rw[E.e.1,E.e.2]) λj x hj hx=>bS.e j x (by rw[E.e.1] at hj;exact hj) hx
    simp[this]
 ·have hq:((n:Int) !=(m:Int))=θ:=by simp;omega
  have HQ:=ψ iB;clear iB;have qn:=PW;have qg:=M8;go_enter func75,Tryz.ntmps75;go_wp2;go_ret;refine⟨bU ?_,ώ _ _⟩
  simp only[Ž,decide_eq_false_iff_not];rintro rfl;exact HQ.e (E.e.1.symm.trans E.e.2)
def Qo{xs ys:List Cut}(ha:Row w B 2 Cut.R av xs)(hb:Row w B 2 Cut.R bv ys)(hB:B<=w.heap.size):
 ύ prog 35 #[av,bv] w λe w'=>e=Ω (.bool (decide (xs=ys)))/\Γ w.heap.size w w':=by
 obtain⟨A1,n,c1,rfl,e1,h1,du,r1⟩:=ha.Φ;obtain⟨A2,m,c2,rfl,e2,h2,ei,r2⟩:=hb.Φ;unfold ϑ at du ei;have E:=ψ (Ϗ e1 e2);have R1:=ψ r1;have R2:=ψ r2;clear ha hb e1 e2 r1 r2;by_cases iB:n=m
 ·subst iB
  have hq:((n:Int) !=(n:Int))=χ:=by simp
  have qn:=Xy;have qg:=Uw;go_enter func35,Tryz.ntmps35;go_wp2;go_loopw [4,5] (λr k wr=>∃i:Nat,i<=n/\k=ξ κ i/\Hid (∀(j:Nat) (x:Cut),j<i->xs[j]?=φ x->ys[j]?=φ x)/\Hid (Γ w.heap.size w wr)) (λ_ k _=>n - (ϗ k).toNat)
  case atStart=>exact⟨0,Ϡ _,rfl,ψ λj _ hj=>by omega,ψ (ώ _ _)⟩
  case round=>
   obtain⟨i,hi,rfl,bS,dk⟩:=hrel;have st:Δ B w wr:=Δ.aJ dk.e hB;have aN:=dk.e.size;by_cases ao:i<n
   ·obtain⟨ad,x,cs,rfl,aE,hx,rfl,-,aq⟩:=R1.e i ao
    obtain⟨cR,y,ju,rfl,gT,hy,rfl,-,fa⟩:=R2.e i ao;have h0:=cA aq st aE rfl;have h1c:=bj aq st aE 0 rfl;have Nd:=cA fa st gT rfl;have agA:=bj fa st gT 0 rfl;have q0:(ad.add (i * 2)).block<wr.heap.size:=by rw[b9];omega
    have X4:(cR.add (i * 2)).block<wr.heap.size:=by rw[b9];omega
    have HX:=ψ (Ϗ hx hy);clear hx hy aq fa;by_cases hxy:x=y
    ·have aw:(x.bt==y.bt && x.from_==y.from_)=θ:=by simp[hxy]
     have rn:=ψ hxy;clear hxy;go_wp2;go_quiet (fail);go_wp2;go_roundw;case rel=>exact⟨i+1,by omega,by go_num,ψ λj z hj hz=>by
      rcases Æ.1 hj with h|rfl
      ·exact bS.e j z h hz
      ·rw[HX.e.1] at hz;cases hz;rw[HX.e.2,rn.e],ψ (jr dk.e _)⟩
     case measure=>simp[ϗ];omega
    ·have aw:(x.bt==y.bt && x.from_==y.from_)=χ:=by
      rw[Ag7];intro h;simp only[ϩ,beq_iff_eq] at h;exact hxy (by cases x;cases y;simp_all)
     have rn:=ψ hxy;clear hxy;go_wp2;go_quiet (fail);go_wp2;go_ret;refine⟨bU ?_,jr dk.e _⟩
     simp only[Ž,decide_eq_false_iff_not];rintro rfl;have:=HX.e.1.symm.trans HX.e.2;exact rn.e (Ϟ this)
   ·obtain rfl:i=n:=by omega
    go_wp2;go_ret;refine⟨bU ?_,dk.e⟩
    have:=MS (xs:=xs) (ys:=ys) (by rw[E.e.1,E.e.2]) λj x hj hx=>bS.e j x (by rw[E.e.1] at hj;exact hj) hx
    simp[this]
 ·have hq:((n:Int) !=(m:Int))=θ:=by simp;omega
  have HQ:=ψ iB;clear iB;have qn:=Xy;have qg:=Uw;go_enter func35,Tryz.ntmps35;go_wp2;go_ret;refine⟨bU ?_,ώ _ _⟩
  simp only[Ž,decide_eq_false_iff_not];rintro rfl;exact HQ.e (E.e.1.symm.trans E.e.2)
def CQ(w:Ψ)(n:Int):ύ prog 50 #[ξ κ n] w λe w'=>e=Ω (η #[ξ κ n,ξ κ n])/\w'=w.alloc (Ξ #[ξ κ n,ξ κ n] 37):=by
 go_enter func50,Tryz.ntmps50;go_wp2;refine à (v:=η #[ξ κ n,ξ κ n]) (by simp[results,Tryz.results50,go_sem]) rfl ⟨rfl,rfl⟩
def QP(w:Ψ)(a b:Int):ύ prog 67 #[ξ κ a,ξ κ b] w λe w'=>e=Ω (η #[ξ κ a,ξ κ b])/\w'=w.alloc (Ξ #[ξ κ a,ξ κ b] 37):=by
 go_enter func67,Tryz.ntmps67;go_wp2;refine à (v:=η #[ξ κ a,ξ κ b]) (by simp[results,Tryz.results67,go_sem]) rfl ⟨rfl,rfl⟩
def dt(w:Ψ)(a b:Int):ύ prog 66 #[ξ κ a,ξ κ b] w λe w'=>e=Ω (η #[ξ κ a,ξ κ b])/\w'=w.alloc (Ξ #[ξ κ a,ξ κ b] 56):=by
 go_enter func66,Tryz.ntmps66;go_wp2;refine à (v:=η #[ξ κ a,ξ κ b]) (by simp[results,Tryz.results66,go_sem]) rfl ⟨rfl,rfl⟩
def ael(w:Ψ):ύ prog 95 #[] w λe w'=>∃g,e=Ω (ζ (φ ⟨g,0,ν⟩) 3 3)/\w.heap.size<=g/\Bk w' g 56 #[ξ κ 1,ξ κ 0,ξ κ 0,ξ κ 0,ξ κ 0,ξ κ 4]/\Γ w.heap.size w w':=by
 go_enter func95,Tryz.ntmps95;go_wp2_with (first
  | (go_at_call 66;refine(dt _ _ _).mono ?_;rintro e w1 ⟨rfl,rfl⟩))
 go_ret;refine⟨w.heap.size+1+1+1,rfl,by omega,Bk.bZ (by simp) _ _,?_⟩
 exact((((ώ _ _).alloc (ϊ _) _).alloc (by simp) _).alloc (by simp;omega) _).alloc (by simp;omega) _
def Js:ByteArray:={data:=#[107,101,101,108]}
def Jt:ByteArray:={data:=#[114,105,98]}
def Jr:ByteArray:={data:=#[97,114,109]}
def SY:ByteArray:={data:=#[101,108,109]}
def FU:ByteArray:={data:=#[111,97,107]}
structure yQ(w:Ψ)(base gp gb gk gt gl:Nat):Prop where
 p:Bk w gp 72 #[.string Js,ξ κ 4,ξ κ 5,ξ κ 0,.string Jt,ξ κ 3,ξ κ 3,ξ κ 1,.string Jr,ξ κ 2,ξ κ 3,ξ κ 0]
 b:Bk w gb 59 #[.string SY,ξ κ 8,ζ (φ ⟨gk,0,ν⟩) 1 1,.string FU,ξ κ 6,ζ ν 0 0]
 k:Bk w gk 37 #[ξ κ 3,ξ κ 3]
 t:Bk w gt 95 #[ζ (φ ⟨gl,0,ν⟩) 2 2,ξ κ 7,ξ κ 7]
 l:Bk w gl 3 #[ξ κ 0,ξ κ 2]
 hp:base<=gp
 hb:base<=gb
 hk:base<=gk
 ht:base<=gt
 hl:base<=gl
def afn(w:Ψ)(e:Ň)(w':Ψ):Prop:=
 ∃gp gb gk gt gl,e=Ω (η #[ξ κ 1,ζ (φ ⟨gp,0,ν⟩) 3 3,ζ (φ ⟨gb,0,ν⟩) 2 2,ζ (φ ⟨gt,0,ν⟩) 1 1])/\yQ w' w.heap.size gp gb gk gt gl/\Γ w.heap.size w w'
def afx(w:Ψ):ύ prog 94 #[] w (afn w):=by
 go_enter func94,Tryz.ntmps94;go_wp2_with (first
  | (go_at_call 67;refine(QP _ _ _).mono ?_;rintro e w1 ⟨rfl,rfl⟩)
  | (go_at_call 50;refine(CQ _ _).mono ?_;rintro e w1 ⟨rfl,rfl⟩))
 refine à (v:=η #[ξ κ 1,ζ (φ ⟨w.heap.size+1+1+1+1,0,ν⟩) 3 3,ζ (φ ⟨w.heap.size+1+1+1+1+1+1+1,0,ν⟩) 2 2,ζ (φ ⟨w.heap.size+1+1+1+1+1+1+1+1+1+1,0,ν⟩) 1 1]) (by simp[results,Tryz.results94,go_sem]) rfl ?_
 refine⟨_,_,w.heap.size+1+1+1+1+1+1,_,w.heap.size+1+1+1+1+1+1+1+1,rfl,⟨?_,?_,?_,?_,?_,by omega,by omega,by omega,by omega,by omega⟩,?_⟩
 ·repeat first|exact Bk.bZ (by simp) _ _|refine Bk.alloc ?_ _
 ·repeat first|exact Bk.bZ (by simp) _ _|refine Bk.alloc ?_ _
 ·repeat first|exact Bk.bZ (by simp) _ _|refine Bk.alloc ?_ _
 ·repeat first|exact Bk.bZ (by simp) _ _|refine Bk.alloc ?_ _
 ·repeat first|exact Bk.bZ (by simp) _ _|refine Bk.alloc ?_ _
 ·repeat first|exact ώ _ _|refine ũ ?_ (by simp;try omega) _
def bg:eR:=⟨1,[⟨Js,⟨4,5⟩,0⟩,⟨Jt,⟨3,3⟩,1⟩,⟨Jr,⟨2,3⟩,0⟩],[⟨SY,8,[⟨3,3⟩]⟩,⟨FU,6,[]⟩],[⟨[0,2],⟨7,7⟩⟩]⟩
def ea:List Cut:=[⟨1,0⟩,⟨0,0⟩,⟨0,4⟩]
def AS{sz e:Nat}{R:α->List υ->Prop}{xs:List α}{qk:List (List υ)}(hb:Bk w g e cs)(hg:g<B)(aw:xs≠ [])(hlen:qk.length=xs.length)(hx:xs.length<=1000)
 (hR:∀(i:Nat) (x:α) (c:List υ),xs[i]?=φ x->qk[i]?=φ c->R x c/\c.length=sz)(hc:∀(i:Nat) (c:List υ),qk[i]?=φ c->∀(j:Nat) (u:υ),c[j]?=φ u->cs[i * sz+j]?=φ u)(NS:xs.length<=c)(oI:c<=1000):Row w B sz R (ζ (φ ⟨g,0,ν⟩) xs.length c) xs:=by
 refine⟨_,c,rfl,NS,by unfold ϑ;omega,λ_=>⟨⟨g,0,ν⟩,rfl,hg,λi x hi=>?_⟩⟩
 have xF:i<xs.length:=(Ϯ.1 hi).1
 obtain⟨c,UZ⟩:∃c,qk[i]?=φ c:=⟨qk[i]'(by omega),Ã _⟩
 obtain⟨h1,h2⟩:=hR i x c hi UZ;refine⟨c,h1,h2,λj u hu=>?_⟩
 have:=hc i c UZ j u hu;rw[kP];unfold World.cell?;rw[show w.heap[(⟨g,i * sz+j,ν⟩:Addr).block]?=φ (.cells cs e) from hb]
 simpa using this
def l8{base gp gb gk gt gl:Nat}(h:yQ w base gp gb gk gt gl):aQ w w.heap.size bg (ζ (φ ⟨gp,0,ν⟩) 3 3) (ζ (φ ⟨gb,0,ν⟩) 2 2) (ζ (φ ⟨gt,0,ν⟩) 1 1):=by
 have hk:Row w w.heap.size 2 Span.R (ζ (φ ⟨gk,0,ν⟩) 1 1) [⟨3,3⟩]:=AS (xs:=[(⟨3,3⟩:Span)]) (sz:=2) (R:=Span.R) (qk:=[[ξ κ 3,ξ κ 3]]) h.k h.k.lt (by simp) rfl (by simp) (λi x c hx hc=>by
  match i with
  |0=>cases hx;cases hc;exact⟨rfl,rfl⟩
  |i+1=>simp at hx) (λi c hc j u hu=>by
  match i with
  |0=>
   cases hc;match j with
   |0=>exact hu
   |1=>exact hu
   |j+2=>simp at hu
  |i+1=>simp at hc) (c:=1) (by simp) (by omega)
 have hl:Row w w.heap.size 1 bI (ζ (φ ⟨gl,0,ν⟩) 2 2) [0,2]:=AS (xs:=[(0:Int),2]) (sz:=1) (R:=bI) (qk:=[[ξ κ 0],[ξ κ 2]]) h.l h.l.lt (by simp) rfl (by simp) (λi x c hx hc=>by
  match i with
  |0=>cases hx;cases hc;exact⟨rfl,rfl⟩
  |1=>cases hx;cases hc;exact⟨rfl,rfl⟩
  |i+2=>simp at hx) (λi c hc j u hu=>by
  match i with
  |0=>
   cases hc;match j with
   |0=>exact hu
   |j+1=>simp at hu
  |1=>
   cases hc;match j with
   |0=>exact hu
   |j+1=>simp at hu
  |i+2=>simp at hc) (c:=2) (by simp) (by omega)
 refine⟨?_,?_,?_⟩
 ·refine AS (xs:=bg.pieces) (sz:=4) (R:=Piece.R) (qk:=[[.string Js,ξ κ 4,ξ κ 5,ξ κ 0],[.string Jt,ξ κ 3,ξ κ 3,ξ κ 1],[.string Jr,ξ κ 2,ξ κ 3,ξ κ 0]]) h.p h.p.lt (by simp[bg]) rfl (by simp[bg]) (λi x c hx hc=>?_) (λi c hc j u hu=>?_) (c:=3) (by simp[bg]) (by omega)
  ·match i with
   |0=>cases hx;cases hc;exact⟨⟨rfl,by decide⟩,rfl⟩
   |1=>cases hx;cases hc;exact⟨⟨rfl,by decide⟩,rfl⟩
   |2=>cases hx;cases hc;exact⟨⟨rfl,by decide⟩,rfl⟩
   |i+3=>simp[bg] at hx
  ·match i with
   |0=>
    cases hc;match j with
    |0=>exact hu
    |1=>exact hu
    |2=>exact hu
    |3=>exact hu
    |j+4=>simp at hu
   |1=>
    cases hc;match j with
    |0=>exact hu
    |1=>exact hu
    |2=>exact hu
    |3=>exact hu
    |j+4=>simp at hu
   |2=>
    cases hc;match j with
    |0=>exact hu
    |1=>exact hu
    |2=>exact hu
    |3=>exact hu
    |j+4=>simp at hu
   |i+3=>simp at hc
 ·refine AS (xs:=bg.aC) (sz:=3) (R:=bN.R w w.heap.size) (qk:=[[.string SY,ξ κ 8,ζ (φ ⟨gk,0,ν⟩) 1 1],[.string FU,ξ κ 6,ζ ν 0 0]]) h.b h.b.lt (by simp[bg]) rfl (by simp[bg]) (λi x c hx hc=>?_) (λi c hc j u hu=>?_) (c:=2) (by simp[bg]) (by omega)
  ·match i with
   |0=>cases hx;cases hc;exact⟨⟨_,rfl,by decide,hk⟩,rfl⟩
   |1=>cases hx;cases hc;exact⟨⟨_,rfl,by decide,Row.nil⟩,rfl⟩
   |i+2=>simp[bg] at hx
  ·match i with
   |0=>
    cases hc;match j with
    |0=>exact hu
    |1=>exact hu
    |2=>exact hu
    |j+3=>simp at hu
   |1=>
    cases hc;match j with
    |0=>exact hu
    |1=>exact hu
    |2=>exact hu
    |j+3=>simp at hu
   |i+2=>simp at hc
 ·refine AS (xs:=bg.aI) (sz:=3) (R:=Tape.R w w.heap.size) (qk:=[[ζ (φ ⟨gl,0,ν⟩) 2 2,ξ κ 7,ξ κ 7]]) h.t h.t.lt (by simp[bg]) rfl (by simp[bg]) (λi x c hx hc=>?_) (λi c hc j u hu=>?_) (c:=1) (by simp[bg]) (by omega)
  ·match i with
   |0=>cases hx;cases hc;exact⟨⟨_,rfl,hl⟩,rfl⟩
   |i+1=>simp[bg] at hx
  ·match i with
   |0=>
    cases hc;match j with
    |0=>exact hu
    |1=>exact hu
    |2=>exact hu
    |j+3=>simp at hu
   |i+1=>simp at hc
def aej(h:Bk w g 56 #[ξ κ 1,ξ κ 0,ξ κ 0,ξ κ 0,ξ κ 0,ξ κ 4]):Row w w.heap.size 2 Cut.R (ζ (φ ⟨g,0,ν⟩) 3 3) ea:=by
 refine AS (xs:=ea) (sz:=2) (R:=Cut.R) (qk:=[[ξ κ 1,ξ κ 0],[ξ κ 0,ξ κ 0],[ξ κ 0,ξ κ 4]]) h h.lt (by simp[ea]) rfl (by simp[ea]) (λi x c hx hc=>?_) (λi c hc j u hu=>?_) (c:=3) (by simp[ea]) (by omega)
 ·match i with
  |0=>cases hx;cases hc;exact⟨rfl,rfl⟩
  |1=>cases hx;cases hc;exact⟨rfl,rfl⟩
  |2=>cases hx;cases hc;exact⟨rfl,rfl⟩
  |i+3=>simp[ea] at hx
 ·match i with
  |0=>
   cases hc;match j with
   |0=>exact hu
   |1=>exact hu
   |j+2=>simp at hu
  |1=>
   cases hc;match j with
   |0=>exact hu
   |1=>exact hu
   |j+2=>simp at hu
  |2=>
   cases hc;match j with
   |0=>exact hu
   |1=>exact hu
   |j+2=>simp at hu
  |i+3=>simp at hc
def Span.vs(x:Span):List υ:=[ξ κ x.lo,ξ κ x.hi]
def k7(out:List Span)(x:Span):List Span:=match out.getLast? with
 |some y=>if y.hi+1=x.lo then out.dropLast++ [⟨y.lo,x.hi⟩] else out++ [x]
 |none=>out++ [x]
def fN(l:List Span):List Span:=l.foldl k7 []
def ajz{l:List Span}{x:Span}(h:l[i]?=φ x):fN (l.take (i+1))=k7 (fN (l.take i)) x:=by
 unfold fN;rw[pT h,List.foldl_append];rfl
def yu{base:Nat}{sz:Nat}(h:w.ownsRow base e sz (ζ (φ ⟨g,0,ν⟩) n cap) n xs)(hk:k<n * sz):(w.setCell ⟨g,k,ν⟩ u).ownsRow base e sz (ζ (φ ⟨g,0,ν⟩) n cap) n (xs.set k u):=by
 refine⟨by rw[List.length_set];exact h.1,.inr ?_⟩
 rcases h.2 with⟨h0,_⟩ | ⟨g',ze,cur,h1,h2,h3,h4,h5,h6,h7⟩
 ·cases h0
 ·cases h1
  refine⟨g,cap,cur.setIfInBounds k u,rfl,h2,?_,h4,h5,by simp[h6],?_⟩
  ·have:=Go.Sim.C4 (a:=⟨g,k,ν⟩) (v:=u) h3 rfl g
   simpa using this
  ·rw[<-h7]
   simp[List.take_set]
def YM(l:List Span):(l.flatMap Span.vs).length=l.length * 2:=by
 induction l with
 |nil=>rfl
 |cons a l ih=>simp[Span.vs,ih];omega
def ajW{out:List Span}{y x:Span}(h: out.getLast? =φ y):(out.flatMap Span.vs).set ((out.length - 1) * 2+1) (ξ κ x.hi)=(out.dropLast++ [(⟨y.lo,x.hi⟩:Span)]).flatMap Span.vs:=by
 have aw:out≠ []:=by rintro rfl;cases h
 have e:out=out.dropLast++ [y]:=by
  have:=Aic aw;rw[Aid aw] at h
  cases h;exact this.symm
 obtain⟨d,hd⟩:∃d,d=out.dropLast:=⟨_,rfl⟩
 rw[<-hd] at e |-
 subst e;rw[ă,ă,Ĉ];have hl:=YM d;have e2:(d.length+ [y].length - 1) * 2+1=(d.flatMap Span.vs).length+1:=by rw[hl];simp
 rw[e2,List.set_append,if_neg (by omega),Nat.add_sub_cancel_left]
 simp[Span.vs]
def ajV{out:List Span}{y:Span}(h: out.getLast? =φ y):(out.flatMap Span.vs)[(out.length - 1) * 2+1]?=φ (ξ κ y.hi):=by
 have aw:out≠ []:=by rintro rfl;cases h
 have e:out=out.dropLast++ [y]:=by
  have:=Aic aw;rw[Aid aw] at h
  cases h;exact this.symm
 obtain⟨d,hd⟩:∃d,d=out.dropLast:=⟨_,rfl⟩
 rw[<-hd] at e;subst e;rw[ă,Ĉ];have hl:=YM d;rw[Ū (by rw[hl];simp),hl]
 simp[Span.vs]
def WM:(prog.info? 37).map (λi=>(i.zero,i.size,i.bytes))=φ (φ (η #[ξ κ 0,ξ κ 0]),2,16):=by
 rw[qS];kernel_rfl
def sF(l:List Span):Prop:=∀x∈l,-1000<=x.lo/\x.lo<=1000/\ -1000<=x.hi/\x.hi<=1000
def ajB{out:List Span}{x:Span}(h:sF out)(hx:sF [x]):sF (k7 out x):=by
 have hx:=hx x (by simp)
 unfold k7;split
 ·rename_i y hy
  have hy:=h y (Aie hy);split
  ·intro z hz
   rcases ĉ.1 hz with hz|hz
   ·exact h z (List.dropLast_subset _ hz)
   ·simp at hz;subst hz;exact⟨hy.1,hy.2.1,hx.2.2⟩
  ·intro z hz
   rcases ĉ.1 hz with hz|hz
   ·exact h z hz
   ·simp at hz;subst hz;exact hx
 ·intro z hz
  rcases ĉ.1 hz with hz|hz
  ·exact h z hz
  ·simp at hz;subst hz;exact hx
def ajy{l:List Span}(h:sF l):sF (fN l):=by
 have key:∀(l out:List Span),sF out->sF l->sF (l.foldl k7 out):=by
  intro l;induction l with
  |nil=>intro out h _;exact h
  |cons a l ih=>exactλout h k=>ih _ (ajB h λz hz=>by simp at hz;subst hz;exact k z (by simp)) λz hz=>k z (by simp[hz])
 exact key l [] (λz hz=>by simp at hz) h
def ajA(out:List Span)(x:Span):(k7 out x).length<=out.length+1:=by
 unfold k7;split
 ·split<;>simp<;>omega
 ·simp
def ajx(l:List Span):(fN l).length<=l.length:=by
 have key:∀(l out:List Span),(l.foldl k7 out).length<=out.length+l.length:=by
  intro l;induction l with
  |nil=>intro out;simp
  |cons a l ih=>intro out;have:=ih (k7 out a);have:=ajA out a;simp only[List.foldl_cons,Ă];omega
 have:=key l [];simpa [fN] using this
def JF{base:Nat}{sz:Nat}(h:w.ownsRow base e sz v n xs):∃A c,v=ζ A n c/\(0<n->∃g,A=φ ⟨g,0,ν⟩/\base<=g/\g<w.heap.size/\∃cur,w.heap[g]?=φ (.cells cur e (0,0)))/\n<=c/\c<=ϑ:=by
 rcases h.2 with⟨rfl,rfl⟩ | ⟨g,cap,cur,rfl,h2,h3,h4,h5,_⟩
 ·exact⟨ν,0,rfl,λh=>absurd h (by omega),ϊ _,Ϡ _⟩
 ·exact⟨_,_,rfl,λ_=>⟨g,rfl,h2,(ϛ.1 h3).1,cur,h3⟩,h4,h5⟩
def CR{base:Nat}{sz:Nat}(h:w.ownsRow base e sz v n xs)(k:Nat):(w.drewN k).ownsRow base e sz v n xs:=h
def join{l:List Span}(hv:Row w B 2 Span.R v l)(hB:B<=w.heap.size)(zx:l.length<=1000)(hs:sF l):
 ύ prog 133 #[v] w λe w'=>∃u,e=Ω u/\w'.ownsRow w.heap.size 37 2 u (fN l).length ((fN l).flatMap Span.vs)/\Γ w.heap.size w w':=by
 obtain⟨i0,cJ,cK,aO,aZ⟩:=Ą WM;obtain⟨A,n,c,rfl,hl,ey,dg,hr⟩:=hv.Φ;have hn:n<=1000:=by omega
 unfold ϑ at dg;have ox:=ψ hl;have H2:=ψ hr;have HS:=ψ hs;have HI:=ψ (Ϗ cJ (Ϗ cK (Ϗ aO aZ)));clear hl hr hv zx cJ cK aO aZ hs;go_enter func133,Tryz.ntmps133;go_wp2;go_loopw [3,5,6,9] (λo p q k wr=>∃i:Nat,i<=n/\k=ξ κ i/\Hid (wr.ownsRow w.heap.size 37 2 o (fN (l.take i)).length ((fN (l.take i)).flatMap Span.vs))/\Γ w.heap.size w wr) (λ_ _ _ k _=>n - (ϗ k).toNat)
 case atStart=>exact⟨0,Ϡ _,rfl,ψ ⟨by simp[fN],.inl ⟨rfl,by simp[fN]⟩⟩,ώ _ _⟩
 case round=>
  obtain⟨i,hi,rfl,aH,hb⟩:=hrel;have HB:=ψ hb;have aN:=hb.size;by_cases ao:i<n
  ·obtain⟨ad,x,cs,rfl,aE,hx,rfl,-,aq⟩:=H2.e i ao
   have st:Δ B w wr:=Δ.aJ hb hB;have h0:=cA aq st aE rfl;have h1:=bj aq st aE 0 rfl;have q0:(ad.add (i * 2)).block<wr.heap.size:=by rw[b9];omega
   have HX:=ψ hx;have hxs:=HS.e x (Ϩ hx);have Vq:=ajy (l:=l.take i) λz hz=>HS.e z (List.mem_of_mem_take hz)
   have oL:(fN (l.take i)).length<=i:=ϡ (ajx _) (by simp;omega)
   have NX:=ψ (ajz hx);clear hb hx aq st;obtain⟨m,hm⟩:∃m,m=(fN (l.take i)).length:=⟨_,rfl⟩
   rw[<-hm] at aH oL;have HM:=ψ hm;clear hm;obtain⟨A9,c9,rfl,Ib,fg,NO⟩:=JF aH.e;unfold ϑ at NO;have XK:=ψ Vq;clear Vq;rcases Nat.eq_zero_or_pos m with sZ|tb
   ·subst sZ
    clear Ib;have HO:=ψ aH.e;have qa:Hid (((k7 (fN (l.take i)) x).flatMap Span.vs=(fN (l.take i)).flatMap Span.vs++ [ξ κ x.lo,ξ κ x.hi])/\(k7 (fN (l.take i)) x).length=0+1):=ψ (by
     rw[Ō HM.e.symm];exact⟨rfl,rfl⟩)
    clear aH;go_wp2;go_quiet (fail);go_wp2_with (first
     | (at_builtin
        refine ĭ _ rfl (.tmp 36) (.tmp 38) 57 rfl w.heap.size 37 i0 (η #[ξ κ 0,ξ κ 0]) 2 16 (U Tryz.underlying57) HI.e.1 HI.e.2.1 HI.e.2.2.1 HI.e.2.2.2 rfl (by decide) _ _ _ rfl (ŋ (CR (ŋ HO.e _) nq) _) ⟨wr.heap.size+1,0,ν⟩ 1 1 [ξ κ x.lo,ξ κ x.hi] rfl rfl ?c1 ?c2 ?c3 ?c4 ?c5 ?_
        case c1=>(intro j u hu;match j,hu with|0,hu=>(simp at hu;subst hu;simp[go_sem,ċ]) |1,hu=>(simp at hu;subst hu;simp[go_sem,ċ]))
        case c2=>simp[Value.oneCell']
        case c3=>(simp only[ϑ];omega)
        case c4=>omega
        case c5=>(simp;omega)
        intro v' w1 b7 cW _;have gC:=ψ b7;have gX:=ψ cW;clear b7 cW))
    go_roundw;case rel=>exact⟨i+1,by omega,by go_num,ψ (by rw[NX.e,qa.e.1,qa.e.2];exact gC.e),
     ((HB.e.trans (jr ((ώ _ _).alloc aN _) nq)).trans ((ώ _ _).alloc (by simp;omega) _)).grown gX.e (by simp;omega) (λk hk=>dX HO.e k hk)⟩
    case measure=>simp[ϗ];omega
   ·obtain⟨k,rfl⟩:∃k,m=k+1:=⟨m - 1,by omega⟩
    obtain⟨g9,rfl,Vd,Ve,cur,zP⟩:=Ib (by omega)
    clear tb;have xV:ϙ.wrap (k:Int)=k:=by rw[IntWalk.i64_left];exact IntWalk.wrap64_in _ (by omega)
    obtain⟨y,hy⟩:∃y,(fN (l.take i)).getLast? =φ y:=by
     cases e:(fN (l.take i)).getLast? with
     |some y=>exact⟨y,rfl⟩
     |none=>
      rw[List.getLast?_eq_none_iff.1 e] at HM
      exact absurd HM.e (by simp)
    have hys:=XK.e y (Aie hy);have g1: wr.cell? ⟨g9,k * 2+1,ν⟩=φ (ξ κ y.hi):=by
     have h1:=ajV hy;rw[<-HM.e] at h1;have:=vK aH.e _ _ h1;rwa[kP] at this
    have z1: wr.frozen? ⟨g9,k * 2+1,ν⟩=χ:=by rw[Go.Sim.zp (a:=⟨g9,k * 2+1,ν⟩) zP];rfl
    have HY:=ψ hy;have g9l:g9<=wr.heap.size:=by omega
    have HO:=ψ aH.e;clear hy zP aH;by_cases heq:y.hi+1=x.lo
    ·have hd:(y.hi+1==x.lo)=θ:=by simpa using heq
     have qa:Hid (((k7 (fN (l.take i)) x).flatMap Span.vs=((fN (l.take i)).flatMap Span.vs).set (k * 2+1) (ξ κ x.hi))/\(k7 (fN (l.take i)) x).length=k+1):=ψ (by
      have e:k7 (fN (l.take i)) x=(fN (l.take i)).dropLast++ [⟨y.lo,x.hi⟩]:=by unfold k7;rw[HY.e];simp[heq]
      rw[e];refine⟨?_,by simp[<-HM.e]⟩
      rw[<-ajW HY.e,<-HM.e];rfl)
     go_wp2;go_quiet (fail);go_wp2;go_roundw;case rel=>exact⟨i+1,by omega,by go_num,ψ (by
          rw[NX.e,qa.e.1,qa.e.2];exact yu (CR (ŋ HO.e _) nq) (by omega)),
      (HB.e.trans (jr ((ώ _ _).alloc aN _) nq)).setCell (by simp;omega) _⟩
     case measure=>simp[ϗ];omega
    ·have hd:(y.hi+1==x.lo)=χ:=by simpa using heq
     have qa:Hid (((k7 (fN (l.take i)) x).flatMap Span.vs=(fN (l.take i)).flatMap Span.vs++ [ξ κ x.lo,ξ κ x.hi])/\(k7 (fN (l.take i)) x).length=k+1+1):=ψ (by
      have e:k7 (fN (l.take i)) x=fN (l.take i)++ [x]:=by unfold k7;rw[HY.e];simp[heq]
      rw[e];exact⟨by simp[Span.vs],by simp[<-HM.e]⟩)
     go_wp2;go_quiet (fail);go_wp2_with (first
      | (at_builtin
         refine ĭ _ rfl (.tmp 36) (.tmp 38) 57 rfl w.heap.size 37 i0 (η #[ξ κ 0,ξ κ 0]) 2 16 (U Tryz.underlying57) HI.e.1 HI.e.2.1 HI.e.2.2.1 HI.e.2.2.2 rfl (by decide) _ _ _ rfl (ŋ (CR (ŋ HO.e _) nq) _) ⟨wr.heap.size+1,0,ν⟩ 1 1 [ξ κ x.lo,ξ κ x.hi] rfl rfl ?c1 ?c2 ?c3 ?c4 ?c5 ?_
         case c1=>(intro j u hu;match j,hu with|0,hu=>(simp at hu;subst hu;simp[go_sem,ċ]) |1,hu=>(simp at hu;subst hu;simp[go_sem,ċ]))
         case c2=>simp[Value.oneCell']
         case c3=>(simp only[ϑ];omega)
         case c4=>omega
         case c5=>(simp;omega)
         intro v' w1 b7 cW _;have gC:=ψ b7;have gX:=ψ cW;clear b7 cW))
     go_roundw;case rel=>exact⟨i+1,by omega,by go_num,ψ (by rw[NX.e,qa.e.1,qa.e.2];exact gC.e),
      ((HB.e.trans (jr ((ώ _ _).alloc aN _) nq)).trans ((ώ _ _).alloc (by simp;omega) _)).grown gX.e (by simp;omega) (λk hk=>dX HO.e k hk)⟩
     case measure=>simp[ϗ];omega
  ·obtain rfl:i=n:=by omega
   go_wp2;go_ret;refine⟨_,rfl,?_,hb⟩
   have:=aH.e;rwa[Ċ (ú ox.e)] at this
def ku(x:bN)(n:Nat):List Span:=((ε n).filter λi:Nat=>decide (lG x.cM (i:Int) i=0)).map λi:Nat=>⟨(i:Int),i⟩
def Hi(x:bN):List Span:=fN (ku x x.aL.toNat)
def af9(x:bN)(n:Nat):ku x (n+1)=ku x n++(if lG x.cM (n:Int) n=0 then [⟨(n:Int),n⟩] else []):=by
 unfold ku;rw[Ŭ,List.filter_append,Ah8];congr 1;by_cases h:lG x.cM (n:Int) n=0<;>simp[h]
def Up(x:bN)(n:Nat):(ku x n).length<=n:=by
 unfold ku;rw[ü];exact ϡ (Agd _ _) (by simp)
def af8(x:bN)(hn:n<=1000):sF (ku x n):=by
 intro y hy;unfold ku at hy;obtain⟨i,hi,rfl⟩:=ó.1 hy;have:=ş.1 (List.mem_filter.1 hi).1;simp only;omega
def adH(hB:B<=w.heap.size)(ah:aQ w B b pv bv tv)(h0:cZ b=0)(hx:b.aC[k]?=φ x):
 ύ prog 47 #[η #[ξ κ b.ab,pv,bv,tv],ξ κ k] w λe w'=>∃v,e=Ω (μ #[v,ξ κ 0])/\w'.ownsRow w.heap.size 37 2 v (Hi x).length ((Hi x).flatMap Span.vs)/\Γ w.heap.size w w':=by
 obtain⟨i0,cJ,cK,aO,aZ⟩:=Ą WM;have HI:=ψ (Ϗ cJ (Ϗ cK (Ϗ aO aZ)));have hv:=fG h0;have xh:=hv.bt x (Ϩ hx);have bD:=ψ ah;have H0:=ψ h0;obtain⟨A1,n1,c1,rfl,-⟩:=ah.pieces.Φ;obtain⟨A2,n2,c2,rfl,e2,h2,ei,r2⟩:=ah.aC.Φ;obtain⟨A3,n3,c3,rfl,-⟩:=ah.aI.Φ;unfold ϑ at ei;have hk:k<n2:=by have:=(Ϯ.1 hx).1;omega
 obtain⟨cR,x',ju,rfl,gT,ij,⟨kv,rfl,V0,dC⟩,-,eu⟩:=r2 k hk;obtain rfl:x'=x:=by rw[ij] at hx;exact Ϟ hx
 obtain⟨A4,n4,c4,rfl,-⟩:=dC.Φ;have st:=Δ.refl (B:=B) w;have b0:=cA eu st gT rfl;have b1:=bj eu st gT 0 rfl;have b2:=bj eu st gT 1 rfl;have HC:=ψ (Ϗ b0 (Ϗ b1 b2));have uL:=ψ dC;have LI:Hid (1<=x'.aL/\x'.aL<=40):=ψ xh.aL;have Ar:(if cj k 0 ((n2:Int) - 1) then(0:Int) else 6)=0:=by rw[if_pos (by unfold cj;simp;omega)]
 have HT:=ψ Ar;have uH:Hid ((cR.add (k * 3)).block<w.heap.size):=ψ (by rw[b9];omega)
 clear ah e2 r2 hx ij eu dC cJ cK aO aZ b0 b1 b2 st hv h0 Ar xh;go_enter func47,Tryz.ntmps47;go_wp2_with (first
  | (go_at_call 68;refine(qj (bD.e.still ((Δ.refl w).alloc hB _)) (by simp;omega) H0.e).mono ?_;rintro e w1 ⟨rfl,ai⟩
     have kb:Bk w1 w.heap.size 26 #[ξ κ b.ab,ζ A1 n1 c1,ζ (φ cR) n2 c2,ζ A3 n3 c3]:=(Bk.new w _ _).below ai (by simp)
     have b2: w1.cell? ⟨w.heap.size,2,ν⟩=φ (ζ (φ cR) n2 c2):=kb.cell 2;have aO:w.heap.size<w1.heap.size:=kb.lt;have aZ:w.heap.size<=w1.heap.size:=by omega
     have dk:=da (ώ _ _) ai (ϊ _);have aW:=ψ dk;have d0: w1.cell? (cR.add (k * 3))=φ (.string x'.name):=(dk.cell uH.e).trans HC.e.1;have d1: w1.cell? ⟨(cR.add (k * 3)).block,(cR.add (k * 3)).off+(0+1),ν⟩=φ (ξ κ x'.aL):=(dk.cell (p:=⟨(cR.add (k * 3)).block,(cR.add (k * 3)).off+(0+1),ν⟩) uH.e).trans HC.e.2.1;have d2: w1.cell? ⟨(cR.add (k * 3)).block,(cR.add (k * 3)).off+(1+1),ν⟩=φ (ζ A4 n4 c4):=(dk.cell (p:=⟨(cR.add (k * 3)).block,(cR.add (k * 3)).off+(1+1),ν⟩) uH.e).trans HC.e.2.2;have dz:(cR.add (k * 3)).block<w1.heap.size:=by have:=uH.e;omega
     clear kb ai dk)
  | (go_at_call 100;refine(there k n2 (by omega) w1 (by omega)).mono ?_;rintro e w2 ⟨rfl,rfl⟩
     rw[HT.e]))
 have sY:1<=x'.aL/\x'.aL<=40:=LI.e;obtain⟨N,hN⟩:∃N:Nat,x'.aL=N:=⟨x'.aL.toNat,by omega⟩
 rw[hN] at sY |-
 have HN:=ψ hN;clear hN d0 d1 d2;go_loopw [9,10,11,32] (λo p q u wr=>∃i:Nat,i<=N/\u=ξ κ i/\Hid (wr.ownsRow (w1.heap.size+1) 37 2 o (ku x' i).length ((ku x' i).flatMap Span.vs))/\Hid (Γ (w1.heap.size+1) (w1.alloc (Ξ #[.string x'.name,ξ κ N,ζ A4 n4 c4] 59)) wr)) (λ_ _ _ u _=>N - (ϗ u).toNat)
 case atStart=>exact⟨0,Ϡ _,rfl,ψ ⟨by simp[ku],.inl ⟨rfl,by simp[ku]⟩⟩,ψ (ώ _ _)⟩
 case round=>
  obtain⟨i,hi,rfl,aH,hb⟩:=hrel;have aN:w1.heap.size+1<=wr.heap.size:=by have:=hb.e.size;simpa using this
  have pf:Hid (Γ w1.heap.size w1 wr):=ψ (((ώ _ _).alloc (by omega) _).trans (hb.e.mono (by omega)))
  have kx:Bk wr w1.heap.size 59 #[.string x'.name,ξ κ N,ζ A4 n4 c4]:=(Bk.new w1 _ _).below hb.e (by omega)
  have k0:=kx.cell 0;have k1:=kx.cell 1;have k2:=kx.cell 2;have kl:w1.heap.size<wr.heap.size:=kx.lt;have Jc:w1.heap.size<=wr.heap.size:=by omega
  clear kx;by_cases ao:i<N
  ·have xF:i<40:=by omega
   have sT:=Up x' i;have NX:=ψ (af9 x' i);have Dw:Hid (∀o,Row (wr.alloc o) w.heap.size 2 Span.R (ζ A4 n4 c4) x'.cM):=ψ λo=>uL.e.more hB|>.still ((Δ.aJ (aW.e.trans (pf.e.mono (by omega))) (ϊ _)).alloc (by omega) o) λ_ _ h=>h
   obtain⟨m,hm⟩:∃m,m=(ku x' i).length:=⟨_,rfl⟩
   rw[<-hm] at aH sT;have HM:=ψ hm;clear hm;obtain⟨A9,c9,rfl,Ib,fg,NO⟩:=JF aH.e;clear Ib;unfold ϑ at NO;by_cases Ci:lG x'.cM (i:Int) i=0
   ·have hd:(lG x'.cM (i:Int) i==0)=θ:=by simpa using Ci
    have qa:Hid (ku x' (i+1)=ku x' i++ [⟨(i:Int),i⟩]):=ψ (by rw[NX.e,if_pos Ci])
    clear Ci;go_wp2_with (first
     | (go_at_call 132;refine(met (Dw.e _) (by simp;omega)).mono ?_;rintro e w2 ⟨rfl,an⟩
        have aZ:wr.heap.size<w2.heap.size:=by have:=an.size;simp at this;omega
        have asS:wr.heap.size<=w2.heap.size:=by omega
        have ks:Bk w2 wr.heap.size 37 #[ξ κ i,ξ κ i]:=(Bk.new wr _ _).below an (by simp)
        have s0:=ks.cell 0;have s1:=ks.cell 1;have sB:Hid (w2.ownsRow (w1.heap.size+1) 37 2 (ζ A9 m c9) m ((ku x' i).flatMap Span.vs)):=ψ (si (ŋ aH.e _) an (ϊ _));have dj:=ψ (da hb.e an aN);clear an ks)
     | (at_builtin
        refine ĭ _ rfl (.tmp 42) (.tmp 44) 57 rfl (w1.heap.size+1) 37 i0 (η #[ξ κ 0,ξ κ 0]) 2 16 (U Tryz.underlying57) HI.e.1 HI.e.2.1 HI.e.2.2.1 HI.e.2.2.2 rfl (by decide) _ _ _ rfl (ŋ sB.e _) ⟨w2.heap.size,0,ν⟩ 1 1 [ξ κ i,ξ κ i] rfl rfl ?c1 ?c2 ?c3 ?c4 ?c5 ?_
        case c1=>(intro j u hu;match j,hu with|0,hu=>(simp at hu;subst hu;simp[go_sem,ċ]) |1,hu=>(simp at hu;subst hu;simp[go_sem,ċ]))
        case c2=>simp[Value.oneCell']
        case c3=>(simp only[ϑ];omega)
        case c4=>omega
        case c5=>(simp;omega)
        intro v' w3 b7 cW _;have wA:=ψ b7;have jo:=ψ cW;clear b7 cW))
    go_roundw;case rel=>exact⟨i+1,by omega,by go_num,ψ (by rw[qa.e,ă,Ĉ,<-HM.e];exact wA.e),
     ψ ((dj.e.trans ((ώ _ _).alloc (by omega) _)).grown jo.e (by simp;omega) (λk hk=>dX sB.e k hk))⟩
    case measure=>simp[ϗ];omega
   ·have hd:(lG x'.cM (i:Int) i==0)=χ:=by simpa using Ci
    have qa:Hid (ku x' (i+1)=ku x' i):=ψ (by rw[NX.e,if_neg Ci,Ah1])
    clear Ci;go_wp2_with (first
     | (go_at_call 132;refine(met (Dw.e _) (by simp;omega)).mono ?_;rintro e w2 ⟨rfl,an⟩
        have sB:Hid (w2.ownsRow (w1.heap.size+1) 37 2 (ζ A9 m c9) m ((ku x' i).flatMap Span.vs)):=ψ (si (ŋ aH.e _) an (ϊ _));have dj:=ψ (da hb.e an aN);clear an))
    go_roundw;case rel=>exact⟨i+1,by omega,by go_num,ψ (by rw[qa.e,<-HM.e];exact sB.e),dj⟩
    case measure=>simp[ϗ];omega
  ·obtain rfl:i=N:=by omega
   have yW:=ψ (mZ (R:=Span.R) (f:=Span.vs) (l:=ku x' i) aH.e (λ_=>rfl) (λ_ _=>rfl))
   have I1:=af8 x' (n:=i) (by omega)
   have sV:=Up x' i;clear hi;go_wp2_with (first
    | (go_at_call 133;refine(join yW.e (ϊ _) (by omega) I1).mono ?_;rintro e w2 ⟨u,rfl,gv,an⟩;have sB:=ψ gv;have dj:=ψ an;clear gv an))
   go_ret2
   refine⟨_,rfl,?_,?_⟩
   ·have:=sB.e.base (fB:=w.heap.size) (by omega)
    unfold Hi;rw[HN.e];exact this
   ·exact aW.e.trans ((pf.e.mono (by omega)).trans (dj.e.mono (by omega)))
def xZ(x:bN)(bears:Int)(N fr:Nat):Nat->Int->Int
 |0,m=>m
 |s+1,m=>if lG x.cM fr ((N:Int) - (s+1:Nat))>bears then m else xZ x bears N fr s (max m ((N:Int) - (s+1:Nat) - fr+1))
def ya(x:bN)(bears:Int)(N:Nat):Nat->Int
 |0=>0
 |fr+1=>xZ x bears N fr (N - fr) (ya x bears N fr)
def Jj(x:bN)(bears:Int):Int:=ya x bears x.aL.toNat x.aL.toNat
def akw(x:bN)(bears:Int)(N fr:Nat)(hN:N<=40)(hf:fr<=N):∀(s:Nat) (m:Int),s<=N - fr->0<=m->m<=40->0<=xZ x bears N fr s m/\xZ x bears N fr s m<=40:=by
 intro s;induction s with
 |zero=>intro m _ h0 h1;exact⟨h0,h1⟩
 |succ s ih=>
  intro m hs h0 h1;unfold xZ;split
  ·exact⟨h0,h1⟩
  ·refine ih _ (by omega) ?_ ?_<;>omega
def aky(x:bN)(bears:Int)(N:Nat)(hN:N<=40):∀fr,fr<=N->0<=ya x bears N fr/\ya x bears N fr<=40:=by
 intro fr;induction fr with
 |zero=>intro _;exact⟨by unfold ya;omega,by unfold ya;omega⟩
 |succ fr ih=>
  intro h;have:=ih (by omega)
  exact akw x bears N fr hN (by omega) _ _ (ϊ _) this.1 this.2
def Xn{bears:Int}(hB:B<=w.heap.size)(ah:aQ w B b pv bv tv)(h0:cZ b=0)(hx:b.aC[k]?=φ x)(NG:cj bears 0 2=θ):
 ύ prog 48 #[η #[ξ κ b.ab,pv,bv,tv],ξ κ k,ξ κ bears] w λe w'=>e=Ω (μ #[ξ κ (Jj x bears),ξ κ 0])/\Γ w.heap.size w w':=by
 have hv:=fG h0;have xh:=hv.bt x (Ϩ hx);have bD:=ψ ah;have H0:=ψ h0;obtain⟨A1,n1,c1,rfl,-⟩:=ah.pieces.Φ;obtain⟨A2,n2,c2,rfl,e2,h2,ei,r2⟩:=ah.aC.Φ;obtain⟨A3,n3,c3,rfl,-⟩:=ah.aI.Φ;unfold ϑ at ei;have hk:k<n2:=by have:=(Ϯ.1 hx).1;omega
 obtain⟨cR,x',ju,rfl,gT,ij,⟨kv,rfl,V0,dC⟩,-,eu⟩:=r2 k hk;obtain rfl:x'=x:=by rw[ij] at hx;exact Ϟ hx
 obtain⟨A4,n4,c4,rfl,-⟩:=dC.Φ;have st:=Δ.refl (B:=B) w;have b0:=cA eu st gT rfl;have b1:=bj eu st gT 0 rfl;have b2:=bj eu st gT 1 rfl;have HC:=ψ (Ϗ b0 (Ϗ b1 b2));have uL:=ψ dC;have Ar:(if cj k 0 ((n2:Int) - 1) then(0:Int) else 6)=0:=by rw[if_pos (by unfold cj;simp;omega)]
 have HT:=ψ Ar;have uH:Hid ((cR.add (k * 3)).block<w.heap.size):=ψ (by rw[b9];omega)
 have LI:Hid (1<=x'.aL/\x'.aL<=40):=ψ xh.aL;have pe:=ψ NG;clear ah e2 r2 hx ij eu dC b0 b1 b2 st hv h0 Ar xh NG;go_enter func48,Tryz.ntmps48;go_wp2_with (first
  | (go_at_call 68;refine(qj (bD.e.still ((Δ.refl w).alloc hB _)) (by simp;omega) H0.e).mono ?_;rintro e w1 ⟨rfl,ai⟩
     have kb:Bk w1 w.heap.size 26 #[ξ κ b.ab,ζ A1 n1 c1,ζ (φ cR) n2 c2,ζ A3 n3 c3]:=(Bk.new w _ _).below ai (by simp)
     have b2: w1.cell? ⟨w.heap.size,2,ν⟩=φ (ζ (φ cR) n2 c2):=kb.cell 2;have aO:w.heap.size<w1.heap.size:=kb.lt;have aZ:w.heap.size<=w1.heap.size:=by omega
     have dk:=da (ώ _ _) ai (ϊ _);have aW:=ψ dk;have d0: w1.cell? (cR.add (k * 3))=φ (.string x'.name):=(dk.cell uH.e).trans HC.e.1;have d1: w1.cell? ⟨(cR.add (k * 3)).block,(cR.add (k * 3)).off+(0+1),ν⟩=φ (ξ κ x'.aL):=(dk.cell (p:=⟨(cR.add (k * 3)).block,(cR.add (k * 3)).off+(0+1),ν⟩) uH.e).trans HC.e.2.1;have d2: w1.cell? ⟨(cR.add (k * 3)).block,(cR.add (k * 3)).off+(1+1),ν⟩=φ (ζ A4 n4 c4):=(dk.cell (p:=⟨(cR.add (k * 3)).block,(cR.add (k * 3)).off+(1+1),ν⟩) uH.e).trans HC.e.2.2;have dz:(cR.add (k * 3)).block<w1.heap.size:=by have:=uH.e;omega
     clear kb ai dk)
  | (go_at_call 100;refine(there k n2 (by omega) w1 (by omega)).mono ?_;rintro e w2 ⟨rfl,rfl⟩
     rw[HT.e])
  | (go_at_call 134;refine(inside _ _ _ w1).mono ?_;rintro e w2 ⟨rfl,rfl⟩;rw[pe.e]))
 have sY:1<=x'.aL/\x'.aL<=40:=LI.e;obtain⟨N,hN⟩:∃N:Nat,x'.aL=N:=⟨x'.aL.toNat,by omega⟩
 rw[hN] at sY |-
 have HN:=ψ hN;clear hN d0 d1 d2;have zL:0<=bears/\bears<=2:=nS pe.e;go_loopw [11,12,13,37] (λm p q u wr=>∃i:Nat,i<=N/\u=ξ κ i/\m=ξ κ (ya x' bears N i)/\Hid (Γ (w1.heap.size+1) (w1.alloc (Ξ #[.string x'.name,ξ κ N,ζ A4 n4 c4] 59)) wr)) (λ_ _ _ u _=>N - (ϗ u).toNat)
 case atStart=>exact⟨0,Ϡ _,rfl,rfl,ψ (ώ _ _)⟩
 case round=>
  obtain⟨wo,rfl⟩:∃wo:Ψ,wo=wr:=⟨_,rfl⟩
  obtain⟨i,hi,rfl,rfl,hb⟩:=hrel;by_cases ao:i<N
  ·go_wp2
   go_step3
   go_wp2
   go_step3
   go_wp2;have HBo:Hid (Γ w1.heap.size w1 wo):=ψ (((ώ _ _).alloc (by omega) _).trans (hb.e.mono (by omega)))
   have sZ:=aky x' bears N (by have:=sY.2;omega) i hi
   go_loopw [11,13] (λm u wr=>∃(j:Nat) (q:Int),i<=j/\j<=N/\u=ξ κ j/\m=ξ κ q/\0<=q/\q<=40/\Hid (xZ x' bears N i (N - j) q=ya x' bears N (i+1))/\Hid (Γ (w1.heap.size+1) (w1.alloc (Ξ #[.string x'.name,ξ κ N,ζ A4 n4 c4] 59)) wr)) (λ_ u _=>N - (ϗ u).toNat)
   case atStart=>exact⟨i,_,ϊ _,hi,rfl,rfl,sZ.1,sZ.2,ψ rfl,hb⟩
   case round=>
    obtain⟨j,q,xE,hj,rfl,rfl,hq0,rW,qx,LR⟩:=hrel;have aN:w1.heap.size+1<=wr.heap.size:=by have:=LR.e.size;simpa using this
    have pf:Hid (Γ w1.heap.size w1 wr):=ψ (((ώ _ _).alloc (by omega) _).trans (LR.e.mono (by omega)))
    have kx:Bk wr w1.heap.size 59 #[.string x'.name,ξ κ N,ζ A4 n4 c4]:=(Bk.new w1 _ _).below LR.e (by omega)
    have k0:=kx.cell 0;have k1:=kx.cell 1;have k2:=kx.cell 2;have kl:w1.heap.size<wr.heap.size:=kx.lt;have Jc:w1.heap.size<=wr.heap.size:=by omega
    clear kx;by_cases oL:j<N
    ·have Dw:Hid (Row wr w.heap.size 2 Span.R (ζ A4 n4 c4) x'.cM):=ψ (uL.e.more hB|>.still (Δ.aJ (aW.e.trans (pf.e.mono (by omega))) (ϊ _)) λ_ _ h=>h)
     obtain⟨M,hM⟩:∃M,M=lG x'.cM (i:Int) j:=⟨_,rfl⟩
     have HM:=ψ hM;clear hM;by_cases vk:M>bears
     ·go_wp2_with (first
       | (go_at_call 132;refine(met Dw.e (by omega)).mono ?_;rintro e w2 ⟨rfl,an⟩;rw[<-HM.e];have dj:=ψ (chain LR.e an aN);clear an))
      rw[Exit.noGoto_normal];go_wp2;go_roundw;case rel=>exact⟨i+1,by omega,by go_num,by
       congr 1;rw[<-qx.e];obtain⟨d,hd⟩:∃d,N - j=d+1:=⟨N - j - 1,by omega⟩
       rw[hd];unfold xZ;have e:(N:Int) - ((d+1:Nat):Int)=j:=by omega
       rw[e,<-HM.e,if_pos vk],dj⟩
      case measure=>simp[ϗ];omega
     ·go_wp2_with (first
       | (go_at_call 132;refine(met Dw.e (by omega)).mono ?_;rintro e w2 ⟨rfl,an⟩;rw[<-HM.e];have dj:=ψ (chain LR.e an aN);clear an))
      go_roundw;case rel=>exact⟨j+1,max q (j - i+1),by omega,by omega,by go_num,by go_num,by omega,by omega,ψ (by
       rw[<-qx.e];obtain⟨d,hd⟩:∃d,N - j=d+1:=⟨N - j - 1,by omega⟩
       rw[hd,show N - (j+1)=d by omega]
       conv=>rhs;unfold xZ
       have e:(N:Int) - ((d+1:Nat):Int)=j:=by omega
       rw[e,<-HM.e,if_neg (by omega)]),dj⟩
      case measure=>simp[ϗ];omega
    ·obtain rfl:j=N:=by omega
     go_wp2;rw[Exit.noGoto_normal];go_wp2;go_roundw;case rel=>exact⟨i+1,by omega,by go_num,by
      congr 1;rw[<-qx.e,Nat.sub_self];rfl,LR⟩
     case measure=>simp[ϗ];omega
  ·obtain rfl:i=N:=by omega
   go_wp2
   go_ret2
   refine⟨JP ?_ rfl,?_⟩
   ·unfold Jj;rw[HN.e];rfl
   ·exact aW.e.trans (((((ώ _ _).alloc (by omega) _).trans (hb.e.mono (by omega)))).mono (by omega))
def gx(l:List Int):al:=⟨l[0]?.getD 0,l[1]?.getD 0,l[2]?.getD 0⟩
def YG:(prog.info? 3).map (λi=>i.size)=φ 1:=by rw[qS];kernel_rfl
def aea(l:List Int)(h3:l.length<=3):(((#[ξ κ 0,ξ κ 0,ξ κ 0]:Array υ).toList.take 0++l.map (ξ κ)++(#[ξ κ 0,ξ κ 0,ξ κ 0]:Array υ).toList.drop (0+l.length)).toArray:Array υ)=#[ξ κ (gx l).a,ξ κ (gx l).b,ξ κ (gx l).c]:=by
 rcases l with _| ⟨a,_| ⟨b,_| ⟨c,_| ⟨d,l⟩⟩⟩⟩
 ·simp[gx]
 ·simp[gx]
 ·simp[gx]
 ·simp[gx]
 ·simp at h3
def ad9{l:List Int}{A:Option Addr}(hv:Row w B 1 bI (ζ A n c) l)(hB:B<=w.heap.size)(h3:l.length<=3){s:Nat}(hs:s=w.heap.size)
 (hW:W=(w.alloc (Ξ #[ξ κ 0,ξ κ 0,ξ κ 0] 128)).alloc (Ξ #[ξ κ 0,ξ κ 0,ξ κ 0] 128)):
 ∃W',(Builtin.copy_ #[33,33] 3 #[ζ (φ ⟨s+1,0,ν⟩) 3 3,ζ A n c]).run prog W=.ok (goInt n) W'/\Bk W' s 128 #[ξ κ 0,ξ κ 0,ξ κ 0]/\Bk W' (s+1) 128 #[ξ κ (gx l).a,ξ κ (gx l).b,ξ κ (gx l).c]/\Γ w.heap.size w W':=by
 obtain⟨A',n',c',e,hl,ey,dg,hr⟩:=hv.Φ;cases e;have rL:Γ w.heap.size w W:=by rw[hW];exact((ώ _ _).alloc (ϊ _) _).alloc (by simp) _
 have k0:Bk W s 128 #[ξ κ 0,ξ κ 0,ξ κ 0]:=by rw[hW,hs];exact(Bk.new w _ _).alloc _
 have k1:Bk W (s+1) 128 #[ξ κ 0,ξ κ 0,ξ κ 0]:=by rw[hW,hs];exact Bk.bZ (by simp) _ _
 rcases Nat.eq_zero_or_pos n with h0|hp
 ·subst h0
  have:l=[]:=Ō hl;subst this;exact⟨W,run_copy_none W 33 33 3 3 _ _ 3 3 0 c (U Tryz.underlying33) YG (by simp),k0,k1,rL⟩
 ·obtain⟨ad,_,_,rfl,UQ,_⟩:=hr 0 hp
  have aiF:∀(j:Nat) (v:υ),(l.map (ξ κ))[j]?=φ v-> W.cell? (ad.add j)=φ v:=by
   intro j v hj;rw[Š] at hj
   obtain⟨x,hx,rfl⟩:=Option.map_eq_some_iff.1 hj;obtain⟨DE,x',cs,e,aE,ij,rfl,-,aq⟩:=hr j (by have:=(Ϯ.1 hx).1;omega)
   cases e;rw[hx] at ij;cases ij
   have:=aq 0 _ rfl;rw[Nat.mul_one,Nat.add_zero] at this;exact(rL.cell (by rw[b9];omega)).trans this
  have bh:=run_copy_row (P:=prog) W 33 33 3 3 (s+1) 0 3 3 ad n c #[ξ κ 0,ξ κ 0,ξ κ 0] 128 (l.map (ξ κ)) (U Tryz.underlying33) YG k1 (by rw[ü,hl];exact(Ain (by omega)).symm) aiF (by simp;omega) (λv hv=>by
   obtain⟨x,_,rfl⟩:=ó.1 hv;rfl)
  refine⟨_,by rw[bh,ü,hl],?_,?_,?_⟩
  ·exact(setRow_other _ _ _ _ (by omega)).trans k0
  ·refine(setRow_heap _ _ _ _ _ _ k1).trans ?_
   rw[<-hl];rw[aea l h3]
  ·exact below_setRow rL (by omega) _
def aki{l:List Int}(hv:Row w B 1 bI v l)(hB:B<=w.heap.size)(h3:l.length<=3):
 ύ prog 128 #[v] w λe w'=>e=Ω (η #[ξ κ (gx l).a,ξ κ (gx l).b,ξ κ (gx l).c])/\Γ w.heap.size w w':=by
 obtain⟨A,n,c,rfl,-⟩:=hv.Φ;obtain⟨W',qt,k0,k1,hb⟩:=ad9 (w:=w) hv hB h3 rfl rfl;have r0:=k1.cell 0;have r1:=k1.cell 1;have r2:=k1.cell 2;have s0:=k0.cell 0;have s1:=k0.cell 1;have s2:=k0.cell 2;have z0:=k0.frozen 0;have z1:=k0.frozen 1;have z2:=k0.frozen 2;have l0:=k0.lt;have l1:=k1.lt;have l0':w.heap.size<=W'.heap.size:=by omega
 have xY:w.heap.size+1<=W'.heap.size:=by omega
 have HB:=ψ hb;have HK:=ψ k0;clear hv hb k0 k1;go_enter func128,Tryz.ntmps128;go_wp2;have k3:=((HK.e.set 0 (ξ κ (gx l).a)).set 1 (ξ κ (gx l).b)).set 2 (ξ κ (gx l).c);have t0:=k3.cell 0;have t1:=k3.cell 1;have t2:=k3.cell 2;simp at t0 t1 t2;have dR:=((HB.e.setCell (p:=⟨w.heap.size,0,ν⟩) (ϊ _) (ξ κ (gx l).a)).setCell (p:=⟨w.heap.size,1,ν⟩) (ϊ _) (ξ κ (gx l).b)).setCell (p:=⟨w.heap.size,2,ν⟩) (ϊ _) (ξ κ (gx l).c);refine à (v:=η #[ξ κ (gx l).a,ξ κ (gx l).b,ξ κ (gx l).c]) (by simp[results,Tryz.results128,go_sem,t0,t1,t2]) rfl ⟨rfl,dR⟩
def anQ(w:Ψ)(a b:Int)(e:TypeId):Row (w.alloc (Ξ #[ξ κ a,ξ κ b] e)) (w.heap.size+1) 1 bI (ζ (φ ⟨w.heap.size,0,ν⟩) 2 2) [a,b]:=
 AS (xs:=[a,b]) (sz:=1) (R:=bI) (qk:=[[ξ κ a],[ξ κ b]]) (Bk.new w _ _) (by omega) (by simp) rfl (by simp) (λi x c hx hc=>by
  match i with
  |0=>cases hx;cases hc;exact⟨rfl,rfl⟩
  |1=>cases hx;cases hc;exact⟨rfl,rfl⟩
  |i+2=>simp at hx) (λi c hc j u hu=>by
  match i with
  |0=>
   cases hc;match j with
   |0=>exact hu
   |j+1=>simp at hu
  |1=>
   cases hc;match j with
   |0=>exact hu
   |j+1=>simp at hu
  |i+2=>simp at hc) (c:=2) (by simp) (by omega)
def akz{l:List Int}(h:sf b l=0):l.length=b.pieces.length/\∀n∈l,1<=n/\n<=40:=by
 unfold sf at h;split at h
 ·contradiction
 ·rename_i h1
  split at h
  ·contradiction
  ·rename_i h2
   refine⟨by simpa using h1,λn hn=>?_⟩
   have h2:l.any (λn=> !cj n 1 40)=χ:=by simpa using h2
   have:=List.any_eq_false.1 h2 n hn;exact nS (by simpa using this)
def akj{l:List Int}(h:∀n∈l,1<=n/\n<=40):(gx l).Ok:=by
 have key:∀i:Nat,0<=(l[i]?.getD 0:Int)/\(l[i]?.getD 0:Int)<=1000:=by
  intro i;cases e:l[i]? with
  |none=>exact⟨by simp,by simp⟩
  |some x=>
   have:=h x (Ϩ e);simp only[Option.getD_some];omega
 intro i;have k0:=key 0;have k1:=key 1;have k2:=key 2;unfold al.at gx;match i with
 |0=>exact k0
 |1=>exact k1
 |i+2=>exact k2
def fW(w:Ψ)(s:Int)(p q r:υ):Ψ:=w.alloc (ϣ #[ξ κ s,p,q,r] 117)
def afE(w:Ψ)(s:Int)(p q r:υ):Γ w.heap.size w (fW w s p q r):=(ώ _ _).alloc (ϊ _) _
def Ue{l:List Int}{lC:List Cut}{cv:υ}(hB:B<=w.heap.size)(ah:aQ w B b pv bv tv)(hl:Row w B 1 bI lv l)(hc:Row w B 2 Cut.R cv lC)(h0:cZ b=0)(h:scan (λ_ s=>s) [] [sf b l,gZ b lC]=0):
 ύ prog 43 #[η #[ξ κ b.ab,pv,bv,tv],lv,cv] w λe w'=>e=Ω (μ #[.bool (db b (gx l) lC),ξ κ 0])/\Γ w.heap.size w w':=by
 have bD:=ψ ah;have HL:=ψ hl;have HC:=ψ hc;have H0:=ψ h0;obtain⟨A1,n1,c1,rfl,-⟩:=ah.pieces.Φ;obtain⟨A2,n2,c2,rfl,-⟩:=ah.aC.Φ;obtain⟨A3,n3,c3,rfl,-⟩:=ah.aI.Φ;obtain⟨A4,n4,c4,rfl,-⟩:=hl.Φ;obtain⟨A5,n5,c5,rfl,-⟩:=hc.Φ;obtain⟨s1,di⟩:∃s,s=sf b l:=⟨_,rfl⟩
 obtain⟨s2,dN⟩:∃s,s=gZ b lC:=⟨_,rfl⟩
 rw[<-di,<-dN] at h;obtain⟨S,hS⟩:∃S,S=scan (λ_ s=>s) [] [s1,s2]:=⟨_,rfl⟩
 rw[<-hS] at h;have HS:=ψ (Ϗ hS (Ϗ di dN));have hd:(S !=0)=χ:=by simp[h]
 clear ah hl hc h0 hS di dN;go_enter func43,Tryz.ntmps43;go_wp2_with (first
  | (go_at_call 68;refine(qj (bD.e.still ((Δ.refl w).alloc hB _)) (by simp;omega) H0.e).mono ?_;rintro e w1 ⟨rfl,ai⟩
     have kb:Bk w1 w.heap.size 26 #[ξ κ b.ab,ζ A1 n1 c1,ζ A2 n2 c2,ζ A3 n3 c3]:=(Bk.new w _ _).below ai (by simp)
     have b0:=kb.cell 0;have b1:=kb.cell 1;have b2:=kb.cell 2;have b3:=kb.cell 3;have aW:=ψ (da (ώ _ _) ai (ϊ _));clear kb ai))
 have HW:=ψ (afE w1 b.ab (ζ A1 n1 c1) (ζ A2 n2 c2) (ζ A3 n3 c3));have kw:Bk (fW w1 b.ab (ζ A1 n1 c1) (ζ A2 n2 c2) (ζ A3 n3 c3)) w1.heap.size 117 #[ξ κ b.ab,ζ A1 n1 c1,ζ A2 n2 c2,ζ A3 n3 c3]:=Bk.new w1 _ _;have k0:=kw.cell 0;have k1:=kw.cell 1;have k2:=kw.cell 2;have k3:=kw.cell 3;have HZ:=ψ kw.lt;change Code.wp _ _ _ _ (fW w1 b.ab (ζ A1 n1 c1) (ζ A2 n2 c2) (ζ A3 n3 c3));clear kw b0 b1 b2 b3;generalize fW w1 b.ab (ζ A1 n1 c1) (ζ A2 n2 c2) (ζ A3 n3 c3)=W3 at HW k0 k1 k2 k3 HZ |-
 have lx:Hid (Γ (w1.heap.size+1) W3 W3.drew):=ψ (dT (ώ _ _));have hle:B<=w1.heap.size:=by have:=aW.e.size;omega
 have CL:Hid (∀w',Γ (w1.heap.size+1) W3 w'->ύ prog 127 #[η #[ξ κ b.ab,ζ A1 n1 c1,ζ A2 n2 c2,ζ A3 n3 c3],ζ A4 n4 c4] w' λe bz=>e=Ω (ξ κ s1)/\Γ (w1.heap.size+1) W3 bz):=ψ λw' hw=>by
  have st:Δ B w w':=(Δ.aJ aW.e hB).trans ((Δ.aJ HW.e hle).trans (Δ.aJ hw (by omega)))
  have aN:=hw.size;have:=HZ.e;refine(akv (B:=B) (bD.e.still st) (HL.e.still st λ_ _ h=>h) (by omega)).mono ?_
  rintro e bz ⟨rfl,hb⟩;exact⟨bm HS.e.2.1.symm,hw.trans (hb.mono (by omega))⟩
 have CC:Hid (∀w',Γ (w1.heap.size+1) W3 w'->ύ prog 109 #[η #[ξ κ b.ab,ζ A1 n1 c1,ζ A2 n2 c2,ζ A3 n3 c3],ζ A5 n5 c5] w' λe bz=>e=Ω (ξ κ s2)/\Γ (w1.heap.size+1) W3 bz):=ψ λw' hw=>by
  have st:Δ B w w':=(Δ.aJ aW.e hB).trans ((Δ.aJ HW.e hle).trans (Δ.aJ hw (by omega)))
  have aN:=hw.size;have:=HZ.e;refine(MK (B:=B) (bD.e.still st) (HC.e.still st λ_ _ h=>h) (by omega)).mono ?_
  rintro e bz ⟨rfl,hb⟩;exact⟨bm HS.e.2.2.symm,hw.trans (hb.mono (by omega))⟩
 have CE:∀ {w':Ψ} {j:Nat} {v:υ},Γ (w1.heap.size+1) W3 w'-> W3.cell? ⟨w1.heap.size,j,ν⟩=φ v-> w'.cell? ⟨w1.heap.size,j,ν⟩=φ v:=λhb hv=>(hb.cell (Nat.lt_succ_self _)).trans hv
 have AL:∀ {w':Ψ},Γ (w1.heap.size+1) W3 w'->∀o,Γ (w1.heap.size+1) W3 (w'.alloc o):=λhb o=>hb.alloc (by have:=hb.size;have:=HZ.e;omega) o
 go_region_held3 (λw'=> w'.cell? ⟨w1.heap.size,0,ν⟩=φ (ξ κ b.ab)/\ w'.cell? ⟨w1.heap.size,1,ν⟩=φ (ζ A1 n1 c1)/\ w'.cell? ⟨w1.heap.size,2,ν⟩=φ (ζ A2 n2 c2)/\ w'.cell? ⟨w1.heap.size,3,ν⟩=φ (ζ A3 n3 c3)/\Hid (Γ (w1.heap.size+1) W3 w'))
  (first|exact⟨k0,k1,k2,k3,lx⟩ |exact⟨CE pZ.e k0,CE pZ.e k1,CE pZ.e k2,CE pZ.e k3,pZ⟩ |exact⟨CE ow.e k0,CE ow.e k1,CE ow.e k2,CE ow.e k3,ow⟩ |exact⟨CE (AL pZ.e _) k0,CE (AL pZ.e _) k1,CE (AL pZ.e _) k2,CE (AL pZ.e _) k3,ψ (AL pZ.e _)⟩ |exact⟨CE (AL ow.e _) k0,CE (AL ow.e _) k1,CE (AL ow.e _) k2,CE (AL ow.e _) k3,ψ (AL ow.e _)⟩)
  (first
    | (go_at_call 127
       refine(CL.e _ ?hx).mono ?_
       case hx=>first|exact pZ.e|exact lx.e
       rintro e w4 ⟨rfl,cU⟩;have ow:=ψ cU;clear cU)
    | (go_at_call 109
       refine(CC.e _ ?hx).mono ?_
       case hx=>first|exact ow.e|exact lx.e
       rintro e w5 ⟨rfl,dB⟩;have pZ:=ψ dB;clear dB)
    | (go_at_call 126
       refine(first (anQ _ _ _ _)).mono ?_
       rintro e w6 ⟨rfl,rfl⟩;rw[<-HS.e.1]))
 go_wp2;have rW:sf b l=0/\gZ b lC=0:=by
  have h:=HS.e.1;have hz:(scan (λ_ s=>s) [] [s1,s2]:Int)=0:=by
   have Ii:S=0:=by simpa using hd
   rw[<-h,Ii]
  unfold scan at hz;split at hz
  ·contradiction
  ·rename_i h1
   unfold scan at hz;split at hz
   ·contradiction
   ·rename_i h2
    exact⟨by rw[<-HS.e.2.1];simpa using h1,by rw[<-HS.e.2.2];simpa using h2⟩
 have cD:=Hn (fG H0.e) rW.2;have qx:=akz rW.1;have Oq:=akj qx.2;have hv:=fG H0.e;have iX:=hv.np.2;have xH:l.length<=3:=by rw[qx.1];exact iX
 obtain⟨W5,sQ⟩:∃W5,W5=w5.alloc (ϣ #[Ϝ ϙ s1,Ϝ ϙ s2] 30):=⟨_,rfl⟩
 have dB:Γ (w1.heap.size+1) W3 W5:=by rw[sQ];exact AL pZ.e _
 rw[<-sQ];have fS:=ψ dB;have j0:=CE dB k0;have j1:=CE dB k1;have j2:=CE dB k2;have j3:=CE dB k3;have HJ:Hid (Γ (w1.heap.size+1) W3 W5.drew):=ψ (dT dB);obtain⟨L,hL⟩:∃L,L=gx l:=⟨_,rfl⟩
 rw[<-hL] at Oq;have wy:=ψ hL;have Wt:Hid (∀w',Γ (w1.heap.size+1) W3 w'->ύ prog 128 #[ζ A4 n4 c4] w' λe bz=>e=Ω (η #[ξ κ L.a,ξ κ L.b,ξ κ L.c])/\Γ (w1.heap.size+1) W3 bz):=ψ λw' hw=>by
  have st:Δ B w w':=(Δ.aJ aW.e hB).trans ((Δ.aJ HW.e hle).trans (Δ.aJ hw (by omega)))
  have aN:=hw.size;have:=HZ.e;refine(aki (B:=B) (HL.e.still st λ_ _ h=>h) (by omega) xH).mono ?_
  rintro e bz ⟨rfl,hb⟩;rw[<-wy.e];exact⟨rfl,hw.trans (hb.mono (by omega))⟩
 have CD:Hid (∀w',Γ (w1.heap.size+1) W3 w'->ύ prog 110 #[η #[ξ κ b.ab,ζ A1 n1 c1,ζ A2 n2 c2,ζ A3 n3 c3],η #[ξ κ L.a,ξ κ L.b,ξ κ L.c],ζ A5 n5 c5] w' λe bz=>e=Ω (.bool (db b L lC))/\Γ (w1.heap.size+1) W3 bz):=ψ λw' hw=>by
  have st:Δ B w w':=(Δ.aJ aW.e hB).trans ((Δ.aJ HW.e hle).trans (Δ.aJ hw (by omega)))
  have aN:=hw.size;have:=HZ.e;refine(MN (B:=B) (bD.e.still st) (HC.e.still st λ_ _ h=>h) (by omega) cD.len cD.three cD.lC Oq cD.ab).mono ?_
  rintro e bz ⟨rfl,hb⟩;exact⟨rfl,hw.trans (hb.mono (by omega))⟩
 have KK:=ψ (Ϗ k0 (Ϗ k1 (Ϗ k2 k3)));clear cD qx Oq hv iX xH sQ dB k0 k1 k2 k3 rW hL;go_region_held3 (λw'=> w'.cell? ⟨w1.heap.size,0,ν⟩=φ (ξ κ b.ab)/\ w'.cell? ⟨w1.heap.size,1,ν⟩=φ (ζ A1 n1 c1)/\ w'.cell? ⟨w1.heap.size,2,ν⟩=φ (ζ A2 n2 c2)/\ w'.cell? ⟨w1.heap.size,3,ν⟩=φ (ζ A3 n3 c3)/\Hid (Γ (w1.heap.size+1) W3 w'))
  (first|exact⟨j0,j1,j2,j3,HJ⟩ |exact⟨i0,i1,i2,i3,HI⟩ |exact⟨CE HN.e KK.e.1,CE HN.e KK.e.2.1,CE HN.e KK.e.2.2.1,CE HN.e KK.e.2.2.2,HN⟩)
  (first
    | (go_at_call 128
       refine(Wt.e _ ?hx).mono ?_
       case hx=>exact HJ.e
       rintro e w7 ⟨rfl,oH⟩;have i0:=CE oH KK.e.1;have i1:=CE oH KK.e.2.1;have i2:=CE oH KK.e.2.2.1;have i3:=CE oH KK.e.2.2.2;have HI:=ψ oH;clear oH)
    | (go_at_call 110
       refine(CD.e _ ?hx).mono ?_
       case hx=>exact HI.e
       rintro e w8 ⟨rfl,pF⟩;have HN:=ψ pF;clear pF))
 go_wp2
 go_ret2
 exact⟨by rw[wy.e];rfl,aW.e.trans ((HW.e.mono (by have:=aW.e.size;omega)).trans (HN.e.mono (by have:=aW.e.size;omega)))⟩
def aQ.more{w:Ψ}{B B':Nat}{b:eR}{pv bv tv:υ}(h:aQ w B b pv bv tv)(hB:B<=B'):aQ w B' b pv bv tv:=
 ⟨h.pieces.more hB,(h.aC.more hB).still (Δ.refl w) λ_ _ ⟨kv,e1,e2,e3⟩=>⟨kv,e1,e2,e3.more hB⟩,(h.aI.more hB).still (Δ.refl w) λ_ _ ⟨pv,e1,e3⟩=>⟨pv,e1,e3.more hB⟩⟩
def SI{l:List Cut}(hB:B<=w.heap.size)(ah:aQ w B b pv bv tv)(hl:Row w B 2 Cut.R lv l)(hg:Bk w g 27 #[lv]):uB b pv bv tv w 113 #[π (φ ⟨g,0,ν⟩)] (gZ b l):=by
 have bD:=ψ ah;have HL:=ψ hl;refine⟨call113,λ_ W hW=>?_⟩
 have kA:=hg.lt;obtain⟨A,n,c,rfl,-⟩:=hl.Φ;have g0: W.cell? ⟨g,0,ν⟩=φ (ζ A n c):=(hg.below hW kA).cell 0;have hz:g<W.heap.size:=by have:=hW.size;omega
 have WA:g<=W.heap.size:=by omega
 have sW:Δ B w W:=Δ.aJ hW hB;have UI:B<=W.heap.size:=by have:=hW.size;omega
 obtain⟨A1,n1,c1,rfl,-⟩:=ah.pieces.Φ;obtain⟨A2,n2,c2,rfl,-⟩:=ah.aC.Φ;obtain⟨A3,n3,c3,rfl,-⟩:=ah.aI.Φ;have call:=MK (w:=W.alloc (Ξ #[ξ κ b.ab,ζ A1 n1 c1,ζ A2 n2 c2,ζ A3 n3 c3] 117)) (B:=B) (bD.e.still (sW.alloc UI _)) (HL.e.still (sW.alloc UI _) λ_ _ h=>h) (by simp;omega)
 have aG:=ψ call;clear ah hl hW hg sW call;refine app1 ?_
 go_enter func113,Tryz.ntmps113;go_wp2_with (first
  | (go_at_call 109;refine aG.e.mono ?_;rintro e w1 ⟨rfl,ai⟩))
 go_ret;exact⟨bm rfl,da (ώ _ _) ai (ϊ _)⟩
def Gg(b:eR)(G:al)(l:List Cut)(out:List Int)(i:Nat):List Int:=match l[i]? with
 |some c=>out.set c.bt.toNat (min (out[c.bt.toNat]?.getD 0) ((kF b c.bt.toNat:Int) - c.from_ - G.at i))
 |none=>out
def od(b:eR)(l:List Cut)(n:Nat):List Int:=(ε n).foldl (Gg b (cB (aB b)) l) (b.aC.map (·.aL))
def apc(b:eR)(G:al)(l:List Cut)(out:List Int)(i:Nat):(Gg b G l out i).length=out.length:=by
 unfold Gg;split<;>simp
def YO(b:eR)(l:List Cut)(n:Nat):od b l (n+1)=Gg b (cB (aB b)) l (od b l n) n:=by
 unfold od;rw[Ŭ,List.foldl_append];rfl
def YN(b:eR)(l:List Cut)(n:Nat):(od b l n).length=b.aC.length:=by
 induction n with
 |zero=>simp[od]
 |succ n ih=>rw[YO,apc,ih]
def ajF{w3 wq:Ψ}(h:w3.heap.size<wq.heap.size)(hg:g<w3.heap.size):g<wq.heap.size:=by omega
def C6(b:eR)(l:List Cut):List Int:=od b l l.length
def ape{l:List Cut}(hB:B<=w.heap.size)(ah:aQ w B b pv bv tv)(hl:Row w B 2 Cut.R lv l)(h:bT b (gZ b l)=0)(Fb:Gk b (aB b) l=θ):
 ύ prog 31 #[η #[ξ κ b.ab,pv,bv,tv],lv] w λe w'=>∃v,e=Ω (μ #[v,ξ κ 0])/\w'.ownsRow w.heap.size 3 1 v (C6 b l).length ((C6 b l).map (ξ κ))/\Γ w.heap.size w w':=by
 have st:Δ B w ((w.alloc (Ξ #[ξ κ b.ab,pv,bv,tv] 26)).alloc (Ξ #[lv] 27)):=((Δ.refl w).alloc hB _).alloc (by simp;omega) _
 have aG:=ψ (ym (w:=((w.alloc (Ξ #[ξ κ b.ab,pv,bv,tv] 26)).alloc (Ξ #[lv] 27))) (B:=B) (by simp;omega) (ah.still st) (SI (by simp;omega) (ah.still st) (hl.still st λ_ _ h=>h) (Bk.bZ (g:=w.heap.size+1) (by simp) _ _)) h)
 have hz:=mX h;have hv:=fG hz.1;have OK:=ψ (Ϗ (Hn hv hz.2.1) (wI hv));have bD:=ψ ah;have wy:=ψ hl;have HV:=ψ hv;have iW:b.aC.length<=3:=hv.nb;have LC:=ψ Fb;obtain⟨i0,cJ,cK,aO,aZ⟩:=Ą Pd;have cy:=ψ (Ϗ cJ (Ϗ cK (Ϗ aO aZ)));obtain⟨A1,n1,c1,rfl,-⟩:=ah.pieces.Φ;obtain⟨A2,n2,c2,rfl,e2,h2,ei,r2⟩:=ah.aC.Φ;obtain⟨A3,n3,c3,rfl,-⟩:=ah.aI.Φ;obtain⟨A,n,c,rfl,e5,h5,H9,r5⟩:=hl.Φ;have R2:=ψ r2;have R5:=ψ r5;have yN:=ψ (Ϗ e2 e5);unfold ϑ at ei H9;have VV:n2<=3:=by omega
 clear ah hl st hz hv h cJ cK aO aZ r2 r5 e2 e5 Fb iW;go_enter func31,Tryz.ntmps31;go_wp2_with (first
  | (go_at_call 98;refine aG.e.mono ?_;rintro e w1 ⟨sv,rfl,aH,ai⟩
     obtain⟨A9,n9,c9,rfl,dh,kW,fg,jz⟩:=aH.row.Φ;have HO:=ψ aH;have kb:Hid (Bk w1 w.heap.size 26 #[ξ κ b.ab,ζ A1 n1 c1,ζ A2 n2 c2,ζ A3 n3 c3]):=ψ (((Bk.new w _ _).alloc _).below ai (by simp;omega))
     have kl:Hid (Bk w1 (w.heap.size+1) 27 #[ζ A n c]):=ψ ((Bk.bZ (by simp) _ _).below ai (by simp))
     have aO:w.heap.size+2<=w1.heap.size:=by have:=ai.size;simpa using this
     have ai3:w.heap.size+1<w1.heap.size:=by omega
     have ai4:w.heap.size+1<=w1.heap.size:=by omega
     have l0:=kl.e.cell 0;have dk:Γ w.heap.size w w1:=((((ώ _ _).alloc (ϊ _) _).alloc (by simp) _).trans (ai.mono (by simp;omega)))
     have aW:=ψ dk;have LQ:Hid (ύ prog 114 #[η #[ξ κ b.ab,ζ A1 n1 c1,ζ A2 n2 c2,ζ A3 n3 c3,ζ A9 n9 c9],ζ A n c] (w1.alloc (Ξ #[ξ κ b.ab,ζ A1 n1 c1,ζ A2 n2 c2,ζ A3 n3 c3,ζ A9 n9 c9] 122)) λe w'=>e=Ω (.bool θ)/\Γ (w1.heap.size+1) (w1.alloc (Ξ #[ξ κ b.ab,ζ A1 n1 c1,ζ A2 n2 c2,ζ A3 n3 c3,ζ A9 n9 c9] 122)) w'):=ψ (by
      have vT:Δ B w (w1.alloc (Ξ #[ξ κ b.ab,ζ A1 n1 c1,ζ A2 n2 c2,ζ A3 n3 c3,ζ A9 n9 c9] 122)):=(Δ.aJ dk hB).alloc (by omega) _
      refine(Y1 (B:=w1.heap.size) (ps:=aB b) (b:=b) (l:=l) ((bD.e.still vT).more (by omega)) (aH.row.still ((Δ.refl w1).alloc (ϊ _) _) λ_ _ h=>h) ((wy.e.still vT λ_ _ h=>h).more (by omega)) (by simp) OK.e.1 OK.e.2).mono ?_
      rintro e w' ⟨rfl,hb⟩;rw[LC.e];exact⟨rfl,hb.mono (by simp)⟩)
     clear ai aH dh jz dk)
  | (go_at_call 114
     refine LQ.e.mono ?_
     rintro e w2 ⟨rfl,an⟩;have kf:Bk w2 w1.heap.size 122 #[ξ κ b.ab,ζ A1 n1 c1,ζ A2 n2 c2,ζ A3 n3 c3,ζ A9 n9 c9]:=(Bk.new w1 _ _).below an (by omega)
     have KF:=ψ kf;have zM:Γ w1.heap.size w1 w2:=((ώ _ _).alloc (by omega) _).trans (an.mono (by omega))
     have dj:=ψ zM;have aZ:w1.heap.size+1<=w2.heap.size:=kf.lt;have nT:=kb.e.below zM (by omega)
     have b2: w2.cell? ⟨w.heap.size,2,ν⟩=φ (ζ A2 n2 c2):=nT.cell 2;have gw:w.heap.size<w2.heap.size:=by omega
     have WB:w.heap.size<=w2.heap.size:=by omega
     clear kf nT an zM l0))
 go_loopw [8,10,32] (λo p u wr=>∃i:Nat,i<=n2/\u=ξ κ i/\Hid (wr.ownsRow w2.heap.size 3 1 o i ((b.aC.take i).map λx=>ξ κ x.aL))/\Hid (Γ w2.heap.size w2 wr)) (λ_ _ u _=>n2 - (ϗ u).toNat)
 case atStart=>exact⟨0,Ϡ _,rfl,ψ ⟨by simp,.inl ⟨rfl,rfl⟩⟩,ψ (ώ _ _)⟩
 case round=>
  obtain⟨i,hi,rfl,GP,hb⟩:=hrel;have aN:=hb.e.size;have st:Δ B w wr:=(Δ.aJ aW.e hB).trans (Δ.aJ (dj.e.trans (hb.e.mono (by omega))) (by omega))
  by_cases ao:i<n2
  ·obtain⟨ad,x,cs,rfl,aE,hx,⟨kv,rfl,dD,dC⟩,-,aq⟩:=R2.e i ao
   obtain⟨A6,n6,c6,rfl,-⟩:=dC.Φ;have g0:=cA aq st aE rfl;have g1:=bj aq st aE 0 rfl;have g2:=bj aq st aE 1 rfl;have rK:(ad.add (i * 3)).block<wr.heap.size:=by rw[b9];omega
   have HX:=ψ hx;clear hx aq dC st;go_wp2_with (first
    | (at_builtin
       refine ĭ _ rfl (.tmp 36) (.tmp 39) 33 rfl w2.heap.size 3 i0 (ξ κ 0) 1 8 (U Tryz.underlying33) cy.e.1 cy.e.2.1 cy.e.2.2.1 cy.e.2.2.2 rfl (by decide) _ i _ rfl ((GP.e.alloc _).alloc _) ⟨wr.heap.size+1,0,ν⟩ 1 1 [ξ κ x.aL] rfl rfl ?c1 ?c2 ?c3 ?c4 ?c5 ?_
       case c1=>(intro j u hu;match j,hu with|0,hu=>(simp at hu;subst hu;simp[go_sem,ċ]))
       case c2=>simp[Value.oneCell']
       case c3=>(simp only[ϑ];omega)
       case c4=>omega
       case c5=>(simp;omega)
       intro v' w3 b7 cW _;have gC:=ψ b7;have gX:=ψ cW;clear b7 cW))
   go_roundw;case rel=>exact⟨i+1,by omega,by go_num,ψ (by rw[pT HX.e,Ah8];exact gC.e),
    ψ ((hb.e.trans (((ώ _ _).alloc aN _).alloc (by simp;omega) _)).grown gX.e (by simp;omega) (λk hk=>dX GP.e k hk))⟩
   case measure=>simp[ϗ];omega
  ·obtain rfl:i=n2:=by omega
   have xJ:((b.aC.take i).map λx=>ξ κ x.aL)=(od b l 0).map (ξ κ):=by
    rw[Ċ (ú yN.e.1)];simp[od]
   have ZI:Hid (wr.ownsRow w2.heap.size 3 1 u8 i ((od b l 0).map (ξ κ))):=ψ (xJ▸GP.e);have wm:Hid (Γ w1.heap.size w1 wr):=ψ (dj.e.trans (hb.e.mono (by omega)))
   have CJ:Bk wr w1.heap.size 122 #[ξ κ b.ab,ζ A1 n1 c1,ζ A2 i c2,ζ A3 n3 c3,ζ A9 n9 c9]:=KF.e.below hb.e (by omega)
   have f0:=CJ.cell 0;have f1:=CJ.cell 1;have f2:=CJ.cell 2;have f3:=CJ.cell 3;have f4:=CJ.cell 4;have GR:=ψ (UB (w:=wr) (B:=w1.heap.size) (s:=b.ab) (ps:=aB b) (pv:=ζ A1 n1 c1) (bv:=ζ A2 i c2) (tv:=ζ A3 n3 c3) (HO.e.row.still (Δ.aJ wm.e (ϊ _)) λ_ _ h=>h) (by omega) ⟨_,_,_,rfl⟩ ⟨_,_,_,rfl⟩ ⟨_,_,_,rfl⟩)
   obtain⟨G,hG⟩:∃G,G=cB (aB b):=⟨_,rfl⟩
   rw[<-hG] at GR;unfold al.cs at GR;have HG:=ψ hG;clear hG xJ GP CJ;go_wp2_with (first
    | (go_at_call 115
       refine GR.e.mono ?_
       rintro e w3 ⟨rfl,bK⟩;have NF:Γ w2.heap.size w2 w3:=hb.e.trans (bK.mono (by omega))
       have Lb:=ψ NF;have Xa:Bk w3 (w.heap.size+1) 27 #[ζ A n c]:=kl.e.below (dj.e.trans (NF.mono (by omega))) (by omega)
       have l0:=Xa.cell 0;have sc:wr.heap.size<=w3.heap.size:=bK.size;have Pa:w.heap.size+1<w3.heap.size:=by omega
       have asT:w.heap.size+1<=w3.heap.size:=by omega
       have wA:Hid (w3.ownsRow w2.heap.size 3 1 u8 i ((od b l 0).map (ξ κ))):=ψ (si ZI.e bK (ϊ _));clear bK NF Xa f0 f1 f2 f3 f4))
   obtain⟨A8,c8,rfl,hA8,hc8,ahi⟩:=JF wA.e;unfold ϑ at ahi;go_loopw [12,13,46] (λp q u wq=>∃j:Nat,j<=n/\u=ξ κ j/\Hid (wq.ownsRow w2.heap.size 3 1 (ζ A8 i c8) i ((od b l j).map (ξ κ)))/\Hid (Γ w2.heap.size w2 wq)/\Hid (Bk wq w3.heap.size 128 #[ξ κ G.a,ξ κ G.b,ξ κ G.c])) (λ_ _ u _=>n - (ϗ u).toNat)
   case atStart=>exact⟨0,Ϡ _,rfl,ψ (wA.e.alloc _),ψ (Lb.e.alloc (by have:=Lb.e.size;omega) _),ψ (Bk.new w3 _ _)⟩
   case round=>
    obtain⟨wq,rfl⟩:∃wq:Ψ,wq=wr:=⟨_,rfl⟩
    obtain⟨j,hj,rfl,GO,Ev,IF⟩:=hrel;have asL:=Ev.e.size;have IJ:=IF.e.lt;by_cases ao:j<n
    ·obtain⟨ad,x,cs,rfl,aE,hx,rfl,-,aq⟩:=R5.e j ao
     obtain⟨bd,fr⟩:=x;have JC:=OK.e.1.lC j _ hx;obtain⟨k,hk,cP⟩:=JC.bt;obtain rfl:bd=(k:Int):=hk;have cq:0<=fr/\fr<=40:=JC.from_;have rS:k<i:=by have:=yN.e.1;omega
     have RF:j<3:=by have:=OK.e.1.len;have:=OK.e.1.three;have:=yN.e.2;omega
     have Vo:(j:Int)<3:=by omega
     obtain⟨g8,rfl,Oc,ahN,arA,ahu⟩:=hA8 (by omega)
     obtain⟨Sw,xb,csb,eb,UQ,O7,⟨kvb,rfl,asC,ah4⟩,-,UY⟩:=R2.e k rS;subst eb;have asj:(od b l j).length=i:=by rw[YN];exact yN.e.1
     obtain⟨ov,xN⟩:∃ov,(od b l j)[k]?=φ ov:=⟨_,Ã (by omega)⟩
     have st:Δ B w wq:=(Δ.aJ aW.e hB).trans (Δ.aJ (dj.e.trans (Ev.e.mono (by omega))) (by omega))
     have h0:=cA aq st aE rfl;have h1:=bj aq st aE 0 rfl;have q1:=bj UY st UQ 0 rfl;have o1: wq.cell? ⟨g8,k,ν⟩=φ (ξ κ ov):=by
      have:=vK GO.e k (ξ κ ov) (by rw[Š,xN];rfl)
      rwa[kP] at this
     have z1: wq.frozen? ⟨g8,k,ν⟩=χ:=by
      obtain⟨_,_,e,h,_⟩:=JF GO.e;obtain⟨g,e2,_,_,cur,hc⟩:=h (by omega)
      cases e;cases e2;rw[Go.Sim.zp (a:=⟨g8,k,ν⟩) hc];rfl
     have W7:=kb.e.below (dj.e.trans (Ev.e.mono (by omega))) (by omega)
     have b2: wq.cell? ⟨w.heap.size,2,ν⟩=φ (ζ (φ Sw) i c2):=W7.cell 2;have gj: wq.cell? ⟨w3.heap.size,j,ν⟩=φ (ξ κ (G.at j)):=(IF.e.cell j).trans (al.wU (n:=G) RF);have VP:kF b k=xb.aL.toNat:=by unfold kF;rw[O7]
     have Cx:=(HV.e.bt xb (Ϩ O7)).aL;have hGa:=(UC (aB b) OK.e.2) j;rw[<-HG.e] at hGa;have NX:Hid (od b l (j+1)=(od b l j).set k (min ov (xb.aL - fr - G.at j))):=ψ (by
      rw[YO];unfold Gg;rw[hx,<-HG.e];simp only[Int.toNat_natCast,xN,Option.getD_some,VP];rw[Int.toNat_of_nonneg (by omega)])
     have y0:g8<wq.heap.size:=by have:=Lb.e.size;exact ajF (w3:=w3) IF.e.lt ahN
     have y1:w.heap.size<wq.heap.size:=by omega
     have y2:w.heap.size<=wq.heap.size:=by omega
     have y3:w3.heap.size<=wq.heap.size:=by omega
     have y4:(Sw.add (k * 3)).block<wq.heap.size:=by rw[b9];omega
     have y5:(ad.add (j * 2)).block<wq.heap.size:=by rw[b9];omega
     have y6:g8<=wq.heap.size:=by omega
     have asi:(k:Int)<i:=by omega
     clear hx aq JC O7 UY ah4 xN W7 st ahu VP;go_wp2;refine tA 24 (by kernel_rfl) (by kernel_rfl) ?_
     simp only[ê,ë,ñ,ò];repeat still_step
     refine wpStill_nil ?_
     go_wp2;go_roundw;case rel=>exact⟨j+1,by omega,by go_num,ψ (by
      rw[NX.e,List.map_set];exact(yu (u:=ξ κ (min ov (xb.aL - fr - G.at j))) GO.e (by omega)).alloc _),
      ψ (dT ((Ev.e.setCell (p:=⟨g8,k,ν⟩) Oc _).alloc (by simp[ï];omega) _)),ψ (Bk.alloc (IF.e.dV (by simp;omega) _) _)⟩
     case measure=>simp[ϗ];omega
    ·obtain rfl:j=n:=by omega
     go_wp2
     go_ret2
     refine⟨_,rfl,?_,?_⟩
     ·have sV:(C6 b l).length=i:=by unfold C6;rw[YN];exact yN.e.1
      rw[sV];unfold C6;rw[yN.e.2];exact GO.e.base (by omega)
     ·exact aW.e.trans ((dj.e.mono (by omega)).trans (Ev.e.mono (by omega)))
def apd{l:List Cut}(hB:B<=w.heap.size)(ah:aQ w B b pv bv tv)(hl:Row w B 2 Cut.R lv l)(h:bT b (gZ b l)=0)(Fb:Gk b (aB b) l=χ):
 ύ prog 31 #[η #[ξ κ b.ab,pv,bv,tv],lv] w λe w'=>e=Ω (μ #[ζ ν 0 0,ξ κ 8])/\Γ w.heap.size w w':=by
 have st:Δ B w ((w.alloc (Ξ #[ξ κ b.ab,pv,bv,tv] 26)).alloc (Ξ #[lv] 27)):=((Δ.refl w).alloc hB _).alloc (by simp;omega) _
 have aG:=ψ (ym (w:=((w.alloc (Ξ #[ξ κ b.ab,pv,bv,tv] 26)).alloc (Ξ #[lv] 27))) (B:=B) (by simp;omega) (ah.still st) (SI (by simp;omega) (ah.still st) (hl.still st λ_ _ h=>h) (Bk.bZ (g:=w.heap.size+1) (by simp) _ _)) h)
 have hz:=mX h;have hv:=fG hz.1;have OK:=ψ (Ϗ (Hn hv hz.2.1) (wI hv));have bD:=ψ ah;have wy:=ψ hl;have HV:=ψ hv;have iW:b.aC.length<=3:=hv.nb;have LC:=ψ Fb;obtain⟨A1,n1,c1,rfl,-⟩:=ah.pieces.Φ;obtain⟨A2,n2,c2,rfl,e2,h2,ei,r2⟩:=ah.aC.Φ;obtain⟨A3,n3,c3,rfl,-⟩:=ah.aI.Φ;obtain⟨A,n,c,rfl,e5,h5,H9,r5⟩:=hl.Φ;have R2:=ψ r2;have R5:=ψ r5;have yN:=ψ (Ϗ e2 e5);unfold ϑ at ei H9;have VV:n2<=3:=by omega
 clear ah hl st hz hv h r2 r5 e2 e5 Fb iW;go_enter func31,Tryz.ntmps31;go_wp2_with (first
  | (go_at_call 98;refine aG.e.mono ?_;rintro e w1 ⟨sv,rfl,aH,ai⟩
     obtain⟨A9,n9,c9,rfl,dh,kW,fg,jz⟩:=aH.row.Φ;have HO:=ψ aH;have kb:Hid (Bk w1 w.heap.size 26 #[ξ κ b.ab,ζ A1 n1 c1,ζ A2 n2 c2,ζ A3 n3 c3]):=ψ (((Bk.new w _ _).alloc _).below ai (by simp;omega))
     have kl:Hid (Bk w1 (w.heap.size+1) 27 #[ζ A n c]):=ψ ((Bk.bZ (by simp) _ _).below ai (by simp))
     have aO:w.heap.size+2<=w1.heap.size:=by have:=ai.size;simpa using this
     have ai3:w.heap.size+1<w1.heap.size:=by omega
     have ai4:w.heap.size+1<=w1.heap.size:=by omega
     have l0:=kl.e.cell 0;have dk:Γ w.heap.size w w1:=((((ώ _ _).alloc (ϊ _) _).alloc (by simp) _).trans (ai.mono (by simp;omega)))
     have aW:=ψ dk;have LQ:Hid (ύ prog 114 #[η #[ξ κ b.ab,ζ A1 n1 c1,ζ A2 n2 c2,ζ A3 n3 c3,ζ A9 n9 c9],ζ A n c] (w1.alloc (Ξ #[ξ κ b.ab,ζ A1 n1 c1,ζ A2 n2 c2,ζ A3 n3 c3,ζ A9 n9 c9] 122)) λe w'=>e=Ω (.bool χ)/\Γ (w1.heap.size+1) (w1.alloc (Ξ #[ξ κ b.ab,ζ A1 n1 c1,ζ A2 n2 c2,ζ A3 n3 c3,ζ A9 n9 c9] 122)) w'):=ψ (by
      have vT:Δ B w (w1.alloc (Ξ #[ξ κ b.ab,ζ A1 n1 c1,ζ A2 n2 c2,ζ A3 n3 c3,ζ A9 n9 c9] 122)):=(Δ.aJ dk hB).alloc (by omega) _
      refine(Y1 (B:=w1.heap.size) (ps:=aB b) (b:=b) (l:=l) ((bD.e.still vT).more (by omega)) (aH.row.still ((Δ.refl w1).alloc (ϊ _) _) λ_ _ h=>h) ((wy.e.still vT λ_ _ h=>h).more (by omega)) (by simp) OK.e.1 OK.e.2).mono ?_
      rintro e w' ⟨rfl,hb⟩;rw[LC.e];exact⟨rfl,hb.mono (by simp)⟩)
     clear ai aH dh jz dk)
  | (go_at_call 114
     refine LQ.e.mono ?_
     rintro e w2 ⟨rfl,an⟩;have kf:Bk w2 w1.heap.size 122 #[ξ κ b.ab,ζ A1 n1 c1,ζ A2 n2 c2,ζ A3 n3 c3,ζ A9 n9 c9]:=(Bk.new w1 _ _).below an (by omega)
     have KF:=ψ kf;have zM:Γ w1.heap.size w1 w2:=((ώ _ _).alloc (by omega) _).trans (an.mono (by omega))
     have dj:=ψ zM;have aZ:w1.heap.size+1<=w2.heap.size:=kf.lt;have nT:=kb.e.below zM (by omega)
     have b2: w2.cell? ⟨w.heap.size,2,ν⟩=φ (ζ A2 n2 c2):=nT.cell 2;have gw:w.heap.size<w2.heap.size:=by omega
     have WB:w.heap.size<=w2.heap.size:=by omega
     clear kf nT an zM l0))
 go_ret2
 exact⟨rfl,aW.e.trans (dj.e.mono (by omega))⟩
end Go.Tw
namespace Go.Tw
open Go
def mg(m n:Nat):Array Bool:=((ε n).map λi=>Nat.blt i m).toArray
def Xk(m n:Nat):(mg m n).setIfInBounds m θ=mg (m+1) n:=by
 apply ŝ;intro i;unfold mg;by_cases hi:i<n
 ·by_cases h:m=i
  ·subst h
   simp[hi,Aio]
  ·have e:(Nat.blt i m)=(Nat.blt i (m+1)):=by
    rw[Bool.eq_iff_iff,Aio,Aio];omega
   simp[hi,h,e]
 ·simp[hi]
def aeU(n:Nat):Array.replicate n χ=mg 0 n:=by
 apply ŝ;intro i;unfold mg;by_cases hi:i<n
 ·have e:Nat.blt i 0=χ:=by
   rw[Ag7,ne_eq,Aio];omega
  simp[hi,e]
 ·simp[hi]
def JS(md:Region.Mode)(ops:Array Oper)(n:Nat):Nat->Nat->Bool
 |0,_=>θ
 |k+1,m=>Region.free md ops (mg m n) m && ((Ç md ops (mg m n)).contains m && JS md ops n k (m+1))
def qd(P:ϕ)(ops:Array Oper)(S:Ψ->Prop):Nat->Nat->Act->(Act->Prop)->Prop
 |0,_,a,K=>K a
 |k+1,m,a,K=>∃o v,ops[m]?=φ o/\YieldsIf P ops S o v a/\qd P ops S k (m+1) (a.put o.dst v) K
section
variable {P:ϕ}{md:Region.Mode}{ops:Array Oper}{Q:Exit->Act->Ψ->Prop}{S:Ψ->Prop}{w:Ψ}{a:Act}{K:Act->Prop}{k m n f:Nat}{o:Oper}{v:υ}
def Wg(hs:Ahp ops=θ)(hQ:∀c a a' w,Q (.panic c) a w->Q (.panic c) a' w)(hS:S w)(f n:Nat):
 ∀(k m:Nat) (a:Act),JS md ops n k m=θ->qd P ops S k m a (λa=>ą P md ops Q S f (mg (m+k) n) a w)->ą P md ops Q S (f+k) (mg m n) a w
 |0,_,_,_,h=>h
 |k+1,m,a,hf,h=>by
  obtain⟨o,v,ho,hy,h⟩:=h;unfold JS at hf;simp only[ϩ] at hf;refine wpAnyH_take ho hs hf.1 hf.2.1 (λc a w h=>hQ c _ _ w h) hy hS ?_
  rw[Xk];refine Wg hs hQ hS f n k (m+1) _ hf.2.2 ?_
  rw[show m+1+k=m+(k+1) by omega]
  exact h
def bh(k f:Nat)(hg:g=f+k)(hr:(Ahp ops && JS md ops n k m)=θ)(hS:S w)
 (h:qd P ops S k m a (λa=>ą P md ops (Ş Q) S f (mg (m+k) n) a w)):ą P md ops (Ş Q) S g (mg m n) a w:=by
 rw[ϩ] at hr;subst hg;exact Wg hr.1 (λ_ _ _ _ h=>h) hS f n k m a hr.2 h
def rY(d:Option Nat)(ho:ops[m]?=φ o)(hd:(o.dst==d)=θ)(hw:Ä o (Ê ops a.tmps)=θ)(hy:∀w,S w->(execOp a.eval o).run P w=.ok (.value v) w)(h:qd P ops S k (m+1) (a.put d v) K):
 qd P ops S (k+1) m a K:=⟨o,v,ho,.inl ⟨hw,hy⟩,by rw[eq_of_beq hd];exact h⟩
def IX(d:Option Nat)(ho:ops[m]?=φ o)(hd:(o.dst==d)=θ)(hw:Ä o (Ê ops a.tmps)=χ)(h:qd P ops S k (m+1) (a.put d ω) K):qd P ops S (k+1) m a K:=
 ⟨o,ω,ho,.inr ⟨hw,rfl⟩,by rw[eq_of_beq hd];exact h⟩
def OT(b:Nat)(ho:ops[m]?=φ o)(hd:(o.dst==φ (b+m))=θ)(hw:Ä o (Ê ops a.tmps)=θ)(hy:∀w,S w->(execOp a.eval o).run P w=.ok (.value v) w)(h:qd P ops S k (m+1) (a.put (φ (b+m)) v) K):
 qd P ops S (k+1) m a K:=rY _ ho hd hw hy h
def OO(h:K a):qd P ops S 0 m a K:=h
def Oe(ho:ops[m]?=φ o)(hr:(Ç md ops (mg m n)==[m])=θ)(hw:Ä o (Ê ops a.tmps)=θ)
 (h:∀(K':Act->Ψ->Prop) (Q':Exit->Act->Ψ->Prop),Shut (∀a w,S w->(S w->ą P md ops Q S f (mg (m+1) n) a w)->K' a w)->ž P o a w K' Q'):ą P md ops Q S (f+1) (mg m n) a w:=by
 refine wpAnyH_ready (eq_of_beq hr) (by simp) (AllReadyH.cons ho (λK' hK=>?_) AllReadyH.nil)
 rw[if_pos hw];refine h K' Q ?_
 rw[<-Xk];exact hK
def hstart{id:Nat}(n:Nat)(hn:ops.size=n)(hm:P.follows .mixedOrders=θ)(hS:S w.drew)(h:S w.drew->ą P .any ops (Ş Q) S n (mg 0 n) a w.drew):(Code.region id ops θ).wp P Q a w:=by
 subst hn;refine wp_region_noPanic (wp_region_held_drew hm hS λh'=>?_)
 rw[aeU];exact h h'
def Cc(hr:(Ç md ops (mg m n)==[])=θ)(h:Q .normal a w):ą P md ops (Ş Q) S f (mg m n) a w:=wpAnyH_done (eq_of_beq hr) (NoPanic.normal h) f
end
def lits(d:List Nat)(n:Nat):Array Bool:=((ε n).map λi=>d.elem i).toArray
def SC(m n:Nat)(d:List Nat):(lits d n).setIfInBounds m θ=lits (m::d) n:=by
 apply ŝ;intro i;unfold lits;by_cases hi:i<n
 ·by_cases h:m=i
  ·subst h
   simp[hi]
  ·have h':¬i=m:=λe=>h e.symm
   simp[hi,h,h']
 ·simp[hi]
def aqQ(n:Nat):Array.replicate n χ=lits [] n:=by
 apply ŝ;intro i;unfold lits;by_cases hi:i<n
 ·simp[hi]
 ·simp[hi]
def Z2(md:Region.Mode)(ops:Array Oper)(n:Nat):List Nat->List Nat->Bool
 | [],_=>θ
 |m::ps,d=>Region.free md ops (lits d n) m && ((Ç md ops (lits d n)).contains m && Z2 md ops n ps (m::d))
def Bc(P:ϕ)(ops:Array Oper)(S:Ψ->Prop):List Nat->Act->(Act->Prop)->Prop
 | [],a,K=>K a
 |m::ps,a,K=>∃o v,ops[m]?=φ o/\YieldsIf P ops S o v a/\Bc P ops S ps (a.put o.dst v) K
section
variable {P:ϕ}{md:Region.Mode}{ops:Array Oper}{Q:Exit->Act->Ψ->Prop}{S:Ψ->Prop}{w:Ψ}{a:Act}{K:Act->Prop}{m n f:Nat}{ps d:List Nat}{o:Oper}{v:υ}
def abh(hs:Ahp ops=θ)(hQ:∀c a a' w,Q (.panic c) a w->Q (.panic c) a' w)(hS:S w)(f n:Nat):
 ∀(ps d:List Nat) (a:Act),Z2 md ops n ps d=θ->Bc P ops S ps a (λa=>ą P md ops Q S f (lits (ps.reverse++d) n) a w)->ą P md ops Q S (f+ps.length) (lits d n) a w
 | [],_,_,_,h=>h
 |m::ps,d,a,hf,h=>by
  obtain⟨o,v,ho,hy,h⟩:=h;unfold Z2 at hf;simp only[ϩ] at hf;refine wpAnyH_take ho hs hf.1 hf.2.1 (λc a w h=>hQ c _ _ w h) hy hS ?_
  rw[SC];refine abh hs hQ hS f n ps (m::d) _ hf.2.2 ?_
  rw[List.reverse_cons,List.append_assoc] at h;exact h
def Wf(ps d':List Nat)(f:Nat)(hg:g=f+ps.length)(hr:(Ahp ops && Z2 md ops n ps d)=θ)(hd:ps.reverse++d=d')(hS:S w)
 (h:Bc P ops S ps a (λa=>ą P md ops (Ş Q) S f (lits d' n) a w)):ą P md ops (Ş Q) S g (lits d n) a w:=by
 rw[ϩ] at hr;subst hg hd;exact abh hr.1 (λ_ _ _ _ h=>h) hS f n ps d a hr.2 h
def zZ(b:Option Nat)(ho:ops[m]?=φ o)(hd:(o.dst==b)=θ)(hw:Ä o (Ê ops a.tmps)=θ)(hy:∀w,S w->(execOp a.eval o).run P w=.ok (.value v) w)(h:Bc P ops S ps (a.put b v) K):
 Bc P ops S (m::ps) a K:=⟨o,v,ho,.inl ⟨hw,hy⟩,by rw[eq_of_beq hd];exact h⟩
def vx(b:Nat)(ho:ops[m]?=φ o)(hd:(o.dst==φ (b+m))=θ)(hw:Ä o (Ê ops a.tmps)=θ)(hy:∀w,S w->(execOp a.eval o).run P w=.ok (.value v) w)(h:Bc P ops S ps (a.put (φ (b+m)) v) K):
 Bc P ops S (m::ps) a K:=zZ _ ho hd hw hy h
def Vw(b:Option Nat)(ho:ops[m]?=φ o)(hd:(o.dst==b)=θ)(hw:Ä o (Ê ops a.tmps)=χ)(h:Bc P ops S ps (a.put b ω) K):Bc P ops S (m::ps) a K:=
 ⟨o,ω,ho,.inr ⟨hw,rfl⟩,by rw[eq_of_beq hd];exact h⟩
def po(h:K a):Bc P ops S [] a K:=h
def zV(m:Nat)(ho:ops[m]?=φ o)(hr:(Ç md ops (lits d n)==[m])=θ)(hw:Ä o (Ê ops a.tmps)=θ)
 (h:∀(K':Act->Ψ->Prop) (Q':Exit->Act->Ψ->Prop),Shut (∀a w,S w->(S w->ą P md ops Q S f (lits (m::d) n) a w)->K' a w)->ž P o a w K' Q'):ą P md ops Q S (f+1) (lits d n) a w:=by
 refine wpAnyH_ready (eq_of_beq hr) (by simp) (AllReadyH.cons ho (λK' hK=>?_) AllReadyH.nil)
 rw[if_pos hw];refine h K' Q ?_
 rw[<-SC];exact hK
def aa6(m:Nat)(ho:ops[m]?=φ o)(hr:(Ç md ops (lits d n)==[m])=θ)
 (h:∀(K':Act->Ψ->Prop) (Q':Exit->Act->Ψ->Prop),Shut (∀a w,S w->(S w->ą P md ops Q S f (lits (m::d) n) a w)->K' a w)->if Ä o (Ê ops a.tmps)=θ then ž P o a w K' Q' else K' (a.put o.dst ω) w):ą P md ops Q S (f+1) (lits d n) a w:=by
 refine wpAnyH_ready (eq_of_beq hr) (by simp) (AllReadyH.cons ho (λK' hK=>?_) AllReadyH.nil)
 refine h K' Q ?_
 rw[<-SC];exact hK
def Sg{id:Nat}(n:Nat)(hn:ops.size=n)(hm:P.follows .mixedOrders=θ)(hS:S w.drew)(h:S w.drew->ą P .any ops (Ş Q) S n (lits [] n) a w.drew):(Code.region id ops θ).wp P Q a w:=by
 subst hn;refine wp_region_noPanic (wp_region_held_drew hm hS λh'=>?_)
 rw[aqQ];exact h h'
def GX(hr:(Ç md ops (lits d n)==[])=θ)(h:Q .normal a w):ą P md ops (Ş Q) S f (lits d n) a w:=wpAnyH_done (eq_of_beq hr) (NoPanic.normal h) f
end
end Go.Tw
namespace Go.Tw
variable [Go.Tw.aK]
open Go Go.Proofs Go.RowKit
def pX(w:Ψ)(g n:Nat)(xs:List Int):Prop:=
 ∃D:DataW Nat,w.ownsMap prog 3 (plainElem prog 3) g n D/\Maps.IsMap D/\∀x:Int,mC x->D.atKey (.int .i64 x) (.lit (.int .i64 0))=.lit (.int .i64 (xs.count x:Nat))
def Kj:prog.underlying 3=φ (.int .i64):=(U Tryz.underlying3).trans rfl
def Zk:prog.underlying 174=φ (.map 3 3):=(U Tryz.underlying174).trans rfl
def Pt(h:mC a):keyOf prog 3 (.int .i64 a)=φ (.int .i64 a):=Maps.keyOf_int_mk Kj (Dd h)
def aq9(W:Ψ):(zeroValue 3).run prog W=.ok (.int .i64 0) W:=by rw[QS];kernel_rfl
def Pu:Maps.Keyed prog 3:=Maps.int_keyed Kj
def pX.kept{w w':Ψ}{g n:Nat}{xs:List Int}{row:Option Nat}(h:pX w g n xs)(hg:w.grownBy w' row)(aw:φ g≠row):pX w' g n xs:=by
 obtain⟨D,h1,h2,h3⟩:=h;exact⟨D,h1.kept hg aw,h2,h3⟩
def pX.lt{w:Ψ}{g n:Nat}{xs:List Int}(h:pX w g n xs):g<w.heap.size:=by obtain⟨D,h1,_⟩:=h;exact h1.lt
def pX.made(w:Ψ):pX (w.alloc (.map #[] 0)) w.heap.size 0 []:=
 ⟨.map [],World.ownsMap_made w prog 3 _,⟨_,rfl⟩,λx _=>rfl⟩
def ZE{o:Oper}{a:Act}{Q:Exit->Act->Ψ->Prop}(hg:o.guard=ν)(m x:Ë)(ag:o.op=Op.lookup 174 m x χ)
 (g n:Nat)(xs:List Int)(k:Int)(hk:mC k)(hm:a.eval m=.map (φ g))(hx:a.eval x=.int .i64 k)(h:pX w g n xs)
 (hK:û prog ops Q rest (a.put o.dst (.int .i64 (xs.count k:Nat))) w):û prog ops Q (o::rest) a w:=by
 obtain⟨D,h1,h2,h3⟩:=h;refine wpList_lookup_own_int w hg m x 174 ag 3 3 .i64 Pu Zk Kj (aq9 w) g n D hm h1 _ _ hx (Pt hk) ?_
 intro c mN _;rw[h3 k hk] at mN;injection mN with mN;injection mN with _ mN
 rw[<-mN];exact hK
def aqW{o:Oper}{a:Act}{Q:Exit->Act->Ψ->Prop}(hg:o.guard=ν)(m x v:Ë)(ag:o.op=Op.mapUpdate 174 m x v)
 (g n:Nat)(xs:List Int)(k:Int)(hk:mC k)(hn:n<ϑ)(hc:xs.count k+1<=ϑ)(hm:a.eval m=.map (φ g))(hx:a.eval x=.int .i64 k)(hv:a.eval v=.int .i64 ((xs.count k:Nat)+1))(h:pX w g n xs)
 (hK:∀w',pX w' g (n+1) (xs++ [k])->w.grownBy w' (φ g)->û prog ops Q rest (a.put o.dst ω) w'):û prog ops Q (o::rest) a w:=by
 obtain⟨D,h1,h2,h3⟩:=h;unfold ϑ at hc;refine wpList_mapUpdate_own w hg m x v 174 ag 3 3 Pu Zk _ g n D hm h1 hn _ _ _ hx hv (Pt hk) (.lit (.int .i64 ((xs.count k:Nat)+1))) [] (plainElem_int Kj (Dd ⟨by omega,by omega⟩)) ?_
 intro w' Ct ew;refine hK w' ⟨_,Ct,Ct.isMap,λy hy=>?_⟩ ew
 by_cases e:y=k
 ·subst e
  rw[Maps.atKey_put_same h2 (Pu.key (Pt hk)),List.count_append];simp
 ·rw[Maps.atKey_put_other (by intro h;injection h with _ h;exact e h),h3 y hy,List.count_append]
  simp[List.count_cons,Ne.symm e,e]
def aqV{o:Oper}{a:Act}{Q:Exit->Act->Ψ->Prop}(hg:o.guard=ν)(t:TypeId)(ag:o.op=Op.makeMap t ν)
 (hK:û prog ops Q rest (a.put o.dst (.map (φ w.heap.size))) (w.alloc (.map #[] 0))):û prog ops Q (o::rest) a w:=by
 refine wpList_plain hg λK' Eg=>?_
 unfold ž;have bh:=RowKit.run_makeMap (P:=prog) t w;simp[execOp,ag,bh,Ũ];exact Eg _ _ hK
def adg{wp:Ψ}{x:al}{v:Int}(hg:(wp.alloc (Ξ #[.int .i64 x.a,.int .i64 x.b,.int .i64 x.c] 128)).grownBy w2 (φ g))(ao:g<wp.heap.size)(hk:k<3)(hv:v=x.at k):
 w2.cell? ⟨wp.heap.size,k,ν⟩=φ (.int .i64 v):=by
 have h:Bk w2 wp.heap.size 128 #[.int .i64 x.a,.int .i64 x.b,.int .i64 x.c]:=(Bk.new wp _ _).grown hg (by simp;omega)
 rw[hv];exact(h.cell k).trans (al.wU (n:=x) hk)
def mW(xs:List Int):Nat->Int
 |0=>0
 |j+1=>max (mW xs j) ((xs.take (j+1)).count (xs.getD j 0):Nat)
def iQ(b:eR):Nat->Int×Int
 |0=>(-1,(aB b).length)
 |k+1=>let m:=mW ((aB b).map (·.at k)) (aB b).length;if m<(iQ b k).2 then(k,m) else iQ b k
def DG(b:eR):Int×Int:=iQ b b.pieces.length
def PN(xs:List Int):∀j,0<=mW xs j/\mW xs j<=j
 |0=>by simp[mW]
 |j+1=>by
  have:=PN xs j;have h1:((xs.take (j+1)).count (xs.getD j 0))<=j+1:=ϡ Aii (by simp;omega)
  unfold mW;omega
def SG(b:eR):∀k,-1<=(iQ b k).1/\(iQ b k).1<=k/\0<=(iQ b k).2/\(iQ b k).2<=(aB b).length
 |0=>by simp[iQ]
 |k+1=>by
  have h:=SG b k;have h2:=PN ((aB b).map (·.at k)) (aB b).length
  unfold iQ;simp only;split
  ·refine⟨?_,?_,?_,?_⟩<;>simp only<;>omega
  ·refine⟨?_,?_,?_,?_⟩<;>omega
def SH{p l:Int}(h:p=(iQ b k).1/\l=(iQ b k).2)(hm:m=mW ((aB b).map (·.at k)) (aB b).length)(ao:m<l):iQ b (k+1)=((k:Int),m):=by
 show(if mW ((aB b).map (·.at k)) (aB b).length<(iQ b k).2 then((k:Int),mW ((aB b).map (·.at k)) (aB b).length) else iQ b k)=_
 rw[<-hm,<-h.2,if_pos ao]
def SF{p l:Int}(h:p=(iQ b k).1/\l=(iQ b k).2)(hm:m=mW ((aB b).map (·.at k)) (aB b).length)(ao:¬m<l):iQ b (k+1)=(p,l):=by
 show(if mW ((aB b).map (·.at k)) (aB b).length<(iQ b k).2 then((k:Int),mW ((aB b).map (·.at k)) (aB b).length) else iQ b k)=_
 rw[<-hm,<-h.2,if_neg ao,h.1,h.2]
def anN{c:Int}{s:υ}(h:a=a')(h':c=c'):Ending.returned (μ #[ξ κ a,ξ κ c,s])=Ω (μ #[ξ κ a',ξ κ c',s]):=by rw[h,h']
def akl{L:al}(h:L.Ok)(hk:k<3):mC (L.at k):=by
 have:=h k;unfold mC;omega
def acn(hB:B<=w.heap.size)(ah:aQ w B b pv bv tv)(h:bT b 0=0):
 ύ prog 61 #[η #[ξ κ b.ab,pv,bv,tv]] w λe w'=>e=Ω (μ #[ξ κ (DG b).1,ξ κ (DG b).2,ξ κ 0])/\Γ w.heap.size w w':=by
 have st:Δ B w (w.alloc (Ξ #[ξ κ b.ab,pv,bv,tv] 26)):=(Δ.refl w).alloc hB _;have aG:=ψ (ym (w:=(w.alloc (Ξ #[ξ κ b.ab,pv,bv,tv] 26))) (B:=B) (by simp;omega) (ah.still st) (Bw (ah.still st)) h)
 have hz:=mX h;have hv:=fG hz.1;have ah8:=DF hv;have ZW:=ψ (wI hv);obtain⟨A1,n1,c1,rfl,e1,h1,du,-⟩:=ah.pieces.Φ;obtain⟨A2,n2,c2,rfl,-⟩:=ah.aC.Φ;obtain⟨A3,n3,c3,rfl,-⟩:=ah.aI.Φ;have iW:n1<=3:=by have:=hv.np;omega
 have E1:=ψ e1;unfold ϑ at du;clear ah st hz hv h e1;go_enter func61,Tryz.ntmps61;go_wp2_with (first
  | (go_at_call 98;refine aG.e.mono ?_;rintro e w1 ⟨sv,rfl,aH,ai⟩
     obtain⟨A9,n9,c9,rfl,dh,kW,fg,jz⟩:=aH.row.Φ;have mz:=ψ jz;have ri:=ψ dh;have kk:Hid (Bk w1 w.heap.size 26 #[ξ κ b.ab,ζ A1 n1 c1,ζ A2 n2 c2,ζ A3 n3 c3]):=ψ ((Bk.new w _ _).below ai (by simp))
     have aO:w.heap.size+1<=w1.heap.size:=by have:=ai.size;simpa using this
     have aif:n9<=27:=by omega
     have aW:Hid (Γ w.heap.size w w1):=ψ ((((ώ _ _).alloc (ϊ _) _)).trans (ai.mono (by simp)));clear ai aH dh jz))
 have wR:w.heap.size<w1.heap.size:=by omega
 have Lq:Hid (n9=(aB b).length):=ψ ri.e.symm;have q4:(w1.alloc (Ξ #[ξ κ b.ab,ζ A1 n1 c1,ζ A2 n2 c2,ζ A3 n3 c3,ζ A9 n9 c9] 122)).cell? ⟨w1.heap.size,4,ν⟩=φ (ζ A9 n9 c9):=(Bk.new _ _ _).cell 4;have q1:(w1.alloc (Ξ #[ξ κ b.ab,ζ A1 n1 c1,ζ A2 n2 c2,ζ A3 n3 c3,ζ A9 n9 c9] 122)).cell? ⟨w.heap.size,1,ν⟩=φ (ζ A1 n1 c1):=(kk.e.alloc _).cell 1;go_region
 go_wp2;clear q4 q1;go_loopw [2,3,25] (λu2 u3 u wr=>∃k:Nat,k<=n1/\u=ξ κ k/\u2=ξ κ (iQ b k).1/\u3=ξ κ (iQ b k).2/\Hid (Γ (w1.heap.size+1) (w1.alloc (Ξ #[ξ κ b.ab,ζ A1 n1 c1,ζ A2 n2 c2,ζ A3 n3 c3,ζ A9 n9 c9] 122)).drew wr)) (λ_ _ u _=>n1 - (ϗ u).toNat)
 case atStart=>exact⟨0,Ϡ _,rfl,rfl,by rw[Lq.e];rfl,ψ (ώ _ _)⟩
 case round=>
  obtain⟨wo,rfl⟩:∃wo:Ψ,wo=wr:=⟨_,rfl⟩
  obtain⟨k,hk,rfl,rfl,rfl,hb⟩:=hrel;have bS:=SG b k;obtain⟨pk,vu⟩:∃pk,pk=(iQ b k).1:=⟨_,rfl⟩
  obtain⟨lk,IJ⟩:∃lk,lk=(iQ b k).2:=⟨_,rfl⟩
  rw[<-vu,<-IJ] at bS |-
  have Bi:=ψ (Ϗ vu IJ);clear vu IJ;have sd:w1.heap.size+1<=wo.heap.size:=by have:=hb.e.size;simpa using this
  have kb:Bk wo w1.heap.size 122 #[ξ κ b.ab,ζ A1 n1 c1,ζ A2 n2 c2,ζ A3 n3 c3,ζ A9 n9 c9]:=Bk.below (w:=(w1.alloc (Ξ #[ξ κ b.ab,ζ A1 n1 c1,ζ A2 n2 c2,ζ A3 n3 c3,ζ A9 n9 c9] 122)).drew) (Bk.new w1 _ _) hb.e (by simp)
  have O4:(wo.alloc (.map #[] 0)).cell? ⟨w1.heap.size,4,ν⟩=φ (ζ A9 n9 c9):=(kb.alloc _).cell 4;have sc:w1.heap.size<wo.heap.size:=by omega
  have Pa:w1.heap.size<=wo.heap.size:=by omega
  clear kb;by_cases ao:k<n1
  ·have jx:k<3:=by omega
   have ahV:(k:Int)<3:=by omega
   go_wp2_with (first| (refine aqV rfl 174 rfl ?_))
   go_loopw [8,32] (λu8 u wr=>∃j:Nat,j<=n9/\u=ξ κ j/\u8=ξ κ (mW ((aB b).map (·.at k)) j)/\Hid (pX wr wo.heap.size j (((aB b).map (·.at k)).take j))/\Hid (Γ wo.heap.size wo wr)) (λ_ u _=>n9 - (ϗ u).toNat)
   case atStart=>exact⟨0,Ϡ _,rfl,rfl,ψ (pX.made wo),ψ ((ώ _ _).alloc (ϊ _) _)⟩
   case round=>
    obtain⟨wp,rfl⟩:∃wp:Ψ,wp=wr:=⟨_,rfl⟩
    obtain⟨j,hj,rfl,rfl,HC,an⟩:=hrel;have hm:=PN ((aB b).map (·.at k)) j
    obtain⟨mj,Oz⟩:∃mj,mj=mW ((aB b).map (·.at k)) j:=⟨_,rfl⟩
    rw[<-Oz] at hm |-
    have RX:=ψ Oz;clear Oz;have WD:wo.heap.size<wp.heap.size:=HC.e.lt;by_cases hjt:j<n9
    ·obtain⟨ad,x,cs,lZ,aE,hx,rfl,-,aq⟩:=mz.e j hjt
     subst lZ;have pG:Γ w1.heap.size w1 (w1.alloc (Ξ #[ξ κ b.ab,ζ A1 n1 c1,ζ A2 n2 c2,ζ A3 n3 c3,ζ (φ ad) n9 c9] 122)).drew:=dT ((ώ w1.heap.size w1).alloc (ϊ _) _);have UT:Γ w1.heap.size w1 wp:=(pG.trans (hb.e.mono (Nat.le_succ _))).trans (an.e.mono (by omega))
     have pf:Hid (Γ w1.heap.size w1 wp):=ψ UT;clear pG UT;have st:Δ w1.heap.size w1 wp:=Δ.aJ pf.e (ϊ _);have g0:=cA aq st aE rfl;have g1:=bj aq st aE 0 rfl;have g2:=bj aq st aE 1 rfl;have rK:(ad.add (j * 3)).block<wp.heap.size:=by rw[b9];omega
     have HX:=ψ hx;obtain⟨v,hv⟩:∃v,v=x.at k:=⟨_,rfl⟩
     have I1:mC v:=by rw[hv];exact akl (ZW.e x (Ϩ hx)) jx
     have SM:=ψ I1;have gk:(wp.alloc (Ξ #[ξ κ x.a,ξ κ x.b,ξ κ x.c] 128)).cell? ⟨wp.heap.size,k,ν⟩=φ (ξ κ v):=by rw[hv];exact(Bk.new wp _ _).cell k|>.trans (al.wU (n:=x) jx)
     have HV:=ψ hv;have aba:((aB b).map (·.at k)).take (j+1)=((aB b).map (·.at k)).take j++ [v]:=by
      rw[List.take_add_one,Š,hx];simp[hv]
     have IC:((aB b).map (·.at k)).getD j 0=v:=by
      rw[List.getD_eq_getElem?_getD,Š,hx];simp[hv]
     have Lg:=ψ (Ϗ aba IC);obtain⟨cn,NW⟩:∃cn,cn=(((aB b).map (·.at k)).take j).count v:=⟨_,rfl⟩
     have ar2:cn<=j:=by rw[NW];exact ϡ Aii (by simp;omega)
     have Au:ϙ.wrap ((cn:Int)+1)=(cn:Int)+1:=by rw[IntWalk.i64_left];exact IntWalk.wrap64_in _ (by omega)
     have Lf:=ψ NW;have asw:n9<ϑ:=by unfold ϑ;omega
     clear hx aq st I1 hv aba IC NW;go_wp2_with (first
      | (at_lookup;refine ZE rfl (.tmp 36) (.tmp 39) rfl wo.heap.size j _ v SM.e rfl rfl (HC.e.kept (ϯ wp _ ν) nofun) ?_;rw[<-Lf.e])
      | (at_mapUpdate;refine aqW rfl (.tmp 36) (.tmp 39) (.tmp 41) rfl wo.heap.size j _ v SM.e (by omega) ?hc rfl rfl (by rw[<-Lf.e];try rfl) (HC.e.kept (ϯ wp _ ν) nofun) ?_
         case hc=>(rw[<-Lf.e];unfold ϑ;omega)
         rw[<-Lg.e.1];intro w2 eu oK;have uJ:=ψ eu;have gk2: w2.cell? ⟨wp.heap.size,k,ν⟩=φ (ξ κ v):=adg oK WD jx HV.e;have XG:=ψ oK;clear eu oK)
      | (at_lookup;refine ZE rfl (.tmp 43) (.tmp 46) rfl wo.heap.size (j+1) _ v SM.e rfl rfl uJ.e ?_))
     go_roundw;case rel=>exact⟨j+1,by omega,by go_num,by
      rw[RX.e];conv=>rhs;unfold mW
      rw[Lg.e.1,Lg.e.2],uJ,
      ψ ((an.e.trans ((ώ wo.heap.size wp).alloc (by omega) _)).grown XG.e (by simp;omega) (λq hq=>by injection hq with hq;omega))⟩
     case measure=>simp[ϗ];omega
    ·obtain rfl:j=n9:=by omega
     have VT:mj=mW ((aB b).map (·.at k)) (aB b).length:=by rw[RX.e,<-ri.e]
     have xh:Hid (Γ (w1.heap.size+1) (w1.alloc (Ξ #[ξ κ b.ab,ζ A1 n1 c1,ζ A2 n2 c2,ζ A3 n3 c3,ζ A9 j c9] 122)).drew wp):=ψ (hb.e.trans (an.e.mono sd));have GN:=ψ VT;clear VT;by_cases II:mj<lk
     ·go_wp2
      go_roundw;case rel=>exact⟨k+1,by omega,by go_num,by
       rw[SH Bi.e GN.e II],by
       rw[SH Bi.e GN.e II],xh⟩
      case measure=>simp[ϗ];omega
     ·go_wp2
      go_roundw;case rel=>exact⟨k+1,by omega,by go_num,by
       rw[SF Bi.e GN.e II],by
       rw[SF Bi.e GN.e II],xh⟩
      case measure=>simp[ϗ];omega
  ·obtain rfl:k=n1:=by omega
   go_wp2
   go_ret3
   refine⟨anN ?_ ?_,?_⟩
   ·rw[Bi.e.1];unfold DG;rw[E1.e]
   ·rw[Bi.e.2];unfold DG;rw[E1.e]
   ·exact aW.e.trans ((dT ((ώ w1.heap.size w1).alloc (ϊ _) _)).trans (hb.e.mono (Nat.le_succ _)) |>.mono (by omega))
def Uh{α:Type}{f:α->List υ}{sz:Nat}(hf:∀x,(f x).length=sz):∀(l:List α) (j:Nat) (u:υ),(l.flatMap f)[j]?=φ u->∃i x r,l[i]?=φ x/\(f x)[r]?=φ u/\j=i * sz+r
 | [],j,u,h=>by simp at h
 |a::l,j,u,h=>by
  rw[Ġ] at h;by_cases hj:j<(f a).length
  ·rw[Ah3 hj] at h
   exact⟨0,a,j,rfl,h,by omega⟩
  ·rw[Ū (by omega),hf] at h
   obtain⟨i,x,r,h1,h2,h3⟩:=Uh hf l _ u h;rw[hf] at hj;exact⟨i+1,x,r,by simpa using h1,h2,by rw[Aik];omega⟩
def uT{α:Type}{f:α->List υ}{sz:Nat}(hf:∀x,(f x).length=sz):∀(l:List α),(l.flatMap f).length=l.length * sz
 | []=>by simp
 |a::l=>by rw[Ġ,Ĉ,hf,uT hf l,Ă,Aik];omega
def Eb{f:α->List υ}(l:List α)(hf:∀x∈l,∀u∈f x,u.oneCell'=θ):∀u∈l.flatMap f,u.oneCell'=θ:=by
 intro u hu;obtain⟨x,h,hx⟩:=ĺ.1 hu;exact hf x h u hx
def Row.cells{α:Type}{w:Ψ}{B sz:Nat}{f:α->List υ}{ad:Addr}{c:Nat}{l:List α}(h:Row w B sz (λx cs=>cs=f x) (ζ (φ ad) l.length c) l)(hf:∀x,(f x).length=sz):
 (∀j u,(l.flatMap f)[j]?=φ u-> w.cell? (ad.add j)=φ u)/\(l≠ []->ad.block<B):=by
 obtain⟨A,c',hv,h1,h2,h3⟩:=h;injection hv with hA
 refine⟨λj u hu=>?_,λaw=>?_⟩
 ·obtain⟨i,x,r,e1,e2,e3⟩:=Uh hf l j u hu
  obtain⟨DE,xf,_,hc⟩:=h3 (by intro e;rw[e] at e1;simp at e1)
  obtain⟨cs,rfl,_,aq⟩:=hc i x e1;rw[xf] at hA;injection hA with hA
  subst hA;rw[e3];exact aq r u e2
 ·obtain⟨DE,xf,hb,_⟩:=h3 aw
  rw[xf] at hA;injection hA with hA
  subst hA;exact hb
def WU:(prog.info? 72).map (λi=>(i.zero,i.size,i.bytes))=φ (φ (η #[.string {data:=#[]},ξ κ 0,ξ κ 0,ξ κ 0]),4,40):=by
 rw[qS];kernel_rfl
def adP(hl:news.length=n * 4)(hc:∀j u,news[j]?=φ u-> w.cell? (ad.add j)=φ u)(h1:∀u∈news,u.oneCell'=θ)(hn:n<=1000000)(aE:news≠ []->ad.block<w.heap.size):
 ύ prog 155 #[ζ (φ ad) n c] w λe w'=>∃v,e=Ω v/\w'.ownsRow w.heap.size 72 4 v n news/\Γ w.heap.size w w':=by
 obtain⟨i0,cJ,cK,aO,aZ⟩:=Ą WU;have cy:=ψ (Ϗ cJ (Ϗ cK (Ϗ aO aZ)));have HC:Hid (∀j u,news[j]?=φ u->(w.alloc (Ξ #[] 72)).cell? (ad.add j)=φ u):=ψ (λj u hu=>(ù w _ _ (by rw[b9];exact aE (by intro e;rw[e] at hu;simp at hu))).trans (hc j u hu))
 have HL:=ψ (Ϗ hl h1);have HO:Hid ((w.alloc (Ξ #[] 72)).ownsRow w.heap.size 72 4 (ζ (φ ⟨w.heap.size,0,ν⟩) 0 0) 0 []):=ψ ⟨rfl,.inr ⟨w.heap.size,0,#[],rfl,ϊ _,ŧ w _,ϊ _,by unfold ϑ;omega,rfl,rfl⟩⟩
 clear hl hc h1 cJ cK aO aZ aE;have q:∀(w:Ψ) (a:Option Addr) (n c n' c':Nat),(binOp .eql 22 (ζ a n c) (ζ ν n' c')).run prog w=.ok (.bool a.isNone) w:=λw a n c n' c'=>Į w _ _ a n c n' c' (U Tryz.underlying22)
 go_enter func155,Tryz.ntmps155;go_wp2_with (first
  | (at_builtin
     refine ĭ _ rfl (.tmp 5) (.tmp 6) 22 rfl w.heap.size 72 i0 (η #[.string {data:=#[]},ξ κ 0,ξ κ 0,ξ κ 0]) 4 40 (U Tryz.underlying22) cy.e.1 cy.e.2.1 cy.e.2.2.1 cy.e.2.2.2 rfl (by decide) _ 0 _ rfl HO.e ad n c news rfl HL.e.1 HC.e HL.e.2 ?c3 ?c4 ?c5 ?_
     case c3=>(simp only[ϑ];omega)
     case c4=>omega
     case c5=>simp
     intro v' w1 b7 cW _;have gC:=ψ b7;have gX:=ψ cW;clear b7 cW))
 go_ret;refine⟨_,rfl,by have:=gC.e;rwa[ŭ,ì] at this,((ώ _ _).alloc (ϊ _) _).grown gX.e (by simp) (λk hk=>dX HO.e k hk)⟩
def adO(n c:Nat)(w:Ψ):ύ prog 155 #[ζ ν n c] w λe w'=>e=Ω (ζ ν 0 0)/\w=w':=by
 have q:∀(w:Ψ) (a:Option Addr) (n c n' c':Nat),(binOp .eql 22 (ζ a n c) (ζ ν n' c')).run prog w=.ok (.bool a.isNone) w:=λw a n c n' c'=>Į w _ _ a n c n' c' (U Tryz.underlying22)
 go_enter func155,Tryz.ntmps155;go_wp2;go_ret;exact⟨rfl,rfl⟩
def Ty{f:α->List υ}{l:List α}(h:Row w B 4 (λx cs=>cs=f x) v l)(hB:B<=w.heap.size)(hf:∀x,(f x).length=4)(h1:∀x∈l,∀u∈f x,u.oneCell'=θ)(hn:l.length<=1000000):
 ύ prog 155 #[v] w λe w'=>∃v',e=Ω v'/\w'.ownsRow w.heap.size 72 4 v' l.length (l.flatMap f)/\Γ w.heap.size w w':=by
 obtain⟨A,c,rfl,-⟩:=id h;cases A with
 |none=>
  have hl:l=[]:=by
   obtain⟨A,c',hv,h1,h2,h3⟩:=h;injection hv with hA
   refine Û λaw=>?_
   obtain⟨ad,ha,_⟩:=h3 aw;rw[ha] at hA;cases hA
  subst hl;refine(adO _ _ w).mono ?_
  rintro e w' ⟨rfl,rfl⟩;exact⟨_,rfl,⟨rfl,.inl ⟨rfl,rfl⟩⟩,ώ _ _⟩
 |some ad=>
  have hc:=h.cells hf;exact adP (uT hf l) hc.1 (Eb l h1) hn (λaw=>by
   have:=hc.2 (by intro e;rw[e] at aw;simp at aw);omega)
def WR:(prog.info? 59).map (λi=>(i.zero,i.size,i.bytes))=φ (φ (η #[.string {data:=#[]},ξ κ 0,ζ ν 0 0]),3,48):=by
 rw[qS];kernel_rfl
def adJ(hl:news.length=n * 3)(hc:∀j u,news[j]?=φ u-> w.cell? (ad.add j)=φ u)(h1:∀u∈news,u.oneCell'=θ)(hn:n<=1000000)(aE:news≠ []->ad.block<w.heap.size):
 ύ prog 135 #[ζ (φ ad) n c] w λe w'=>∃v,e=Ω v/\w'.ownsRow w.heap.size 59 3 v n news/\Γ w.heap.size w w':=by
 obtain⟨i0,cJ,cK,aO,aZ⟩:=Ą WR;have cy:=ψ (Ϗ cJ (Ϗ cK (Ϗ aO aZ)));have HC:Hid (∀j u,news[j]?=φ u->(w.alloc (Ξ #[] 59)).cell? (ad.add j)=φ u):=ψ (λj u hu=>(ù w _ _ (by rw[b9];exact aE (by intro e;rw[e] at hu;simp at hu))).trans (hc j u hu))
 have HL:=ψ (Ϗ hl h1);have HO:Hid ((w.alloc (Ξ #[] 59)).ownsRow w.heap.size 59 3 (ζ (φ ⟨w.heap.size,0,ν⟩) 0 0) 0 []):=ψ ⟨rfl,.inr ⟨w.heap.size,0,#[],rfl,ϊ _,ŧ w _,ϊ _,by unfold ϑ;omega,rfl,rfl⟩⟩
 clear hl hc h1 cJ cK aO aZ aE;have q:∀(w:Ψ) (a:Option Addr) (n c n' c':Nat),(binOp .eql 23 (ζ a n c) (ζ ν n' c')).run prog w=.ok (.bool a.isNone) w:=λw a n c n' c'=>Į w _ _ a n c n' c' (U Tryz.underlying23)
 go_enter func135,Tryz.ntmps135;go_wp2_with (first
  | (at_builtin
     refine ĭ _ rfl (.tmp 5) (.tmp 6) 23 rfl w.heap.size 59 i0 (η #[.string {data:=#[]},ξ κ 0,ζ ν 0 0]) 3 48 (U Tryz.underlying23) cy.e.1 cy.e.2.1 cy.e.2.2.1 cy.e.2.2.2 rfl (by decide) _ 0 _ rfl HO.e ad n c news rfl HL.e.1 HC.e HL.e.2 ?c3 ?c4 ?c5 ?_
     case c3=>(simp only[ϑ];omega)
     case c4=>omega
     case c5=>simp
     intro v' w1 b7 cW _;have gC:=ψ b7;have gX:=ψ cW;clear b7 cW))
 go_ret;refine⟨_,rfl,by have:=gC.e;rwa[ŭ,ì] at this,((ώ _ _).alloc (ϊ _) _).grown gX.e (by simp) (λk hk=>dX HO.e k hk)⟩
def adI(n c:Nat)(w:Ψ):ύ prog 135 #[ζ ν n c] w λe w'=>e=Ω (ζ ν 0 0)/\w=w':=by
 have q:∀(w:Ψ) (a:Option Addr) (n c n' c':Nat),(binOp .eql 23 (ζ a n c) (ζ ν n' c')).run prog w=.ok (.bool a.isNone) w:=λw a n c n' c'=>Į w _ _ a n c n' c' (U Tryz.underlying23)
 go_enter func135,Tryz.ntmps135;go_wp2;go_ret;exact⟨rfl,rfl⟩
def Tx{f:α->List υ}{l:List α}(h:Row w B 3 (λx cs=>cs=f x) v l)(hB:B<=w.heap.size)(hf:∀x,(f x).length=3)(h1:∀x∈l,∀u∈f x,u.oneCell'=θ)(hn:l.length<=1000000):
 ύ prog 135 #[v] w λe w'=>∃v',e=Ω v'/\w'.ownsRow w.heap.size 59 3 v' l.length (l.flatMap f)/\Γ w.heap.size w w':=by
 obtain⟨A,c,rfl,-⟩:=id h;cases A with
 |none=>
  have hl:l=[]:=by
   obtain⟨A,c',hv,h1,h2,h3⟩:=h;injection hv with hA
   refine Û λaw=>?_
   obtain⟨ad,ha,_⟩:=h3 aw;rw[ha] at hA;cases hA
  subst hl;refine(adI _ _ w).mono ?_
  rintro e w' ⟨rfl,rfl⟩;exact⟨_,rfl,⟨rfl,.inl ⟨rfl,rfl⟩⟩,ώ _ _⟩
 |some ad=>
  have hc:=h.cells hf;exact adJ (uT hf l) hc.1 (Eb l h1) hn (λaw=>by
   have:=hc.2 (by intro e;rw[e] at aw;simp at aw);omega)
def Fz:(prog.info? 95).map (λi=>(i.zero,i.size,i.bytes))=φ (φ (η #[ζ ν 0 0,ξ κ 0,ξ κ 0]),3,40):=by
 rw[qS];kernel_rfl
def adU(hl:news.length=n * 3)(hc:∀j u,news[j]?=φ u-> w.cell? (ad.add j)=φ u)(h1:∀u∈news,u.oneCell'=θ)(hn:n<=1000000)(aE:news≠ []->ad.block<w.heap.size):
 ύ prog 158 #[ζ (φ ad) n c] w λe w'=>∃v,e=Ω v/\w'.ownsRow w.heap.size 95 3 v n news/\Γ w.heap.size w w':=by
 obtain⟨i0,cJ,cK,aO,aZ⟩:=Ą Fz;have cy:=ψ (Ϗ cJ (Ϗ cK (Ϗ aO aZ)));have HC:Hid (∀j u,news[j]?=φ u->(w.alloc (Ξ #[] 95)).cell? (ad.add j)=φ u):=ψ (λj u hu=>(ù w _ _ (by rw[b9];exact aE (by intro e;rw[e] at hu;simp at hu))).trans (hc j u hu))
 have HL:=ψ (Ϗ hl h1);have HO:Hid ((w.alloc (Ξ #[] 95)).ownsRow w.heap.size 95 3 (ζ (φ ⟨w.heap.size,0,ν⟩) 0 0) 0 []):=ψ ⟨rfl,.inr ⟨w.heap.size,0,#[],rfl,ϊ _,ŧ w _,ϊ _,by unfold ϑ;omega,rfl,rfl⟩⟩
 clear hl hc h1 cJ cK aO aZ aE;have q:∀(w:Ψ) (a:Option Addr) (n c n' c':Nat),(binOp .eql 24 (ζ a n c) (ζ ν n' c')).run prog w=.ok (.bool a.isNone) w:=λw a n c n' c'=>Į w _ _ a n c n' c' (U Tryz.underlying24)
 go_enter func158,Tryz.ntmps158;go_wp2_with (first
  | (at_builtin
     refine ĭ _ rfl (.tmp 5) (.tmp 6) 24 rfl w.heap.size 95 i0 (η #[ζ ν 0 0,ξ κ 0,ξ κ 0]) 3 40 (U Tryz.underlying24) cy.e.1 cy.e.2.1 cy.e.2.2.1 cy.e.2.2.2 rfl (by decide) _ 0 _ rfl HO.e ad n c news rfl HL.e.1 HC.e HL.e.2 ?c3 ?c4 ?c5 ?_
     case c3=>(simp only[ϑ];omega)
     case c4=>omega
     case c5=>simp
     intro v' w1 b7 cW _;have gC:=ψ b7;have gX:=ψ cW;clear b7 cW))
 go_ret;refine⟨_,rfl,by have:=gC.e;rwa[ŭ,ì] at this,((ώ _ _).alloc (ϊ _) _).grown gX.e (by simp) (λk hk=>dX HO.e k hk)⟩
def adT(n c:Nat)(w:Ψ):ύ prog 158 #[ζ ν n c] w λe w'=>e=Ω (ζ ν 0 0)/\w=w':=by
 have q:∀(w:Ψ) (a:Option Addr) (n c n' c':Nat),(binOp .eql 24 (ζ a n c) (ζ ν n' c')).run prog w=.ok (.bool a.isNone) w:=λw a n c n' c'=>Į w _ _ a n c n' c' (U Tryz.underlying24)
 go_enter func158,Tryz.ntmps158;go_wp2;go_ret;exact⟨rfl,rfl⟩
def Tz{f:α->List υ}{l:List α}(h:Row w B 3 (λx cs=>cs=f x) v l)(hB:B<=w.heap.size)(hf:∀x,(f x).length=3)(h1:∀x∈l,∀u∈f x,u.oneCell'=θ)(hn:l.length<=1000000):
 ύ prog 158 #[v] w λe w'=>∃v',e=Ω v'/\w'.ownsRow w.heap.size 95 3 v' l.length (l.flatMap f)/\Γ w.heap.size w w':=by
 obtain⟨A,c,rfl,-⟩:=id h;cases A with
 |none=>
  have hl:l=[]:=by
   obtain⟨A,c',hv,h1,h2,h3⟩:=h;injection hv with hA
   refine Û λaw=>?_
   obtain⟨ad,ha,_⟩:=h3 aw;rw[ha] at hA;cases hA
  subst hl;refine(adT _ _ w).mono ?_
  rintro e w' ⟨rfl,rfl⟩;exact⟨_,rfl,⟨rfl,.inl ⟨rfl,rfl⟩⟩,ώ _ _⟩
 |some ad=>
  have hc:=h.cells hf;exact adU (uT hf l) hc.1 (Eb l h1) hn (λaw=>by
   have:=hc.2 (by intro e;rw[e] at aw;simp at aw);omega)
def ajp:(prog.info? 37).map (λi=>(i.zero,i.size,i.bytes))=φ (φ (η #[ξ κ 0,ξ κ 0]),2,16):=by
 rw[qS];kernel_rfl
def adS(hl:news.length=n * 2)(hc:∀j u,news[j]?=φ u-> w.cell? (ad.add j)=φ u)(h1:∀u∈news,u.oneCell'=θ)(hn:n<=1000000)(aE:news≠ []->ad.block<w.heap.size):
 ύ prog 179 #[ζ (φ ad) n c] w λe w'=>∃v,e=Ω v/\w'.ownsRow w.heap.size 37 2 v n news/\Γ w.heap.size w w':=by
 obtain⟨i0,cJ,cK,aO,aZ⟩:=Ą ajp;have cy:=ψ (Ϗ cJ (Ϗ cK (Ϗ aO aZ)));have HC:Hid (∀j u,news[j]?=φ u->(w.alloc (Ξ #[] 37)).cell? (ad.add j)=φ u):=ψ (λj u hu=>(ù w _ _ (by rw[b9];exact aE (by intro e;rw[e] at hu;simp at hu))).trans (hc j u hu))
 have HL:=ψ (Ϗ hl h1);have HO:Hid ((w.alloc (Ξ #[] 37)).ownsRow w.heap.size 37 2 (ζ (φ ⟨w.heap.size,0,ν⟩) 0 0) 0 []):=ψ ⟨rfl,.inr ⟨w.heap.size,0,#[],rfl,ϊ _,ŧ w _,ϊ _,by unfold ϑ;omega,rfl,rfl⟩⟩
 clear hl hc h1 cJ cK aO aZ aE;have q:∀(w:Ψ) (a:Option Addr) (n c n' c':Nat),(binOp .eql 57 (ζ a n c) (ζ ν n' c')).run prog w=.ok (.bool a.isNone) w:=λw a n c n' c'=>Į w _ _ a n c n' c' (U Tryz.underlying57)
 go_enter func179,Tryz.ntmps179;go_wp2_with (first
  | (at_builtin
     refine ĭ _ rfl (.tmp 5) (.tmp 6) 57 rfl w.heap.size 37 i0 (η #[ξ κ 0,ξ κ 0]) 2 16 (U Tryz.underlying57) cy.e.1 cy.e.2.1 cy.e.2.2.1 cy.e.2.2.2 rfl (by decide) _ 0 _ rfl HO.e ad n c news rfl HL.e.1 HC.e HL.e.2 ?c3 ?c4 ?c5 ?_
     case c3=>(simp only[ϑ];omega)
     case c4=>omega
     case c5=>simp
     intro v' w1 b7 cW _;have gC:=ψ b7;have gX:=ψ cW;clear b7 cW))
 go_ret;refine⟨_,rfl,by have:=gC.e;rwa[ŭ,ì] at this,((ώ _ _).alloc (ϊ _) _).grown gX.e (by simp) (λk hk=>dX HO.e k hk)⟩
def adR(n c:Nat)(w:Ψ):ύ prog 179 #[ζ ν n c] w λe w'=>e=Ω (ζ ν 0 0)/\w=w':=by
 have q:∀(w:Ψ) (a:Option Addr) (n c n' c':Nat),(binOp .eql 57 (ζ a n c) (ζ ν n' c')).run prog w=.ok (.bool a.isNone) w:=λw a n c n' c'=>Į w _ _ a n c n' c' (U Tryz.underlying57)
 go_enter func179,Tryz.ntmps179;go_wp2;go_ret;exact⟨rfl,rfl⟩
def adQ{f:α->List υ}{l:List α}(h:Row w B 2 (λx cs=>cs=f x) v l)(hB:B<=w.heap.size)(hf:∀x,(f x).length=2)(h1:∀x∈l,∀u∈f x,u.oneCell'=θ)(hn:l.length<=1000000):
 ύ prog 179 #[v] w λe w'=>∃v',e=Ω v'/\w'.ownsRow w.heap.size 37 2 v' l.length (l.flatMap f)/\Γ w.heap.size w w':=by
 obtain⟨A,c,rfl,-⟩:=id h;cases A with
 |none=>
  have hl:l=[]:=by
   obtain⟨A,c',hv,h1,h2,h3⟩:=h;injection hv with hA
   refine Û λaw=>?_
   obtain⟨ad,ha,_⟩:=h3 aw;rw[ha] at hA;cases hA
  subst hl;refine(adR _ _ w).mono ?_
  rintro e w' ⟨rfl,rfl⟩;exact⟨_,rfl,⟨rfl,.inl ⟨rfl,rfl⟩⟩,ώ _ _⟩
 |some ad=>
  have hc:=h.cells hf;exact adS (uT hf l) hc.1 (Eb l h1) hn (λaw=>by
   have:=hc.2 (by intro e;rw[e] at aw;simp at aw);omega)
def WO:(prog.info? 3).map (λi=>(i.zero,i.size,i.bytes))=φ (φ (ξ κ 0),1,8):=by
 rw[qS];kernel_rfl
def adN(hl:news.length=n * 1)(hc:∀j u,news[j]?=φ u-> w.cell? (ad.add j)=φ u)(h1:∀u∈news,u.oneCell'=θ)(hn:n<=1000000)(aE:news≠ []->ad.block<w.heap.size):
 ύ prog 180 #[ζ (φ ad) n c] w λe w'=>∃v,e=Ω v/\w'.ownsRow w.heap.size 3 1 v n news/\Γ w.heap.size w w':=by
 obtain⟨i0,cJ,cK,aO,aZ⟩:=Ą WO;have cy:=ψ (Ϗ cJ (Ϗ cK (Ϗ aO aZ)));have HC:Hid (∀j u,news[j]?=φ u->(w.alloc (Ξ #[] 3)).cell? (ad.add j)=φ u):=ψ (λj u hu=>(ù w _ _ (by rw[b9];exact aE (by intro e;rw[e] at hu;simp at hu))).trans (hc j u hu))
 have HL:=ψ (Ϗ hl h1);have HO:Hid ((w.alloc (Ξ #[] 3)).ownsRow w.heap.size 3 1 (ζ (φ ⟨w.heap.size,0,ν⟩) 0 0) 0 []):=ψ ⟨rfl,.inr ⟨w.heap.size,0,#[],rfl,ϊ _,ŧ w _,ϊ _,by unfold ϑ;omega,rfl,rfl⟩⟩
 clear hl hc h1 cJ cK aO aZ aE;have q:∀(w:Ψ) (a:Option Addr) (n c n' c':Nat),(binOp .eql 33 (ζ a n c) (ζ ν n' c')).run prog w=.ok (.bool a.isNone) w:=λw a n c n' c'=>Į w _ _ a n c n' c' (U Tryz.underlying33)
 go_enter func180,Tryz.ntmps180;go_wp2_with (first
  | (at_builtin
     refine ĭ _ rfl (.tmp 5) (.tmp 6) 33 rfl w.heap.size 3 i0 (ξ κ 0) 1 8 (U Tryz.underlying33) cy.e.1 cy.e.2.1 cy.e.2.2.1 cy.e.2.2.2 rfl (by decide) _ 0 _ rfl HO.e ad n c news rfl HL.e.1 HC.e HL.e.2 ?c3 ?c4 ?c5 ?_
     case c3=>(simp only[ϑ];omega)
     case c4=>omega
     case c5=>simp
     intro v' w1 b7 cW _;have gC:=ψ b7;have gX:=ψ cW;clear b7 cW))
 go_ret;refine⟨_,rfl,by have:=gC.e;rwa[ŭ,ì] at this,((ώ _ _).alloc (ϊ _) _).grown gX.e (by simp) (λk hk=>dX HO.e k hk)⟩
def adM(n c:Nat)(w:Ψ):ύ prog 180 #[ζ ν n c] w λe w'=>e=Ω (ζ ν 0 0)/\w=w':=by
 have q:∀(w:Ψ) (a:Option Addr) (n c n' c':Nat),(binOp .eql 33 (ζ a n c) (ζ ν n' c')).run prog w=.ok (.bool a.isNone) w:=λw a n c n' c'=>Į w _ _ a n c n' c' (U Tryz.underlying33)
 go_enter func180,Tryz.ntmps180;go_wp2;go_ret;exact⟨rfl,rfl⟩
def adL{f:α->List υ}{l:List α}(h:Row w B 1 (λx cs=>cs=f x) v l)(hB:B<=w.heap.size)(hf:∀x,(f x).length=1)(h1:∀x∈l,∀u∈f x,u.oneCell'=θ)(hn:l.length<=1000000):
 ύ prog 180 #[v] w λe w'=>∃v',e=Ω v'/\w'.ownsRow w.heap.size 3 1 v' l.length (l.flatMap f)/\Γ w.heap.size w w':=by
 obtain⟨A,c,rfl,-⟩:=id h;cases A with
 |none=>
  have hl:l=[]:=by
   obtain⟨A,c',hv,h1,h2,h3⟩:=h;injection hv with hA
   refine Û λaw=>?_
   obtain⟨ad,ha,_⟩:=h3 aw;rw[ha] at hA;cases hA
  subst hl;refine(adM _ _ w).mono ?_
  rintro e w' ⟨rfl,rfl⟩;exact⟨_,rfl,⟨rfl,.inl ⟨rfl,rfl⟩⟩,ώ _ _⟩
 |some ad=>
  have hc:=h.cells hf;exact adN (uT hf l) hc.1 (Eb l h1) hn (λaw=>by
   have:=hc.2 (by intro e;rw[e] at aw;simp at aw);omega)
end Go.Tw
