import Derived.Test.YtfifdjajcogccaaGreatDoorZ01
import Derived.Laws.EntriesVeiled
import Derived.DeepKeys5
import Derived.Laws.CopyOwn
set_option linter.all false
set_option maxHeartbeats 64000000
set_option maxRecDepth 100000
open And renaming intro -> Ϗ
open Array renaming getElem?_eq_some_iff -> Ϝ, replicate_succ -> œ, replicate_zero -> Ŕ, getElem?_toList -> Ĩ, ext_getElem? -> ĸ
open Bool renaming false_eq -> Ŷ, eq_false_iff -> Ag7, and_eq_true -> Ϫ
open Classical renaming byContradiction -> Ø
open Go renaming heap_alloc_new -> š, Operand -> Ç, Ending -> ņ, grownBy_putObj' -> ĩ, Calls -> ύ, info_parts -> Ğ, maxLen -> ϕ, run_takeDeferred -> Ahc, Addr -> ϖ, bodyPost_ret -> ă, wpList_append_own -> Ī, wpList -> ó, wpAnyH -> ř
open Go.Addr renaming add -> Ā
open Go.Fence renaming wide -> ò
open Go.Instr renaming index -> ė, lookup -> Ő, mapUpdate -> ő
open Go.IntKind renaming i64 -> ϗ
open Go.Lib renaming run_eql_slice_nil -> ī
open Go.Obj renaming cells -> Ϥ
open Go.Program renaming fieldsOf -> Ahj
open Go.Region renaming wanted -> Ê
open Go.Result renaming andThen -> Ţ
open Go.RowKit renaming intOf -> ϙ
open Go.RowKit.Below renaming heap_setCell -> Ú, grown -> Ahm, setCell -> Ĺ, refl -> ώ, alloc -> ţ
open Go.Value renaming int -> ϛ
open Go.World renaming putObj_heap_same -> Ň, putObj_heap_other -> À, setCell -> î, size_alloc -> Ahr, cell?_alloc_lt -> Ĉ, cell?_of_block -> ŷ, grownBy_alloc -> ϯ
open Go.World.ownsRow renaming alloc -> ň
open List renaming nil_append -> þ, size_toArray -> ŕ, length_cons -> Ď, length_nil -> Ŗ, push_toArray -> ŗ, append_toArray -> İ, cons_append -> Ĵ, flatMap_append -> ĵ, flatMap_singleton -> Ahv, append_nil -> Ť, flatMap_cons -> ğ, getElem?_append_left -> Ahy, getElem?_eq_some_iff -> ϩ, getElem?_append_right -> Ÿ, mem_of_getElem? -> ϡ, length_append -> Ę, mem_flatMap -> Ah0, mem_map -> Ĭ, mem_range -> ť, length_filter_le -> Agd, take_of_length_le -> ę, map_append -> Ŧ, getElem?_of_mem -> Ź, range -> Ϯ, length_singleton -> Af7, getElem?_eq_getElem -> Ä, take_succ_cons -> ù, take_zero -> ú, drop_succ_cons -> ý, drop_zero -> ĉ, mem_append -> È, exists_of_findSome?_eq_some -> ŧ, range_succ -> Ś, getElem?_eq_none -> Ah7, dropLast_concat_getLast -> Ah8, getLast?_eq_some_getLast -> Ah9, mem_of_getLast? -> Aia, eq_nil_of_length_eq_zero -> ź, length_map -> Ġ, getElem?_map -> Aid, count_le_length -> Aie
open Nat renaming reduceAdd -> ķ, reduceSub -> Ř, le_refl -> ϊ, zero_add -> Ũ, add_mul -> Ż, mul_le_mul_right -> Aih, le_trans -> ϣ, pow_le_pow_right -> Aii, zero_le -> Ϡ, le_of_eq -> ÿ, min_eq_left -> Aij, lt_of_lt_of_le -> ϟ, lt_succ_iff_lt_or_eq -> ε, blt_eq -> Aik
open Option.some renaming inj -> Ϟ
open Bool renaming true -> θ, false -> χ
open Go renaming Value -> υ, undef -> ω, World -> Ψ
open Go.Ending renaming returned -> Ω
open Go.IntKind renaming i64 -> κ
open Go.Lib renaming hid -> ψ
open Go.Obj renaming cells -> Ξ
open Go.RowKit renaming Below -> Γ, Below -> Γ
open Go.Value renaming slice -> ζ, pointer -> π, tuple -> μ, agg -> η, int -> ξ
open Option renaming some -> φ, none -> ν
variable{α:Type}{ops:Array Go.Oper}{ps:Array Go.Tmp}{lb tmps cs pP:Array υ}{ad p:Go.Addr}{assign body:Go.Code}{fn:Go.FuncId}{rc:Go.Loop}{o:Go.Obj}{P:Go.Program}{x:Go.Tw.aP}{b:Go.Tw.an}{e:Go.TypeId}{a bd fr ln be d a' c':Int}{rest:List Go.Oper}{out:List Go.Tw.al}{xs news:List υ}{B n g k c l K m D cap i f KO KM:Nat}{w W w' W' Wb W4 w2:Ψ}{bv pv tv v lv u sv av:υ}
namespace Go.Tw
variable [Go.Tw.aJ]
open Go Go.Proofs Go.RowKit
attribute [local go_sem] EY EX Oper.semAt_some
def Bd(h:g=w.heap.size):(w.alloc o).heap[g]?=φ o:=by subst h;exact š w _
def sG{o':Obj}(h:w.heap[g]?=φ o'):(w.alloc o).heap[g]?=φ o':=(Below.heap_alloc w o g (Ϝ.1 h).1).trans h
def afg{rec:Loop}(hB:B<=w.heap.size)(ai:bq w B b pv bv tv)(cE:Fl b)(tN:∀p∈b.pieces,0<=p.len.lo/\p.len.hi<=1000)(h3:b.pieces.length<=3)(hK:(aH b).length<=1000)(hY:PS w b pv bv tv rec)
 (hs:W.heap.size=w.heap.size+4)(hc:Bk W (w.heap.size+1) 115 #[ζ ν 0 0])(hd:W.heap[w.heap.size+2]?=φ (.deferred (φ [])))(hl:W.heap[w.heap.size+3]?=φ (.loop rec))(hb:Γ w.heap.size w W)(m:Nat):
 CallsIn ò m prog 162 #[η #[ξ κ b.ab,pv,bv,tv],.func (.yield (w.heap.size+3)) #[] #[]] W
  λe W'=>(∃v,e=Ω v)/\∃n',AI w b pv bv tv rec n' (aH b) W':=by
 obtain⟨W2,kU⟩:∃W2,W2=((((W.alloc (Ξ #[ξ κ b.ab,pv,bv,tv] 117)).alloc (Ξ #[.func (.yield (w.heap.size+3)) #[] #[]] 182)).alloc (Ξ #[ξ κ 0,ξ κ 0,ξ κ 0] 128)).alloc (Ξ #[.func (.func 188) #[] #[π (φ ⟨W.heap.size,0,ν⟩),π (φ ⟨W.heap.size+1+1,0,ν⟩),π (φ ⟨W.heap.size+1,0,ν⟩),π (φ ⟨W.heap.size+1+1+1,0,ν⟩)]] 158)):=⟨_,rfl⟩
 have e4:w.heap.size+4=W.heap.size:=by omega
 have e5:w.heap.size+5=W.heap.size+1:=by omega
 have e6:w.heap.size+6=W.heap.size+1+1:=by omega
 have e7:w.heap.size+7=W.heap.size+1+1+1:=by omega
 have Mu:AI w b pv bv tv rec ⟨0,0,0⟩ [] W2:=by
  subst kU;refine⟨?_,?_,?_,?_,⟨ζ ν 0 0,?_,by simp,.inl ⟨rfl,rfl⟩⟩,?_,?_,?_⟩
  ·rw[e4];exact(((Bk.cD rfl _ _).alloc _).alloc _).alloc _
  ·rw[e5];exact((Bk.cD (by simp) _ _).alloc _).alloc _
  ·rw[e6];exact(Bk.cD (by simp) _ _).alloc _
  ·rw[e4,e5,e6,e7];exact Bk.cD (by simp) _ _
  ·exact(((hc.alloc _).alloc _).alloc _).alloc _
  ·exact sG (sG (sG (sG hd)))
  ·exact sG (sG (sG (sG hl)))
  ·exact(((hb.alloc (by omega) _).alloc (by simp;omega) _).alloc (by simp;omega) _).alloc (by simp;omega) _
 have jy:=aa5 hB ai cE tN h3 hY b.pieces.length 0 ⟨0,0,0⟩ [] W2 (m - 1) (by omega) (λq=>by unfold al.at;simp) (by simpa [aH] using hK) Mu
 rw[e4,e5,e6,e7,show((0:Nat):Int)=0 from rfl,þ] at jy
 obtain⟨A1,n1,c1,rfl,-⟩:=ai.pieces.Φ;obtain⟨A2,n2,c2,rfl,-⟩:=ai.aF.Φ;obtain⟨A3,n3,c3,rfl,-⟩:=ai.aM.Φ;subst kU;have adB:=ψ jy;clear jy ai hY hd hl hb hc hs Mu e4 e5 e6 e7;refine callsIn_of_wp func162 rfl trivial ?_
 simp only[Tryz.ntmps162,ŕ,Ď,Ŗ,ķ,Ř,œ,Ŕ,ŗ,İ,þ,Ĵ]
 gi_wp2_with (first
  | (gi_at_call 188;refine adB.e.mono ?_;rintro e w1 ⟨rfl,n2,tF,Mt,DE⟩;have Ps:=ψ DE;clear DE Mt))
 go_end0
 exact⟨⟨_,rfl⟩,n2,Ps.e⟩
end Go.Tw
namespace Go.Tw
variable [Go.Tw.aJ]
open Go Go.Proofs Go.RowKit
def Ey(fn:FuncId)(tmps:Array υ)(ps:Array Tmp)(assign body:Code)(D:Nat):Loop:={state:=.ready,pending:=ν,fn,tmps,params:=ps,assign,body,defers:=D}
def T7{g:Ç}{Q:Exit->Act->Ψ->Prop}{a:Act}{gf:Nat}{pre:Array υ}
 (hg:a.eval g=.func (.func gf) pre lb)(eg:∀args w,(callFunc gf args).run P w=.ok (.enter gf args) w)
 (h:∀fn rc,Hid (rc=Ey fn a.tmps ps assign body w.heap.size)->CallsIn ò (n - 1) P gf (pre++#[.func (.yield (w.heap.size+1)) #[] #[]]++lb) ((w.alloc (.deferred (φ []))).alloc (.loop rc))
   (rangePost ò n P (w.heap.size+1) Q {a with defers:={target:=.collected w.heap.size,args:=#[]}::a.defers})):
 (Code.rangeFunc g ps assign body).wpIn ò n P Q a w:=by
 refine wpIn_rangeFunc λfn _=>?_
 obtain⟨W1,fJ⟩:∃W1,W1=(w.alloc (.deferred (φ []))).alloc (.loop (Ey fn a.tmps ps assign body w.heap.size)):=⟨_,rfl⟩
 have h1:=h fn _ (ψ rfl);rw[<-fJ] at h1;have r1:(Instr.enterLoop fn a.tmps ps assign body ò.round).run P w=.ok (w.heap.size+1,[{target:=.collected w.heap.size,args:=#[]}]) W1:=by
  rw[fJ];exact run_enterLoop_outer fn a.tmps ps assign body
 have r2:(resolve a.eval (rangeCall g (w.heap.size+1)) 0).run P W1=.ok {target:=.fn (.func gf) lb,args:=pre++#[.func (.yield (w.heap.size+1)) #[] #[]]} W1:=by
  simp only[resolve,hg];simp[go_sem]
 have r3:(invoke (.fn (.func gf) lb) (pre++#[.func (.yield (w.heap.size+1)) #[] #[]])).run P W1=.ok (.enter gf (pre++#[.func (.yield (w.heap.size+1)) #[] #[]]++lb)) W1:=by
  simp[invoke,go_sem,eg]
 refine⟨_,_,_,_,_,_,_,_,r1,r2,?_,r3,?_,?_⟩
 ·intro f' _;trivial
 ·intro h;cases h
 ·exact h1
def Vc{m:Nat}{args:Array υ}{R:ņ->Ψ->Prop}
 (nX:Hid (rc=Ey fn tmps ps assign body D))(hl:W.heap[l]?=φ (.loop rc))(Sx:args.size=ps.size)
 (h:assign.wpIn (ò.inRound l) n P (Exit.then (λbI aa=>∃ao,(Instr.beginRound l).run P aa=.ok () ao/\body.wpIn (ò.inRound l) n P (roundPost P l R) bI ao) (λ_ _ _=>False))
   {tmps:=(ps.zip args).foldl (λt (p,v)=>t.setIfInBounds p v) tmps,defers:=[]} W):YieldAt ò m P l args W R:=by
 rw[nX.e] at hl;refine⟨fn,_,assign,body,run_yield hl Sx,?_⟩
 have:=roundIn_of_wpIn (F:=ò) (l:=l) (f:=fn) (R:=R) trivial h;exact⟨trivial,λc cs _=>this.2 c cs (room_wide _)⟩
def Qf(nX:Hid (rc=Ey fn tmps ps assign body D))(hl:W.heap[l]?=φ (.loop rc)):
 (Instr.beginRound l).run P W=.ok () (W.putObj l (.loop {rc with state:=.busy})):=run_beginRound hl (by rw[nX.e];rfl)
def apU{P:Program}(nX:Hid (rc=Ey fn tmps ps assign body D))(hl:W.heap[l]?=φ (.loop {rc with state:=.busy})):
 (Instr.endRound l ν).run P W=.ok (.bool θ) (W.putObj l (.loop rc)):=by
 rw[run_endRound ν hl,nX.e];rfl
def QI(nX:Hid (rc=Ey fn tmps ps assign body D))(hl:W.heap[l]?=φ (.loop rc)):
 (Instr.endLoop l).run P W=.ok ν (W.putObj l (.loop {rc with state:=.exhausted})):=by
 rw[run_endLoop hl (by rw[nX.e];simp[Ey]),nX.e];rfl
def Xv{P:Program}(j:Code)(hl:W.heap[l]?=φ (.loop {rc with state:=.busy})):
 (Instr.endRound l (φ j)).run P W=.ok (.bool χ) (W.putObj l (.loop {rc with state:=.done,pending:=φ j})):=run_endRound (r:={rc with state:=.busy}) (φ j) hl
def Xz{P:Program}{j:Code}(hl:W.heap[l]?=φ (.loop {rc with state:=.done,pending:=φ j})):
 (Instr.endLoop l).run P W=.ok (φ j) (W.putObj l (.loop {rc with state:=.exhausted,pending:=φ j})):=run_endLoop (r:={rc with state:=.done,pending:=φ j}) hl (by simp)
end Go.Tw
namespace Go.Tw
variable [Go.Tw.aJ]
open Go Go.Proofs Go.RowKit
attribute [local go_sem] EY EX Oper.semAt_some
def alS:(prog.info? 128).map (λi=>(i.zero,i.size,i.bytes))=φ (φ (η #[ξ κ 0,ξ κ 0,ξ κ 0]),3,24):=by
 rw[v8];kernel_rfl
structure RB(w W Wb:Ψ)(rc:Loop)(v:υ)(n:al)(out:List al):Prop where
 size:Wb.heap.size=W.heap.size+1
 l:Wb.heap[w.heap.size+3]?=φ (.loop {rc with state:=.busy})
 o:Bk Wb (w.heap.size+1) 115 #[v]
 own:Wb.ownsRow (w.heap.size+8) 128 3 v out.length (out.flatMap al.vs)
 nb:Bk Wb W.heap.size 128 n.cs
 old:∀g,g<W.heap.size->g≠w.heap.size+3->Wb.heap[g]?=W.heap[g]?
 below:Γ w.heap.size w Wb
def RB.mk'{m n:al}(h:AI w b pv bv tv rc m out W):
 ∃v,RB w W ((W.alloc (.cells n.cs 128)).putObj (w.heap.size+3) (.loop {rc with state:=.busy})) rc v n out:=by
 obtain⟨v,v1,v2⟩:=h.o;have hx:=h.x.lt;refine⟨v,⟨by simp,Ň (by simp;omega),?_,?_,?_,λg hg au=>?_,?_⟩⟩
 ·exact(À (by omega)).trans (v1.alloc _)
 ·refine⟨v2.1,?_⟩
  rcases v2.2 with h0| ⟨g,cap,cur,h1,h2,h3,h4⟩
  ·exact .inl h0
  ·exact .inr ⟨g,cap,cur,h1,h2,(À (by omega)).trans (sG h3),h4⟩
 ·exact(À (by omega)).trans (Bk.new W _ _)
 ·exact(À (by omega)).trans (Below.heap_alloc _ _ _ hg)
 ·exact(h.below.alloc (by omega) _).grown (ĩ _ _ _) (by simp;omega) (λk hk=>by cases hk;omega)
def qx{base:Nat}{sz:Nat}(h:w.ownsRow base e sz v n xs):∃A m c,v=ζ A m c:=by
 rcases h.2 with⟨rfl,_⟩ | ⟨g,cap,cur,rfl,_⟩
 ·exact⟨_,_,_,rfl⟩
 ·exact⟨_,_,_,rfl⟩
def RB.later{n:al}(r:RB w W Wb rc v n out)(hs:w.heap.size+8<=W.heap.size)(hg:(Wb.alloc o).grownBy W4 v.ownBlock):
 Bk W4 (w.heap.size+1) 115 #[v]/\W4.heap[w.heap.size+3]?=φ (.loop {rc with state:=.busy}):=by
 have ob:∀k,v.ownBlock=φ k->w.heap.size+8<=k:=kY r.own
 have e4:∀g,g<w.heap.size+8->W4.heap[g]?=Wb.heap[g]?:=λg uQ=>(hg.block g (by simp[r.size];omega) (λe=>by have:=ob g e.symm;omega)).trans (Below.heap_alloc _ _ _ (by rw[r.size];omega))
 exact⟨(e4 _ (by omega)).trans r.o,(e4 _ (by omega)).trans r.l⟩
def Kz{base:Nat}{sz g':Nat}(h:w.ownsRow base e sz v n xs)(hg:g'<base):(w.putObj g' o).ownsRow base e sz v n xs:=by
 refine⟨h.1,?_⟩
 rcases h.2 with h0| ⟨g,cap,cur,h1,h2,h3,h4⟩
 ·exact .inl h0
 ·exact .inr ⟨g,cap,cur,h1,h2,(À (by omega)).trans h3,h4⟩
def _root_.Go.World.ownsRow.base{w:Ψ}{base zG:Nat}{e:TypeId}{sz n:Nat}{v:υ}{xs:List υ}(h:w.ownsRow base e sz v n xs)(hb:zG<=base):w.ownsRow zG e sz v n xs:=by
 refine⟨h.1,?_⟩
 rcases h.2 with h0| ⟨g,cap,cur,h1,h2,h3,h4⟩
 ·exact .inl h0
 ·exact .inr ⟨g,cap,cur,h1,by omega,h3,h4⟩
def RB.done{n:al}{v':υ}(h:AI w b pv bv tv rc n out W)(r:RB w W Wb rc v n out)
 (aK:W4.ownsRow (w.heap.size+8) 128 3 v' (out.length+1) (out.flatMap al.vs++n.vs))(hg:(Wb.alloc o).grownBy W4 v.ownBlock):
 AI w b pv bv tv rc n (out++ [n]) ((W4.setCell ⟨w.heap.size+1,0,ν⟩ v').putObj (w.heap.size+3) (.loop rc)):=by
 have hx:=h.x.lt;have ob:∀k,v.ownBlock=φ k->w.heap.size+8<=k:=kY r.own
 have ob':∀k,v'.ownBlock=φ k->w.heap.size+8<=k:=kY aK
 have e4:∀g,g<w.heap.size+8->W4.heap[g]?=Wb.heap[g]?:=λg uQ=>(hg.block g (by simp[r.size];omega) (λe=>by have:=ob g e.symm;omega)).trans (Below.heap_alloc _ _ _ (by rw[r.size];omega))
 have e6:∀g,g<w.heap.size+8->g≠w.heap.size+3->g≠w.heap.size+1->((W4.setCell ⟨w.heap.size+1,0,ν⟩ v').putObj (w.heap.size+3) (.loop rc)).heap[g]?=W.heap[g]?:=λg uQ h3 h1=>
  (À h3).trans ((Ú _ _ _ _ (by simpa using h1)).trans ((e4 g uQ).trans (r.old g (by omega) h3)))
 have vN:w.heap.size+8<=W4.heap.size:=by have:=hg.size;simp[r.size] at this;omega
 refine⟨(e6 _ (by omega) (by omega) (by omega)).trans h.p,(e6 _ (by omega) (by omega) (by omega)).trans h.y,(e6 _ (by omega) (by omega) (by omega)).trans h.n,(e6 _ (by omega) (by omega) (by omega)).trans h.x,
  ⟨v',?_,?_⟩,(e6 _ (by omega) (by omega) (by omega)).trans h.d,Ň (by simp[î];omega),?_⟩
 ·have h4:Bk W4 (w.heap.size+1) 115 #[v]:=(e4 _ (by omega)).trans r.o
  exact(À (by omega)).trans (h4.set 0 v')
 ·have e:(out++ [n]).length=out.length+1:=by simp
  rw[e,ĵ,Ahv];refine⟨aK.1,?_⟩
  rcases aK.2 with h0| ⟨g,cap,cur,h1,h2,h3,h4⟩
  ·exact .inl h0
  ·exact .inr ⟨g,cap,cur,h1,h2,(À (by omega)).trans ((Ú _ _ _ _ (by simp;omega)).trans h3),h4⟩
 ·refine Ahm (w:=W4.setCell ⟨w.heap.size+1,0,ν⟩ v') ?_ (ĩ _ _ _) (by simp[î];omega) (λk hk=>by cases hk;omega)
  refine Ĺ ?_ (by simp) _
  exact Ahm (r.below.alloc (by rw[r.size];omega) _) hg (by simp[r.size];omega) (λk hk=>by have:=ob k hk;omega)
def aeI(hB:B<=w.heap.size)(ai:bq w B b pv bv tv)(cE:Fl b)(tN:∀p∈b.pieces,0<=p.len.lo/\p.len.hi<=1000)(h3:b.pieces.length<=3)(hK:(aH b).length<=1000):
 ύ prog 96 #[η #[ξ κ b.ab,pv,bv,tv]] w λe w'=>∃v,e=Ω v/\w'.ownsRow w.heap.size 128 3 v (aH b).length ((aH b).flatMap al.vs)/\Γ w.heap.size w w':=by
 refine(callsIn_wide (n:=0)).1 ?_
 have bV:=ψ ai;obtain⟨A1,n1,c1,rfl,-⟩:=ai.pieces.Φ;obtain⟨A2,n2,c2,rfl,-⟩:=ai.aF.Φ;obtain⟨A3,n3,c3,rfl,-⟩:=ai.aM.Φ;clear ai;obtain⟨i0,di,dp,aS,bu⟩:=Ğ alS;have cP:=ψ (Ϗ di (Ϗ dp (Ϗ aS bu)));clear di dp aS bu;refine callsIn_of_wp_marks func96 rfl trivial ?_
 simp only[Tryz.ntmps96,ŕ,Ď,Ŗ,ķ,Ř,œ,Ŕ,ŗ,İ,þ,Ĵ]
 gi_wp2
 refine T7 (gf:=162) (pre:=#[η #[ξ κ b.ab,ζ A1 n1 c1,ζ A2 n2 c2,ζ A3 n3 c3]]) (lb:=#[]) rfl call162 λfn rc nX=>?_
 simp only[Ahr,Nat.add_assoc,ķ,İ,Ĵ,þ,Ť];refine(afg (w:=w) hB bV.e cE tN h3 hK (rec:=rc) ?yround (by simp) (((Bk.cD (by simp) _ _).alloc _).alloc _) (sG (Bd (by simp))) (Bd (by simp)) (((((ώ _ _).alloc (ϊ _) _).alloc (by simp) _).alloc (by simp;omega) _).alloc (by simp;omega) _) _).mono ?_
 case yround=>
  intro m n out W hlen hI;have HI:=ψ hI;refine Vc (n:=0) nX hI.l rfl ?_
  clear hI;simp only[List.zip_toArray,List.zip_cons_cons,List.zip_nil_right,List.foldl_toArray,List.foldl_cons,List.foldl_nil];obtain⟨na,nb,nc⟩:=n;simp only[al.cs]
  gi_wp2
  obtain⟨v,sS⟩:=RB.mk' (n:=⟨na,nb,nc⟩) HI.e;refine⟨_,Qf nX (sG HI.e.l),?_⟩
  obtain⟨Wb,wW⟩:∃Wb,Wb=(W.alloc (Ϥ #[ϛ ϗ na,ϛ ϗ nb,ϛ ϗ nc] 128)).putObj (w.heap.size+3) (.loop {rc with state:=.busy}):=⟨_,rfl⟩
  replace sS:RB w W Wb rc v ⟨na,nb,nc⟩ out:=by rw[wW];exact sS
  rw[<-wW];clear wW;have HR:=ψ sS;have b0: Wb.cell? ⟨w.heap.size+1,0,ν⟩=φ v:=sS.o.cell 0;have z0:=sS.o.frozen 0;have c0: Wb.cell? ⟨W.heap.size,0,ν⟩=φ (ξ κ na):=sS.nb.cell 0;have c1: Wb.cell? ⟨W.heap.size,1,ν⟩=φ (ξ κ nb):=sS.nb.cell 1;have c2: Wb.cell? ⟨W.heap.size,2,ν⟩=φ (ξ κ nc):=sS.nb.cell 2;clear sS
  gi_wp2_with (first
   | (gi_at_builtin
      refine wpListIn_append_own _ rfl (.tmp 8) (.tmp 10) 115 rfl (w.heap.size+8) 128 i0 (η #[ξ κ 0,ξ κ 0,ξ κ 0]) 3 24 (U Tryz.underlying115) cP.e.1 cP.e.2.1 cP.e.2.2.1 cP.e.2.2.2 rfl (by decide) _ out.length _ rfl (HR.e.own.alloc _) ⟨Wb.heap.size,0,ν⟩ 1 1 [ξ κ na,ξ κ nb,ξ κ nc] rfl rfl ?c1 ?c2 ?c3 ?c4 ?c5 ?_
      case c1=>(intro j u hu;match j,hu with|0,hu=>(simp at hu;subst hu;simp[go_sem,Ā]) |1,hu=>(simp at hu;subst hu;simp[go_sem,Ā]) |2,hu=>(simp at hu;subst hu;simp[go_sem,Ā]))
      case c2=>simp[Value.oneCell']
      case c3=>(simp only[ϕ];omega)
      case c4=>omega
      case c5=>(have:=HR.e.size;have:=HI.e.x.lt;simp;omega)
      intro v' w1 cO fO _;obtain⟨A9,m9,c9,rfl⟩:=qx cO;have HL:=ψ (HR.e.later (by have:=HI.e.x.lt;omega) fO)
      have s0: w1.cell? ⟨w.heap.size+1,0,ν⟩=φ v:=HL.e.1.cell 0;have s1:=HL.e.1.frozen 0;have oo:=ψ cO;have om:=ψ fO;clear cO fO))
  refine⟨_,_,apU nX ((Ú _ _ _ _ (by simp)).trans HL.e.2),rfl,?_⟩
  exact HR.e.done HI.e oo.e om.e
 ·rintro e W2 ⟨⟨v,rfl⟩,n',hI⟩
  have HI:=ψ hI;refine⟨ν,_,QI nX hI.l,?_⟩
  clear hI;obtain⟨v2,Ce,Gr⟩:=HI.e.o;obtain⟨A9,m9,c9,rfl⟩:=qx Gr;have HV:=ψ Gr;obtain⟨W3,fT⟩:∃W3,W3=W2.putObj (w.heap.size+3) (.loop {rc with state:=.exhausted}):=⟨_,rfl⟩
  have k1: W3.cell? ⟨w.heap.size+1,0,ν⟩=φ (ζ A9 m9 c9):=by rw[fT];exact Bk.cell (g:=w.heap.size+1) ((À (by omega)).trans Ce) 0
  have HD:Hid (W3.heap[w.heap.size+2]?=φ (.deferred (φ []))):=ψ (by rw[fT];exact(À (by omega)).trans HI.e.d)
  have HB:Hid (Γ w.heap.size w W3):=ψ (by rw[fT];exact HI.e.below.grown (ĩ _ _ _) (by have:=HI.e.x.lt;omega) (λk hk=>by cases hk;omega))
  have HO:Hid (W3.ownsRow (w.heap.size+8) 128 3 (ζ A9 m9 c9) (aH b).length ((aH b).flatMap al.vs)):=ψ (by
   rw[fT];refine⟨HV.e.1,?_⟩
   rcases HV.e.2 with h0| ⟨g,cap,cur,h1,h2,h3,h4⟩
   ·exact .inl h0
   ·exact .inr ⟨g,cap,cur,h1,h2,(À (by omega)).trans h3,h4⟩)
  rw[<-fT];clear fT Ce Gr
  gi_wp2
  refine⟨by simp,.inl ⟨_,_,rfl,Ahc HD.e,?_⟩⟩
  refine⟨_,results_tmp rfl _ _ _,_,rfl,(Kz HO.e (by omega)).base (by omega),HB.e.grown (ĩ _ _ _) ?_ (λk hk=>by cases hk;omega)⟩
  have:=HB.e.size;omega
end Go.Tw
namespace Go.Tw
variable [Go.Tw.aJ]
open Go Go.Proofs Go.RowKit
def L9{α:Type}{f:α->List υ}{sz:Nat}(hf:∀x,(f x).length=sz):∀(l:List α) (i:Nat) (x:α) (j:Nat) (u:υ),l[i]?=φ x->(f x)[j]?=φ u->(l.flatMap f)[i * sz+j]?=φ u
 | [],i,x,j,u,hi,_=>by simp at hi
 |a::l,0,x,j,u,hi,hu=>by
  simp at hi;subst hi;rw[ğ,Nat.zero_mul,Ũ,Ahy (ϩ.1 hu).1]
  exact hu
 |a::l,i+1,x,j,u,hi,hu=>by
  rw[ğ,Ÿ (by rw[hf,Ż];omega),hf]
  have e:(i+1) * sz+j - sz=i * sz+j:=by rw[Ż];omega
  rw[e];exact L9 hf l i x j u (by simpa using hi) hu
def tX{base:Nat}{sz:Nat}{R:α->List υ->Prop}{f:α->List υ}{l:List α}(h:w.ownsRow base e sz v l.length (l.flatMap f))(hf:∀x,(f x).length=sz)(hR:∀x∈l,R x (f x)):
 Row w w.heap.size sz R v l:=by
 rcases h.2 with⟨rfl,h0⟩ | ⟨g,cap,cur,rfl,h2,h3,h4,h5,h6,h7⟩
 ·have:l=[]:=List.length_eq_zero_iff.1 h0
  subst this;exact Row.nil
 ·refine⟨φ ⟨g,0,ν⟩,cap,rfl,h4,h5,λ_=>⟨⟨g,0,ν⟩,rfl,(Ϝ.1 h3).1,λi x hx=>⟨f x,hR x (ϡ hx),hf x,λj u hu=>?_⟩⟩⟩
  have aj:j<sz:=by have:=(ϩ.1 hu).1;rw[hf] at this;exact this
  have h8:=L9 hf l i x j u hx hu;rw[<-h7,List.getElem?_take] at h8
  have BP:i * sz+j<l.length * sz:=by
   have BP:=(ϩ.1 hx).1
   calc i * sz+j<i * sz+sz:=by omega
    _=(i+1) * sz:=by rw[Ż];omega
    _<=l.length * sz:=Aih _ BP
  rw[if_pos BP] at h8;have e:(⟨g,0,ν⟩:ϖ).add (i * sz+j)=⟨g,i * sz+j,ν⟩:=by
   unfold Ā;split
   ·rename_i h;rw[h]
   ·simp
  rw[e];exact(cell_of_row w g (i * sz+j) cur _ (0,0) h3).trans (by rw[<-Ĩ];exact h8)
def am5{base:Nat}{l:List al}(h:w.ownsRow base 128 3 v l.length (l.flatMap al.vs)):Row w w.heap.size 3 al.R v l:=tX h (λ_=>rfl) λ_ _=>rfl
def WG{b:an}(hw:∀p∈b.pieces,p.len.hi - p.len.lo<3):∀(f i:Nat) (n:al),(hJ b f i n).length<=3 ^ f
 |0,i,n=>by unfold hJ;split<;>simp
 |f+1,i,n=>by
  unfold hJ;cases h:b.pieces[i]? with
  |none=>simp
  |some p=>
   have h1:=hw p (ϡ h);have h2:(rF p.len).length<=3:=by rw[Uz];omega
   simp only;have key:∀l:List Int,(l.flatMap λk=>hJ b f (i+1) (n.set i k)).length<=l.length * 3 ^ f:=by
    intro l;induction l with
    |nil=>simp
    |cons a l ih=>
     rw[ğ,Ę,Ď,Ż,Nat.one_mul,Nat.add_comm];exact Nat.add_le_add ih (WG hw f (i+1) _)
   refine ϣ (key _) ?_
   rw[Nat.pow_succ,Nat.mul_comm (3 ^ f)];exact Aih _ h2
def IB(hv:Valid b):(aH b).length<=27:=by
 refine ϣ (WG (λp hp=>(hv.piece p hp).wide) _ _ _) ?_
 exact Aii (n:=3) (by omega) hv.np.2
def sZ{base:Nat}{sz:Nat}(h:w.ownsRow base e sz v n xs)(hg:p.block<base):(w.setCell p u).ownsRow base e sz v n xs:=by
 refine⟨h.1,?_⟩
 rcases h.2 with h0| ⟨g,cap,cur,h1,h2,h3,h4⟩
 ·exact .inl h0
 ·exact .inr ⟨g,cap,cur,h1,h2,(Ú _ _ _ _ (by omega)).trans h3,h4⟩
def kR(w:Ψ)(base:Nat)(v:υ)(l:List al):Prop:=w.ownsRow base 128 3 v l.length (l.flatMap al.vs)
def kR.row{base:Nat}{l:List al}(h:kR w base v l):Row w w.heap.size 3 al.R v l:=am5 h
def kR.set{base:Nat}{l:List al}(h:kR w base v l)(hp:p.block<base):kR (w.setCell p u) base v l:=sZ h hp
def kR.alloc{w:Ψ}{base:Nat}{v:υ}{l:List al}(h:kR w base v l)(o:Obj):kR (w.alloc o) base v l:=ň h o
def kR.base{w:Ψ}{base zG:Nat}{v:υ}{l:List al}(h:kR w base v l)(hb:zG<=base):kR w zG v l:=World.ownsRow.base h hb
def all(hB:B<=w.heap.size)(ai:bq w B b pv bv tv)(hv:Valid b):
 ύ prog 96 #[η #[ξ κ b.ab,pv,bv,tv]] w λe w'=>∃v,e=Ω v/\kR w' w.heap.size v (aH b)/\Γ w.heap.size w w':=
 (aeI hB ai hv.ass (λp hp=>⟨by have:=(hv.piece p hp).lo;omega,by have:=(hv.piece p hp).hi;omega⟩) hv.np.2 (by have:=IB hv;omega)).mono λ_ _ ⟨v,h1,h2,h3⟩=>⟨v,h1,h2,h3⟩
def cG(b:an)(s:Int):Int:=if dg b≠0 then dg b else if s≠0 then s else if(aH b).length=0 then 9 else 0
def zl(b:an)(pv bv tv:υ)(w:Ψ)(K:Nat)(lb:Array υ)(s:Int):Prop:=
 (∀args w,(callFunc K args).run prog w=.ok (.enter K args) w)/\(dg b=0->∀W:Ψ,Γ w.heap.size w W->ύ prog K (#[η #[ξ κ b.ab,pv,bv,tv]]++lb) W λe W'=>e=Ω (ξ κ s)/\Γ W.heap.size W W')
def yb(hb:bq w B b pv bv tv)(hB:B<=w.heap.size)(h:dg b=0):
 ύ prog 68 #[η #[ξ κ b.ab,pv,bv,tv]] w λe w'=>e=Ω (ξ κ 0)/\Γ w.heap.size w w':=by
 have:=Qw hb hB;rwa[h] at this
def apr{g:υ}(hB:B<=w.heap.size)(ai:bq w B b pv bv tv)(h0:dg b≠0):
 ύ prog 98 #[η #[ξ κ b.ab,pv,bv,tv],g] w λe w'=>e=Ω (μ #[η #[ξ κ 0,ζ ν 0 0,ζ ν 0 0,ζ ν 0 0,ζ ν 0 0],ξ κ (dg b)])/\Γ w.heap.size w w':=by
 have bV:=ψ ai;obtain⟨A1,n1,c1,rfl,-⟩:=ai.pieces.Φ;obtain⟨A2,n2,c2,rfl,-⟩:=ai.aF.Φ;obtain⟨A3,n3,c3,rfl,-⟩:=ai.aM.Φ;clear ai;go_enter func98,Tryz.ntmps98;go_wp2_with (first
  | (go_at_call 68;refine(Qw (bV.e.still ((((Δ.refl w).alloc hB _).alloc (by simp;omega) _))) (by simp;omega)).mono ?_;rintro e w1 ⟨rfl,ag⟩;obtain⟨mG,oY⟩:=mX ag rfl;have a8:=ψ ag;clear ag))
 refine ă (v:=μ #[η #[ξ κ 0,ζ ν 0 0,ζ ν 0 0,ζ ν 0 0,ζ ν 0 0],ξ κ (dg b)]) (by simp[results,Tryz.results98,go_sem,mG,oY]) rfl ⟨rfl,?_⟩
 repeat refine Ĺ ?_ (by simp) _
 exact(((ώ _ _).alloc (ϊ _) _).alloc (by simp) _).trans (a8.e.mono (by simp;omega))
def aps{s:Int}(hB:B<=w.heap.size)(ai:bq w B b pv bv tv)(hK:zl b pv bv tv w K lb s)(h0:dg b=0)(hs:s≠0):
 ύ prog 98 #[η #[ξ κ b.ab,pv,bv,tv],fv K lb] w λe w'=>e=Ω (μ #[η #[ξ κ 0,ζ ν 0 0,ζ ν 0 0,ζ ν 0 0,ζ ν 0 0],ξ κ s])/\Γ w.heap.size w w':=by
 obtain⟨eg,hK⟩:=hK;have HK:=ψ (hK h0);have bV:=ψ ai;have H0:=ψ h0;obtain⟨A1,n1,c1,rfl,-⟩:=ai.pieces.Φ;obtain⟨A2,n2,c2,rfl,-⟩:=ai.aF.Φ;obtain⟨A3,n3,c3,rfl,-⟩:=ai.aM.Φ;clear ai hK h0;go_enter func98,Tryz.ntmps98;go_wp2_with (first
  | (go_at_call 68;refine(yb (bV.e.still ((((Δ.refl w).alloc hB _).alloc (by simp;omega) _))) (by simp;omega) H0.e).mono ?_;rintro e w1 ⟨rfl,ag⟩
     have aS:w.heap.size+2<=w1.heap.size:=by have:=ag.size;simpa using this
     have k1:Hid (Bk w1 (w.heap.size+1) 122 #[ξ κ 0,ζ ν 0 0,ζ ν 0 0,ζ ν 0 0,ζ ν 0 0]):=ψ ((Bk.cD (by simp) _ _).below ag (by simp))
     have kb:Bk w1 w.heap.size 26 #[ξ κ b.ab,ζ A1 n1 c1,ζ A2 n2 c2,ζ A3 n3 c3]:=((Bk.new w _ _).alloc _).below ag (by simp;omega)
     have b0:=kb.cell 0;have b1:=kb.cell 1;have b2:=kb.cell 2;have b3:=kb.cell 3;clear kb;have a8:Hid (Γ w.heap.size w w1):=ψ ((((ώ _ _).alloc (ϊ _) _).alloc (by simp) _).trans (ag.mono (by simp;omega)));clear ag))
 refine(HK.e _ (a8.e.alloc (by omega) _)).mono ?_
 rintro e w2 ⟨rfl,ak⟩;have k2:Bk w2 (w.heap.size+1) 122 #[ξ κ 0,ζ ν 0 0,ζ ν 0 0,ζ ν 0 0,ζ ν 0 0]:=(k1.e.alloc _).below ak (by simp;omega)
 have fR:=ψ (db a8.e ak (by omega))
 have r0:=k2.cell 0;have r1:=k2.cell 1;have r2:=k2.cell 2;have r3:=k2.cell 3;have r4:=k2.cell 4;have z0:=k2.frozen 0;have z1:=k2.frozen 1;have z2:=k2.frozen 2;have z3:=k2.frozen 3;have z4:=k2.frozen 4;clear ak k2;go_wp2;refine ă (v:=μ #[η #[ξ κ 0,ζ ν 0 0,ζ ν 0 0,ζ ν 0 0,ζ ν 0 0],ξ κ s]) (by simp[results,Tryz.results98,go_sem,r0,r1,r2,r3,r4]) rfl ⟨rfl,?_⟩
 repeat refine Ĺ ?_ (by simp) _
 exact fR.e
def apt(hB:B<=w.heap.size)(ai:bq w B b pv bv tv)(hK:zl b pv bv tv w K lb 0)(h0:dg b=0)(ha:(aH b).length=0):
 ύ prog 98 #[η #[ξ κ b.ab,pv,bv,tv],fv K lb] w λe w'=>e=Ω (μ #[η #[ξ κ 0,ζ ν 0 0,ζ ν 0 0,ζ ν 0 0,ζ ν 0 0],ξ κ 9])/\Γ w.heap.size w w':=by
 obtain⟨eg,hK⟩:=hK;have HK:=ψ (hK h0);have bV:=ψ ai;have H0:=ψ h0;have HA:=ψ ha;obtain⟨A1,n1,c1,rfl,-⟩:=ai.pieces.Φ;obtain⟨A2,n2,c2,rfl,-⟩:=ai.aF.Φ;obtain⟨A3,n3,c3,rfl,-⟩:=ai.aM.Φ;clear ai hK h0 ha;go_enter func98,Tryz.ntmps98;go_wp2_with (first
  | (go_at_call 68;refine(yb (bV.e.still ((((Δ.refl w).alloc hB _).alloc (by simp;omega) _))) (by simp;omega) H0.e).mono ?_;rintro e w1 ⟨rfl,ag⟩
     have aS:w.heap.size+2<=w1.heap.size:=by have:=ag.size;simpa using this
     have k1:Hid (Bk w1 (w.heap.size+1) 122 #[ξ κ 0,ζ ν 0 0,ζ ν 0 0,ζ ν 0 0,ζ ν 0 0]):=ψ ((Bk.cD (by simp) _ _).below ag (by simp))
     have kb:Bk w1 w.heap.size 26 #[ξ κ b.ab,ζ A1 n1 c1,ζ A2 n2 c2,ζ A3 n3 c3]:=((Bk.new w _ _).alloc _).below ag (by simp;omega)
     have b0:=kb.cell 0;have b1:=kb.cell 1;have b2:=kb.cell 2;have b3:=kb.cell 3;clear kb;have a8:Hid (Γ w.heap.size w w1):=ψ ((((ώ _ _).alloc (ϊ _) _).alloc (by simp) _).trans (ag.mono (by simp;omega)));clear ag))
 refine(HK.e _ (a8.e.alloc (by omega) _)).mono ?_
 rintro e w2 ⟨rfl,ak⟩;have k2:Hid (Bk w2 (w.heap.size+1) 122 #[ξ κ 0,ζ ν 0 0,ζ ν 0 0,ζ ν 0 0,ζ ν 0 0]):=ψ ((k1.e.alloc _).below ak (by simp;omega))
 have l2:Hid (Bk w2 w1.heap.size 117 #[ξ κ b.ab,ζ A1 n1 c1,ζ A2 n2 c2,ζ A3 n3 c3]):=ψ ((Bk.new w1 _ _).below ak (by simp))
 have bu:w1.heap.size+1<=w2.heap.size:=by have:=ak.size;simpa using this
 have fR:=ψ (db a8.e ak (by omega))
 have q0:=l2.e.cell 0;have q1:=l2.e.cell 1;have q2:=l2.e.cell 2;have q3:=l2.e.cell 3;clear ak b0 b1 b2 b3;go_wp2_with (first
  | (go_at_call 96;refine(all (B:=B) (by omega) (bV.e.still (Δ.aN fR.e hB)) (oc H0.e)).mono ?_;rintro e w3 ⟨v,rfl,kX,bM⟩
     have HR:=ψ kX;obtain⟨A9,n9,c9,rfl,dj,-⟩:=kX.row.Φ;have h9:((n9:Int)==0)=θ:=(by have:=HA.e;simp;omega)
     have k3:Bk w3 (w.heap.size+1) 122 #[ξ κ 0,ζ ν 0 0,ζ ν 0 0,ζ ν 0 0,ζ ν 0 0]:=k2.e.below bM (by omega)
     have l3:Bk w3 w1.heap.size 117 #[ξ κ b.ab,ζ A1 n1 c1,ζ A2 n2 c2,ζ A3 n3 c3]:=l2.e.below bM (by omega)
     have mC:=ψ (chain fR.e bM (by omega))
     have q0:=l3.cell 0;have q1:=l3.cell 1;have q2:=l3.cell 2;have q3:=l3.cell 3;have r0:=k3.cell 0;have r1:=k3.cell 1;have r2:=k3.cell 2;have r3:=k3.cell 3;have r4:=k3.cell 4;have z0:=k3.frozen 0;have z1:=k3.frozen 1;have z2:=k3.frozen 2;have z3:=k3.frozen 3;have z4:=k3.frozen 4;have pN:Hid (w1.heap.size<=w3.heap.size):=ψ (by have:=bM.size;omega)
     clear bM k3 l3 kX dj))
 refine ă (v:=μ #[η #[ξ κ 0,ζ ν 0 0,ζ ν 0 0,ζ ν 0 0,ζ ν 0 0],ξ κ 9]) (by simp[results,Tryz.results98,go_sem,r0,r1,r2,r3,r4]) rfl ⟨rfl,?_⟩
 repeat refine Ĺ ?_ (by simp) _
 exact mC.e
def apv(hB:B<=w.heap.size)(ai:bq w B b pv bv tv)(hK:zl b pv bv tv w K lb 0)(h0:dg b=0)(ha:(aH b).length≠0):
 ύ prog 98 #[η #[ξ κ b.ab,pv,bv,tv],fv K lb] w λe w'=>∃sv,e=Ω (μ #[η #[ξ κ b.ab,pv,bv,tv,sv],ξ κ 0])/\kR w' w.heap.size sv (aH b)/\Γ w.heap.size w w':=by
 obtain⟨eg,hK⟩:=hK;have HK:=ψ (hK h0);have bV:=ψ ai;have H0:=ψ h0;have HA:=ψ ha;obtain⟨A1,n1,c1,rfl,-⟩:=ai.pieces.Φ;obtain⟨A2,n2,c2,rfl,-⟩:=ai.aF.Φ;obtain⟨A3,n3,c3,rfl,-⟩:=ai.aM.Φ;clear ai hK h0 ha;go_enter func98,Tryz.ntmps98;go_wp2_with (first
  | (go_at_call 68;refine(yb (bV.e.still ((((Δ.refl w).alloc hB _).alloc (by simp;omega) _))) (by simp;omega) H0.e).mono ?_;rintro e w1 ⟨rfl,ag⟩
     have aS:w.heap.size+2<=w1.heap.size:=by have:=ag.size;simpa using this
     have k1:Hid (Bk w1 (w.heap.size+1) 122 #[ξ κ 0,ζ ν 0 0,ζ ν 0 0,ζ ν 0 0,ζ ν 0 0]):=ψ ((Bk.cD (by simp) _ _).below ag (by simp))
     have kb:Bk w1 w.heap.size 26 #[ξ κ b.ab,ζ A1 n1 c1,ζ A2 n2 c2,ζ A3 n3 c3]:=((Bk.new w _ _).alloc _).below ag (by simp;omega)
     have b0:=kb.cell 0;have b1:=kb.cell 1;have b2:=kb.cell 2;have b3:=kb.cell 3;clear kb;have a8:Hid (Γ w.heap.size w w1):=ψ ((((ώ _ _).alloc (ϊ _) _).alloc (by simp) _).trans (ag.mono (by simp;omega)));clear ag))
 refine(HK.e _ (a8.e.alloc (by omega) _)).mono ?_
 rintro e w2 ⟨rfl,ak⟩;have k2:Hid (Bk w2 (w.heap.size+1) 122 #[ξ κ 0,ζ ν 0 0,ζ ν 0 0,ζ ν 0 0,ζ ν 0 0]):=ψ ((k1.e.alloc _).below ak (by simp;omega))
 have l2:Hid (Bk w2 w1.heap.size 117 #[ξ κ b.ab,ζ A1 n1 c1,ζ A2 n2 c2,ζ A3 n3 c3]):=ψ ((Bk.new w1 _ _).below ak (by simp))
 have bu:w1.heap.size+1<=w2.heap.size:=by have:=ak.size;simpa using this
 have fR:=ψ (db a8.e ak (by omega))
 have q0:=l2.e.cell 0;have q1:=l2.e.cell 1;have q2:=l2.e.cell 2;have q3:=l2.e.cell 3;clear ak b0 b1 b2 b3;go_wp2_with (first
  | (go_at_call 96;refine(all (B:=B) (by omega) (bV.e.still (Δ.aN fR.e hB)) (oc H0.e)).mono ?_;rintro e w3 ⟨v,rfl,kX,bM⟩
     have HR:=ψ kX;obtain⟨A9,n9,c9,rfl,dj,-⟩:=kX.row.Φ;have h9:((n9:Int)==0)=χ:=(by have:=HA.e;simp;omega)
     have k3:Bk w3 (w.heap.size+1) 122 #[ξ κ 0,ζ ν 0 0,ζ ν 0 0,ζ ν 0 0,ζ ν 0 0]:=k2.e.below bM (by omega)
     have l3:Bk w3 w1.heap.size 117 #[ξ κ b.ab,ζ A1 n1 c1,ζ A2 n2 c2,ζ A3 n3 c3]:=l2.e.below bM (by omega)
     have mC:=ψ (chain fR.e bM (by omega))
     have q0:=l3.cell 0;have q1:=l3.cell 1;have q2:=l3.cell 2;have q3:=l3.cell 3;have r0:=k3.cell 0;have r1:=k3.cell 1;have r2:=k3.cell 2;have r3:=k3.cell 3;have r4:=k3.cell 4;have z0:=k3.frozen 0;have z1:=k3.frozen 1;have z2:=k3.frozen 2;have z3:=k3.frozen 3;have z4:=k3.frozen 4;have pN:Hid (w1.heap.size<=w3.heap.size):=ψ (by have:=bM.size;omega)
     clear bM k3 l3 kX dj))
 refine ă (v:=μ #[η #[ξ κ b.ab,ζ A1 n1 c1,ζ A2 n2 c2,ζ A3 n3 c3,ζ A9 n9 c9],ξ κ 0]) (by simp[results,Tryz.results98,go_sem,r0,r1,r2,r3,r4]) rfl ⟨_,rfl,?_,?_⟩
 ·refine kR.base (base:=w2.heap.size) ?_ (by omega)
  repeat refine kR.set ?_ (by simp;omega)
  exact HR.e
 ·repeat refine Ĺ ?_ (by simp) _
  exact mC.e
def vU{s:Int}(h:cG b s=0):dg b=0/\s=0/\(aH b).length≠0:=by
 unfold cG at h;split at h
 ·contradiction
 ·rename_i h1
  split at h
  ·contradiction
  ·rename_i h2
   split at h
   ·omega
   ·rename_i h3;exact⟨by simpa using h1,by simpa using h2,h3⟩
def apu{s:Int}(hB:B<=w.heap.size)(ai:bq w B b pv bv tv)(hK:zl b pv bv tv w K lb s)(h:cG b s≠0):
 ύ prog 98 #[η #[ξ κ b.ab,pv,bv,tv],fv K lb] w λe w'=>e=Ω (μ #[η #[ξ κ 0,ζ ν 0 0,ζ ν 0 0,ζ ν 0 0,ζ ν 0 0],ξ κ (cG b s)])/\Γ w.heap.size w w':=by
 by_cases h1:dg b=0
 ·by_cases h2:s=0
  ·subst h2
   have h3:(aH b).length=0:=by
    apply Ø;intro h3
    exact h (by unfold cG;rw[if_neg (by simpa using h1),if_neg (by simp),if_neg h3])
   have e:cG b 0=9:=by unfold cG;rw[if_neg (by simpa using h1),if_neg (by simp),if_pos h3]
   rw[e];exact apt hB ai hK h1 h3
  ·have e:cG b s=s:=by unfold cG;rw[if_neg (by simpa using h1),if_pos h2]
   rw[e];exact aps hB ai hK h1 h2
 ·have e:cG b s=dg b:=by unfold cG;rw[if_pos h1]
  rw[e];exact apr hB ai h1
def EI{s:Int}(hB:B<=w.heap.size)(ai:bq w B b pv bv tv)(hK:zl b pv bv tv w K lb s)(h:cG b s=0):
 ύ prog 98 #[η #[ξ κ b.ab,pv,bv,tv],fv K lb] w λe w'=>∃sv,e=Ω (μ #[η #[ξ κ b.ab,pv,bv,tv,sv],ξ κ 0])/\kR w' w.heap.size sv (aH b)/\Γ w.heap.size w w':=by
 obtain⟨h1,rfl,h3⟩:=vU h;exact apv hB ai hK h1 h3
def NV{b c:Int}(h:a=c)(k:b=d):Ending.returned (μ #[ξ κ a,ξ κ b])=Ω (μ #[ξ κ c,ξ κ d]):=by rw[h,k]
def LP(b:an):Int:=if dg b≠0 then 0 else(aH b).length
def aff(hB:B<=w.heap.size)(ai:bq w B b pv bv tv):
 ύ prog 22 #[η #[ξ κ b.ab,pv,bv,tv]] w λe w'=>e=Ω (μ #[ξ κ (LP b),ξ κ (dg b)])/\Γ w.heap.size w w':=by
 have bV:=ψ ai;obtain⟨A1,n1,c1,rfl,-⟩:=ai.pieces.Φ;obtain⟨A2,n2,c2,rfl,-⟩:=ai.aF.Φ;obtain⟨A3,n3,c3,rfl,-⟩:=ai.aM.Φ;clear ai;by_cases h0:dg b=0
 ·have H0:=ψ h0
  clear h0;go_enter func22,Tryz.ntmps22;go_wp2_with (first
   | (go_at_call 68;refine(yb (bV.e.still ((Δ.refl w).alloc hB _)) (by simp;omega) H0.e).mono ?_;rintro e w1 ⟨rfl,ag⟩
      have kb:Bk w1 w.heap.size 26 #[ξ κ b.ab,ζ A1 n1 c1,ζ A2 n2 c2,ζ A3 n3 c3]:=(Bk.new w _ _).below ag (by simp)
      have b0:=kb.cell 0;have b1:=kb.cell 1;have b2:=kb.cell 2;have b3:=kb.cell 3;have a8:=ψ (db (ώ _ _) ag (ϊ _));clear kb ag)
   | (go_at_call 96;refine(all (B:=B) (by have:=a8.e.size;omega) (bV.e.still (Δ.aN a8.e hB)) (oc H0.e)).mono ?_;rintro e w2 ⟨v,rfl,kX,ak⟩
      obtain⟨A9,n9,c9,rfl,dj,-⟩:=kX.row.Φ;have HL:=ψ dj;have fR:=ψ (chain a8.e ak a8.e.size);clear ak kX dj))
  go_ret2
  exact⟨NV (by unfold LP;rw[if_neg (by simpa using H0.e),HL.e]) (by rw[H0.e]),fR.e⟩
 ·go_enter func22,Tryz.ntmps22
  go_wp2_with (first
   | (go_at_call 68;refine(Qw (bV.e.still ((Δ.refl w).alloc hB _)) (by simp;omega)).mono ?_;rintro e w1 ⟨rfl,ag⟩;have a8:=ψ (db (ώ _ _) ag (ϊ _));clear ag))
  go_ret2
  exact⟨NV (by unfold LP;rw[if_pos h0]) rfl,a8.e⟩
def tP(n lo hi:Int)(w:Ψ):ύ prog 62 #[ξ κ n,ξ κ lo,ξ κ hi] w λe w'=>e=Ω (.bool (cf n lo hi))/\w=w':=by
 go_enter func62,Tryz.ntmps62;go_wp2;all_goals go_ret
 all_goals (refine⟨cj ?_,rfl⟩;unfold cf;first| (simp;done) | (simp;omega))
def pU(a b lo hi:Int):Bool:=decide (lo<=a) && (decide (a<=b) && decide (b<=hi))
def within{b lo hi:Int}(w:Ψ):ύ prog 49 #[η #[ξ κ a,ξ κ b],ξ κ lo,ξ κ hi] w λe w'=>e=Ω (.bool (pU a b lo hi))/\Γ w.heap.size w w':=by
 go_enter func49,Tryz.ntmps49;go_wp2;all_goals go_ret
 all_goals (refine⟨cj ?_,(ώ _ _).alloc (ϊ _) _⟩;unfold pU;first| (simp;done) | (simp;omega) | (simp[*];done) | (simp[*];omega))
def Uw(b:Bool)(s:Int)(w:Ψ):ύ prog 104 #[.bool b,ξ κ s] w λe w'=>e=Ω (ξ κ (if b then 0 else s))/\w=w':=by
 cases b;all_goals
  go_enter func104,Tryz.ntmps104;go_wp2;go_ret;exact⟨bj rfl,rfl⟩
def Oq(n m:Int):Int:=if n=0 then 2 else if n=m then 1 else 0
def Oa{α:Type}{f:α->Int}:∀(l fj:List α),scan (λ_ x=>f x) fj l=0->∀x∈l,f x=0
 | [],_,_,x,h=>by cases h
 |a::l,fj,h,x,hx=>by
  unfold scan at h;by_cases h0:f a≠0
  ·rw[if_pos h0] at h;exact absurd h h0
  ·rw[if_neg h0] at h
   rcases List.mem_cons.1 hx with rfl|hx
   ·simpa using h0
   ·exact Oa l _ h x hx
def agL{l:List Cut}(h:px b l=0):l.length=b.pieces.length:=by
 unfold px at h;split at h
 ·contradiction
 ·rename_i h1;simpa using h1
def L6(hv:Valid b){l:List Cut}(h:px b l=0):O6 b l:=by
 have hlen:=agL h;refine⟨hlen,hv.np.2,λi c hc=>?_,⟨hv.ab.1,by have:=hv.ab.2;omega⟩⟩
 unfold px at h;rw[if_neg (by simpa using hlen)] at h
 have h1:=Oa (f:=uH b.aF.length) l [] h c (ϡ hc);unfold uH at h1;split at h1
 ·rename_i h2
  split at h1
  ·rename_i h3
   have a:=tQ h2;have d:=tQ h3;refine⟨⟨c.bm.toNat,by omega,by omega⟩,d⟩
  ·contradiction
 ·contradiction
def WI{b:an}(hv:Valid b):∀(f i:Nat) (n:al),i+f=b.pieces.length->n.Ok->∀L∈hJ b f i n,L.Ok
 |0,i,n,hi,hn,L,hL=>by
  unfold hJ at hL;split at hL
  ·simp at hL;subst hL;exact hn
  ·simp at hL
 |f+1,i,n,hi,hn,L,hL=>by
  unfold hJ at hL;cases h:b.pieces[i]? with
  |none=>rw[h] at hL;simp at hL
  |some p=>
   rw[h] at hL;simp only[Ah0] at hL;obtain⟨k,hk,hL⟩:=hL;have hp:=hv.piece p (ϡ h);have:=hv.np.2;simp only[rF,Ĭ,ť] at hk;obtain⟨j,hj,rfl⟩:=hk;have:=hp.lo;have:=hp.hi;have:=hp.le
   exact WI hv f (i+1) _ (by omega) (hn.set (by omega) (by omega) (by omega)) L hL
def Bb(hv:Valid b):∀L∈aH b,L.Ok:=WI hv _ _ _ (by omega) (λq=>by unfold al.at;simp)
def aeO{l:List Cut}(hB:B<=w.heap.size)(ai:bq w B b pv bv tv)(hl:Row w B 2 Cut.R lv l)(hg:Bk w g 27 #[lv]):zl b pv bv tv w 108 #[π (φ ⟨g,0,ν⟩)] (px b l):=by
 refine⟨call108,λ_ W hW=>?_⟩
 have ry:=hg.lt;have st:Δ B w (W.alloc (Ξ #[ξ κ b.ab,pv,bv,tv] 117)):=(Δ.aN hW hB).alloc (by have:=hW.size;omega) _
 have g0: W.cell? ⟨g,0,ν⟩=φ lv:=(hg.below hW ry).cell 0;have aE:=ψ (QC (ai.still st) (hl.still st λ_ _ h=>h) (by have:=hW.size;simp;omega))
 have hz:g<W.heap.size:=by have:=hW.size;omega
 have hz':g<=W.heap.size:=by omega
 obtain⟨A1,n1,c1,rfl,-⟩:=ai.pieces.Φ;obtain⟨A2,n2,c2,rfl,-⟩:=ai.aF.Φ;obtain⟨A3,n3,c3,rfl,-⟩:=ai.aM.Φ;obtain⟨A,n,c,rfl,-⟩:=hl.Φ;clear ai hl hW hg st;refine app1 ?_
 go_enter func108,Tryz.ntmps108;go_wp2_with (first
  | (go_at_call 109;refine aE.e.mono ?_;rintro e w1 ⟨rfl,ag⟩))
 go_ret;exact⟨bj rfl,db (ώ _ _) ag (ϊ _)⟩
def qe(p:al->Bool)(l:List al):Int:=(l.filter p).length
def agD(p:al->Bool)(l:List al):0<=qe p l/\qe p l<=l.length:=by
 unfold qe;exact⟨by omega,by have:=Agd p l;omega⟩
def Xm(p:al->Bool)(l:List al)(x:al):qe p (l++ [x])=qe p l+if p x then 1 else 0:=by
 unfold qe;rw[List.filter_append];cases h:p x<;>simp[List.filter_cons,h]
def Xu{l:List Cut}(hB:B<=w.heap.size)(ai:bq w B b pv bv tv)(hl:Row w B 2 Cut.R lv l)(h:cG b (px b l)=0):
 ύ prog 28 #[η #[ξ κ b.ab,pv,bv,tv],lv] w λe w'=>e=Ω (μ #[ξ κ (Oq (qe (λL=>ib b L l) (aH b)) (aH b).length),ξ κ 0])/\Γ w.heap.size w w':=by
 have st:Δ B w ((w.alloc (Ξ #[ξ κ b.ab,pv,bv,tv] 26)).alloc (Ξ #[lv] 27)):=((Δ.refl w).alloc hB _).alloc (by simp;omega) _
 have aE:=ψ (EI (w:=((w.alloc (Ξ #[ξ κ b.ab,pv,bv,tv] 26)).alloc (Ξ #[lv] 27))) (B:=B) (by simp;omega) (ai.still st) (aeO (by simp;omega) (ai.still st) (hl.still st λ_ _ h=>h) (Bk.cD (g:=w.heap.size+1) (by simp) _ _)) h)
 have hz:=vU h;have hv:=oc hz.1;have OK:=ψ (Ϗ (L6 hv hz.2.1) (Bb hv));have bV:=ψ ai;have xQ:=ψ hl;have HV:=ψ hv;obtain⟨A1,n1,c1,rfl,-⟩:=ai.pieces.Φ;obtain⟨A2,n2,c2,rfl,-⟩:=ai.aF.Φ;obtain⟨A3,n3,c3,rfl,-⟩:=ai.aM.Φ;obtain⟨A,n,c,rfl,-⟩:=hl.Φ;clear ai hl st hz hv h;go_enter func28,Tryz.ntmps28;go_wp2_with (first
  | (go_at_call 98;refine aE.e.mono ?_;rintro e w1 ⟨sv,rfl,aK,ag⟩
     obtain⟨A9,n9,c9,rfl,dj,tK,j8,o3⟩:=aK.row.Φ;have rO:=ψ o3;have wG:=ψ dj;have HO:=ψ aK;have kb:Hid (Bk w1 w.heap.size 26 #[ξ κ b.ab,ζ A1 n1 c1,ζ A2 n2 c2,ζ A3 n3 c3]):=ψ (((Bk.new w _ _).alloc _).below ag (by simp;omega))
     have kl:Hid (Bk w1 (w.heap.size+1) 27 #[ζ A n c]):=ψ ((Bk.cD (by simp) _ _).below ag (by simp))
     have aS:w.heap.size+2<=w1.heap.size:=by have:=ag.size;simpa using this
     have a8:Hid (Γ w.heap.size w w1):=ψ ((((ώ _ _).alloc (ϊ _) _).alloc (by simp) _).trans (ag.mono (by simp;omega)));clear ag aK dj o3))
 unfold ϕ at j8;go_loopw [8,23] (λm k wr=>∃i:Nat,i<=n9/\k=ξ κ i/\m=ξ κ (qe (λL=>ib b L l) ((aH b).take i))/\Hid (Γ (w1.heap.size+1) (w1.alloc (Ξ #[ξ κ b.ab,ζ A1 n1 c1,ζ A2 n2 c2,ζ A3 n3 c3,ζ A9 n9 c9] 122)) wr)) (λ_ k _=>n9 - (ϙ k).toNat)
 case atStart=>exact⟨0,Ϡ _,rfl,by simp[qe],ψ (ώ _ _)⟩
 case round=>
  obtain⟨i,hi,rfl,rfl,hb⟩:=hrel;have qT:w1.heap.size+1<=wr.heap.size:=by have:=hb.e.size;simpa using this
  have AS:Hid (Γ w.heap.size w wr):=ψ (a8.e.trans (((ώ _ _).alloc (by omega) _).trans (hb.e.mono (by omega))))
  have uv:Hid (Γ w1.heap.size w1 wr):=ψ (((ώ _ _).alloc (by omega) _).trans (hb.e.mono (by omega)))
  have kf:Bk wr w1.heap.size 122 #[ξ κ b.ab,ζ A1 n1 c1,ζ A2 n2 c2,ζ A3 n3 c3,ζ A9 n9 c9]:=(Bk.new w1 _ _).below hb.e (by omega)
  have Ni:Bk wr (w.heap.size+1) 27 #[ζ A n c]:=kl.e.below uv.e (by omega)
  have f0:=kf.cell 0;have f1:=kf.cell 1;have f2:=kf.cell 2;have f3:=kf.cell 3;have f4:=kf.cell 4;have l0:=Ni.cell 0;have Pt:=wG.e;have dv:=agD (λL=>ib b L l) ((aH b).take i)
  have mZ:((aH b).take i).length<=i:=List.length_take_le _ _;have ajP:0<=qe (λL=>ib b L l) ((aH b).take i):=dv.1
  have ajQ:qe (λL=>ib b L l) ((aH b).take i)<=i:=by have:=dv.2;omega
  clear kf Ni Pt dv mZ;by_cases aj:i<n9
  ·obtain⟨ad,x,cs,rn,aD,hx,rfl,-,aq⟩:=rO.e i aj
   subst rn;have st:Δ w1.heap.size w1 wr:=Δ.aN uv.e (ϊ _);have g0:=cA aq st aD rfl;have g1:=bH aq st aD 0 rfl;have g2:=bH aq st aD 1 rfl;have Bx:(ad.add (i * 3)).block<wr.heap.size:=by rw[cq];omega
   have HX:=ψ hx;have AB:Δ B w (wr.alloc (Ξ #[ξ κ x.a,ξ κ x.b,ξ κ x.c] 128)):=(Δ.aN AS.e hB).alloc (by omega) _
   have AQ:=ψ (QF (w:=wr.alloc (Ξ #[ξ κ x.a,ξ κ x.b,ξ κ x.c] 128)) (B:=B) (L:=x) (bV.e.still AB) (xQ.e.still AB λ_ _ h=>h) (by simp;omega) OK.e.1.len OK.e.1.three OK.e.1.qQ (OK.e.2 x (ϡ hx)) OK.e.1.ab)
   have a1:w.heap.size+1<wr.heap.size:=by omega
   have a2:w.heap.size+1<=wr.heap.size:=by omega
   have a3:w1.heap.size<wr.heap.size:=by omega
   have a4:w1.heap.size<=wr.heap.size:=by omega
   clear hx aq st AB;cases hd:ib b x l with
   |false=>
    have NX:Hid (qe (λL=>ib b L l) ((aH b).take i)=qe (λL=>ib b L l) ((aH b).take (i+1))):=ψ (by rw[su HX.e,Xm,hd];simp)
    go_wp2_with (first
     | (go_at_call 110;refine AQ.e.mono ?_;rintro e w2 ⟨rfl,ak⟩;have fR:=ψ (db hb.e ak (by omega));clear ak))
    go_roundw;case rel=>exact⟨i+1,by omega,by go_num,by rw[NX.e],fR⟩
    case measure=>simp[ϙ];omega
   |true=>
    have NX:Hid (qe (λL=>ib b L l) ((aH b).take i)+1=qe (λL=>ib b L l) ((aH b).take (i+1))):=ψ (by rw[su HX.e,Xm,hd];simp)
    go_wp2_with (first
     | (go_at_call 110;refine AQ.e.mono ?_;rintro e w2 ⟨rfl,ak⟩;have fR:=ψ (db hb.e ak (by omega));clear ak))
    go_roundw;case rel=>exact⟨i+1,by omega,by go_num,by rw[<-NX.e],fR⟩
    case measure=>simp[ϙ];omega
  ·obtain rfl:i=n9:=by omega
   obtain⟨q,hq⟩:∃q,q=qe (λL=>ib b L l) ((aH b).take i):=⟨_,rfl⟩
   have HQ:Hid (q=qe (λL=>ib b L l) (aH b)):=ψ (by rw[hq,ę (ÿ wG.e)])
   rw[<-hq] at ajP ajQ |-
   clear hq;go_wp2;all_goals go_ret2
   all_goals (refine⟨NV ?_ rfl,AS.e⟩;simp only[beq_iff_eq,beq_eq_false_iff_ne,ne_eq] at *;rw[<-HQ.e,wG.e];unfold Oq;first| (rw[if_pos (by omega)];done) | (rw[if_neg (by omega),if_pos (by omega)];done) | (rw[if_neg (by omega),if_neg (by omega)];done))
def GN(b:an)(k:Int):Int:=if cf k 0 (b.pieces.length - 1) then 0 else 6
def aeP{k:Int}(hB:B<=w.heap.size)(ai:bq w B b pv bv tv)(hg:Bk w g 3 #[ξ κ k]):zl b pv bv tv w 99 #[π (φ ⟨g,0,ν⟩)] (GN b k):=by
 refine⟨call99,λ_ W hW=>?_⟩
 have ry:=hg.lt;have g0: W.cell? ⟨g,0,ν⟩=φ (ξ κ k):=(hg.below hW ry).cell 0;have hz:g<W.heap.size:=by have:=hW.size;omega
 have hz':g<=W.heap.size:=by omega
 obtain⟨A1,n1,c1,rfl,e1,h1,jx,-⟩:=ai.pieces.Φ;obtain⟨A2,n2,c2,rfl,-⟩:=ai.aF.Φ;obtain⟨A3,n3,c3,rfl,-⟩:=ai.aM.Φ;unfold ϕ at jx;have call:∀w:Ψ,ύ prog 100 #[ξ κ k,ξ κ n1] w λe w'=>e=Ω (ξ κ (GN b k))/\w=w':=λw=>by
  have:=there k n1 (by omega) w (by omega)
  unfold GN;rw[e1];exact this
 have aE:=ψ call;clear ai hW hg e1 call;refine app1 ?_
 go_enter func99,Tryz.ntmps99;go_wp2_with (first
  | (go_at_call 100;refine(aE.e _).mono ?_;rintro e w1 ⟨rfl,rfl⟩))
 go_ret;exact⟨bj rfl,(ώ _ _).alloc (ϊ _) _⟩
def LJ(ai:bq w B b pv bv tv):zl b pv bv tv w 107 #[] 0:=by
 refine⟨call107,λ_ W hW=>?_⟩
 obtain⟨A1,n1,c1,rfl,e1,h1,jx,-⟩:=ai.pieces.Φ;obtain⟨A2,n2,c2,rfl,-⟩:=ai.aF.Φ;obtain⟨A3,n3,c3,rfl,-⟩:=ai.aM.Φ;exact nothing W
def Nl(b:an)(k:Nat):List Int:=Lib.compact (mV ((aH b).map (·.at k)))
def aqn{c:Int}(h:a=c):Ending.returned (μ #[v,ξ κ a])=Ω (μ #[v,ξ κ c]):=by rw[h]
def am2(hB:B<=w.heap.size)(ai:bq w B b pv bv tv)(h:cG b (GN b k)=0):
 ύ prog 24 #[η #[ξ κ b.ab,pv,bv,tv],ξ κ k] w λe w'=>∃v,e=Ω (μ #[v,ξ κ 0])/\w'.ownsRow w.heap.size 3 1 v (Nl b k).length ((Nl b k).map (ξ κ))/\Γ w.heap.size w w':=by
 have st:Δ B w ((w.alloc (Ξ #[ξ κ b.ab,pv,bv,tv] 26)).alloc (Ξ #[ξ κ k] 3)):=((Δ.refl w).alloc hB _).alloc (by simp;omega) _
 have aE:=ψ (EI (w:=((w.alloc (Ξ #[ξ κ b.ab,pv,bv,tv] 26)).alloc (Ξ #[ξ κ k] 3))) (B:=B) (by simp;omega) (ai.still st) (aeP (by simp;omega) (ai.still st) (Bk.cD (g:=w.heap.size+1) (by simp) _ _)) h)
 have hz:=vU h;have hv:=oc hz.1;have pA:k<3:=by
  have h1:=hz.2.1;unfold GN at h1;split at h1
  ·rename_i h2;have:=tQ h2;have:=hv.np;omega
  ·contradiction
 have aky:=IB hv;obtain⟨i0,di,dp,aS,bu⟩:=Ğ S3;have cP:=ψ (Ϗ di (Ϗ dp (Ϗ aS bu)));obtain⟨A1,n1,c1,rfl,-⟩:=ai.pieces.Φ;obtain⟨A2,n2,c2,rfl,-⟩:=ai.aF.Φ;obtain⟨A3,n3,c3,rfl,-⟩:=ai.aM.Φ;clear ai st hz hv h di dp aS bu;go_enter func24,Tryz.ntmps24;go_wp2_with (first
  | (go_at_call 98;refine aE.e.mono ?_;rintro e w1 ⟨sv,rfl,aK,ag⟩
     obtain⟨A9,n9,c9,rfl,dj,tK,j8,o3⟩:=aK.row.Φ;have rO:=ψ o3;have wG:=ψ dj;have kk:Hid (Bk w1 (w.heap.size+1) 3 #[ξ κ k]):=ψ ((Bk.cD (by simp) _ _).below ag (by simp))
     have aS:w.heap.size+2<=w1.heap.size:=by have:=ag.size;simpa using this
     have akK:n9<=27:=by omega
     have a8:Hid (Γ w.heap.size w w1):=ψ ((((ώ _ _).alloc (ϊ _) _).alloc (by simp) _).trans (ag.mono (by simp;omega)));clear ag aK dj o3))
 unfold ϕ at j8;go_loopw [8,23] (λo u wr=>∃i:Nat,i<=n9/\u=ξ κ i/\Hid (wr.ownsRow (w1.heap.size+1) 3 1 o i (((aH b).take i).map λL=>ξ κ (L.at k)))/\Hid (Γ (w1.heap.size+1) (w1.alloc (Ξ #[ξ κ b.ab,ζ A1 n1 c1,ζ A2 n2 c2,ζ A3 n3 c3,ζ A9 n9 c9] 122)) wr)) (λ_ u _=>n9 - (ϙ u).toNat)
 case atStart=>exact⟨0,Ϡ _,rfl,ψ ⟨by simp,.inl ⟨rfl,rfl⟩⟩,ψ (ώ _ _)⟩
 case round=>
  obtain⟨i,hi,rfl,HO,hb⟩:=hrel;have qT:w1.heap.size+1<=wr.heap.size:=by have:=hb.e.size;simpa using this
  have uv:Hid (Γ w1.heap.size w1 wr):=ψ (((ώ _ _).alloc (by omega) _).trans (hb.e.mono (by omega)))
  have kk':Bk wr (w.heap.size+1) 3 #[ξ κ k]:=kk.e.below uv.e (by omega)
  have k0:=kk'.cell 0;clear kk';by_cases aj:i<n9
  ·obtain⟨ad,x,cs,rn,aD,hx,rfl,-,aq⟩:=rO.e i aj
   subst rn;have st:Δ w1.heap.size w1 wr:=Δ.aN uv.e (ϊ _);have g0:=cA aq st aD rfl;have g1:=bH aq st aD 0 rfl;have g2:=bH aq st aD 1 rfl;have Bx:(ad.add (i * 3)).block<wr.heap.size:=by rw[cq];omega
   have HX:=ψ hx;have a1:w.heap.size+1<wr.heap.size:=by omega
   have a2:w.heap.size+1<=wr.heap.size:=by omega
   have akl:(k:Int)<3:=by omega
   have gk:(wr.alloc (Ξ #[ξ κ x.a,ξ κ x.b,ξ κ x.c] 128)).cell? ⟨wr.heap.size,k,ν⟩=φ (ξ κ (x.at k)):=(Bk.new wr _ _).cell k|>.trans (al.Bo (n:=x) pA)
   clear hx aq st;go_wp2_with (first
    | (at_builtin
       refine Ī _ rfl (.tmp 27) (.tmp 31) 33 rfl (w1.heap.size+1) 3 i0 (ξ κ 0) 1 8 (U Tryz.underlying33) cP.e.1 cP.e.2.1 cP.e.2.2.1 cP.e.2.2.2 rfl (by decide) _ i _ rfl ((HO.e.alloc _).alloc _) ⟨wr.heap.size+1,0,ν⟩ 1 1 [ξ κ (x.at k)] rfl rfl ?c1 ?c2 ?c3 ?c4 ?c5 ?_
       case c1=>(intro j u hu;match j,hu with|0,hu=>(simp at hu;subst hu;simp[go_sem,Ā]))
       case c2=>simp[Value.oneCell']
       case c3=>(simp only[ϕ];omega)
       case c4=>omega
       case c5=>(simp;omega)
       intro v' w2 cO fO _;have oo:=ψ cO;have om:=ψ fO;clear cO fO))
   go_roundw;case rel=>exact⟨i+1,by omega,by go_num,ψ (by rw[su HX.e,Ŧ];exact oo.e),
    ψ ((hb.e.trans (((ώ _ _).alloc qT _).alloc (by simp;omega) _)).grown om.e (by simp;omega) (λk hk=>kY HO.e k hk))⟩
   case measure=>simp[ϙ];omega
  ·obtain rfl:i=n9:=by omega
   have BT:(((aH b).take i).map λL=>ξ κ (L.at k))=((aH b).map (·.at k)).map (ξ κ):=by
    rw[ę (ÿ wG.e),List.map_map];rfl
   have xR:Hid (wr.ownsRow (w1.heap.size+1) 3 1 u8 i (((aH b).map (·.at k)).map (ξ κ))):=ψ (BT▸HO.e)
   have AS:Hid (Γ w.heap.size w wr):=ψ (a8.e.trans (uv.e.mono (by omega)))
   clear BT HO;go_wp2_with (first
    | (go_at_call 101;refine(Ux xR.e (by omega) qT).mono ?_;rintro e w2 ⟨rfl,cO,ak⟩;have AW:=ψ cO;have mC:=ψ ak;clear cO ak)
    | (go_at_call 102;refine(Xi AW.e (by omega)).mono ?_;rintro e w3 ⟨u,rfl,se,bM⟩;have C9:=ψ se;have pX:=ψ bM;clear se bM))
   go_ret2
   exact⟨_,aqn rfl,C9.e.base (by omega),AS.e.trans ((mC.e.trans pX.e).mono (by omega))⟩
def al.sum(L:al):Int:=L.a+L.b+L.c
def GW(s:Span)(L:al):Span:=⟨min s.lo L.sum,max s.hi L.sum⟩
def vf:List al->Span
 | []=>⟨0,0⟩
 |x::l=>l.foldl GW ⟨x.sum,x.sum⟩
def asG{l:List al}(h:l≠ [])(x:al):vf (l++ [x])=GW (vf l) x:=by
 cases l with
 |nil=>exact absurd rfl h
 |cons a l=>simp[vf]
def asF(x:al):vf [x]=GW ⟨x.sum,x.sum⟩ x:=by simp[vf,GW]
def asH(hB:B<=w.heap.size)(ai:bq w B b pv bv tv)(h:cG b 0=0):
 ύ prog 26 #[η #[ξ κ b.ab,pv,bv,tv]] w λe w'=>e=Ω (μ #[η #[ξ κ (vf (aH b)).lo,ξ κ (vf (aH b)).hi],ξ κ 0])/\Γ w.heap.size w w':=by
 have st:Δ B w ((w.alloc (Ξ #[ξ κ b.ab,pv,bv,tv] 26)).alloc (Ξ #[ξ κ 0,ξ κ 0] 37)):=((Δ.refl w).alloc hB _).alloc (by simp;omega) _
 have aE:=ψ (EI (w:=((w.alloc (Ξ #[ξ κ b.ab,pv,bv,tv] 26)).alloc (Ξ #[ξ κ 0,ξ κ 0] 37))) (B:=B) (by simp;omega) (ai.still st) (LJ (ai.still st)) h)
 have hz:=vU h;have hv:=oc hz.1;have OK:=ψ (Bb hv);have HNE:=ψ hz.2.2;obtain⟨A1,n1,c1,rfl,-⟩:=ai.pieces.Φ;obtain⟨A2,n2,c2,rfl,-⟩:=ai.aF.Φ;obtain⟨A3,n3,c3,rfl,-⟩:=ai.aM.Φ;clear ai st hz hv h;go_enter func26,Tryz.ntmps26;go_wp2_with (first
  | (go_at_call 98;refine aE.e.mono ?_;rintro e w1 ⟨sv,rfl,aK,ag⟩
     obtain⟨A9,n9,c9,rfl,dj,tK,j8,o3⟩:=aK.row.Φ;have rO:=ψ o3;have wG:=ψ dj;have k2:Hid (Bk w1 (w.heap.size+1) 37 #[ξ κ 0,ξ κ 0]):=ψ ((Bk.cD (by simp) _ _).below ag (by simp))
     have aS:w.heap.size+2<=w1.heap.size:=by have:=ag.size;simpa using this
     have a8:Hid (Γ w.heap.size w w1):=ψ ((((ώ _ _).alloc (ϊ _) _).alloc (by simp) _).trans (ag.mono (by simp;omega)));clear ag aK dj o3))
 unfold ϕ at j8;go_loopw [24] (λu wr=>∃i:Nat,i<=n9/\u=ξ κ i/\Hid (Bk wr (w1.heap.size+1) 37 #[ξ κ (vf ((aH b).take i)).lo,ξ κ (vf ((aH b).take i)).hi])/\Hid (Γ w1.heap.size w1 wr)) (λu _=>n9 - (ϙ u).toNat)
 case atStart=>exact⟨0,Ϡ _,rfl,ψ (by simpa [vf] using Bk.cD (by simp) _ _),ψ (((ώ _ _).alloc (ϊ _) _).alloc (by simp) _)⟩
 case round=>
  obtain⟨i,hi,rfl,hk,hb⟩:=hrel;have qT:w1.heap.size+1<wr.heap.size:=hk.e.lt;have AS:Hid (Γ w.heap.size w wr):=ψ (a8.e.trans (hb.e.mono (by omega)))
  obtain⟨T,hT⟩:∃T,T=vf ((aH b).take i):=⟨_,rfl⟩
  rw[<-hT] at hk;have HT:=ψ hT;clear hT;have t0: wr.cell? ⟨w1.heap.size+1,0,ν⟩=φ (ξ κ T.lo):=hk.e.cell 0;have t1: wr.cell? ⟨w1.heap.size+1,1,ν⟩=φ (ξ κ T.hi):=hk.e.cell 1;have z0:=hk.e.frozen 0;have z1:=hk.e.frozen 1;by_cases aj:i<n9
  ·obtain⟨ad,x,cs,rn,aD,hx,rfl,-,aq⟩:=rO.e i aj
   subst rn;have st:Δ w1.heap.size w1 wr:=Δ.aN hb.e (ϊ _);have g0:=cA aq st aD rfl;have g1:=bH aq st aD 0 rfl;have g2:=bH aq st aD 1 rfl;have Bx:(ad.add (i * 3)).block<wr.heap.size:=by rw[cq];omega
   have HX:=ψ hx;have NH:=OK.e x (ϡ hx);have oka:0<=x.a/\x.a<=1000:=NH 0;have okb:0<=x.b/\x.b<=1000:=NH 1;have NG:0<=x.c/\x.c<=1000:=NH 2;have i0:∀w:Ψ,(ė 128 (η #[ξ κ x.a,ξ κ x.b,ξ κ x.c]) (ξ κ 0)).run prog w=.ok (ξ κ x.a) w:=λw=>by simp[ė,go_sem]
   have i1:∀w:Ψ,(ė 128 (η #[ξ κ x.a,ξ κ x.b,ξ κ x.c]) (ξ κ 1)).run prog w=.ok (ξ κ x.b) w:=λw=>by simp[ė,go_sem]
   have i2:∀w:Ψ,(ė 128 (η #[ξ κ x.a,ξ κ x.b,ξ κ x.c]) (ξ κ 2)).run prog w=.ok (ξ κ x.c) w:=λw=>by simp[ė,go_sem]
   clear hx aq st NH;go_wp2;go_loopw [9,30] (λs z W=>∃j:Nat,j<=3/\z=ξ κ j/\s=ξ κ (if j=0 then 0 else if j=1 then x.a else if j=2 then x.a+x.b else x.a+x.b+x.c)/\W=wr.alloc (Ξ #[ξ κ x.a,ξ κ x.b,ξ κ x.c] 128)) (λ_ z _=>3 - (ϙ z).toNat)
   case atStart=>exact⟨0,by omega,rfl,rfl,rfl⟩
   case round=>
    obtain⟨j,hj,rfl,rfl,rfl⟩:=hrel;match j,hj with
    |0,_=>
     go_wp2;go_roundw;case rel=>exact⟨1,by omega,rfl,by simp,trivial⟩
     case measure=>simp[ϙ]
    |1,_=>
     go_wp2;go_roundw;case rel=>exact⟨2,by omega,rfl,by simp,trivial⟩
     case measure=>simp[ϙ]
    |2,_=>
     go_wp2;go_roundw;case rel=>exact⟨3,by omega,rfl,by simp,trivial⟩
     case measure=>simp[ϙ]
    |3,_=>
     obtain⟨S,hS⟩:∃S,S=x.a+x.b+x.c:=⟨_,rfl⟩
     have HS:Hid (S=x.sum):=ψ hS;have e3:(if 3=0 then 0 else if 3=1 then x.a else if 3=2 then x.a+x.b else x.a+x.b+x.c)=S:=by simp[hS]
     rw[e3];clear hS e3;have q1:w1.heap.size+1<wr.heap.size+1:=by omega
     have dq:=hk.e.alloc (Ξ #[ξ κ x.a,ξ κ x.b,ξ κ x.c] 128);by_cases h0:i=0
     ·subst h0
      go_wp2;go_roundw;case rel=>exact⟨1,by omega,by simp,ψ (by
           have e:(aH b).take 1=[x]:=by have:=su HX.e;simpa using this
           rw[e,asF];have:=(((hk.e.set 0 (ξ κ S)).set 1 (ξ κ S)).set 0 (ξ κ S)).set 1 (ξ κ S);simpa [GW,HS.e] using this.alloc (Ξ #[ξ κ x.a,ξ κ x.b,ξ κ x.c] 128)),
          ψ (ţ (by(repeat refine Ĺ ?_ (by simp) _);exact hb.e) (by simp[î];omega) _)⟩
      case measure=>simp[ϙ];omega
     ·have au:((i:Int)==0)=χ:=by simp;omega
      go_wp2;go_roundw;case rel=>exact⟨i+1,by omega,by go_num,ψ (by
           have hn:(aH b).take i≠ []:=by
            intro e;have h1:((aH b).take i).length=i:=by rw[List.length_take,wG.e];omega
            rw[e] at h1;simp at h1;omega
           rw[su HX.e,asG hn,<-HT.e];have:=(hk.e.set 0 (ξ κ (min T.lo S))).set 1 (ξ κ (max T.hi S));simpa [GW,HS.e] using this.alloc (Ξ #[ξ κ x.a,ξ κ x.b,ξ κ x.c] 128)),
          ψ (ţ (by(repeat refine Ĺ ?_ (by simp) _);exact hb.e) (by simp[î];omega) _)⟩
      case measure=>simp[ϙ];omega
  ·obtain rfl:i=n9:=by omega
   have HT2:Hid (T=vf (aH b)):=ψ (by rw[HT.e,ę (ÿ wG.e)])
   have kr:=k2.e.below hb.e (by omega)
   have r0: wr.cell? ⟨w.heap.size+1,0,ν⟩=φ (ξ κ 0):=kr.cell 0;have r1: wr.cell? ⟨w.heap.size+1,1,ν⟩=φ (ξ κ 0):=kr.cell 1;have y0:=kr.frozen 0;have y1:=kr.frozen 1;have e1:w.heap.size+1<w1.heap.size+1:=by omega
   clear kr;go_wp2;refine ă (v:=μ #[η #[ξ κ T.lo,ξ κ T.hi],ξ κ 0]) (by simp[results,Tryz.results26,go_sem,r0,r1]) rfl ⟨by rw[HT2.e],?_⟩
   repeat refine Ĺ ?_ (by simp) _
   exact AS.e
def amx:prog.keyTypeAt 10 225=θ:=by kernel_rfl
def asC:prog.tiled 10 225=θ:=by kernel_rfl
def small:10+1<=10000:=by omega
def Kj:Maps.Keyed prog 225:=Maps.Keyed.of_law (deep_law small amx asC (by kernel_rfl))
def kt:prog.keyType 225=θ:=by kernel_rfl
def sz:prog.types.size=260:=by kernel_rfl
def WU:prog.cellsOf 225=4:=by kernel_rfl
def c3:prog.cellsOf 3=1:=by kernel_rfl
def fm(a b c d:Int):(Value.agg #[.int .i64 a,.int .i64 b,.int .i64 c,.int .i64 d]).formed prog 225=θ:=by
 have u:=U Tryz.underlying225;simp only[Value.formed,u,WU];rfl
def amj(n:Nat)(a b c d:Int)(ha:(Lit.int .i64 a).wf=θ)(hb:(Lit.int .i64 b).wf=θ)(hc:(Lit.int .i64 c).wf=θ)(hd:(Lit.int .i64 d).wf=θ):
 prog.keyLits (n+1+1) 225 [.int .i64 a,.int .i64 b,.int .i64 c,.int .i64 d]=φ [.int .i64 a,.int .i64 b,.int .i64 c,.int .i64 d]:=by
 have u:=U Tryz.underlying225;have u3:=U Tryz.underlying3;simp[Program.keyLits,u,u3,WU,c3,ha,hb,hc,hd]
def amd(a b c d:Int)(ha:(Lit.int .i64 a).wf=θ)(hb:(Lit.int .i64 b).wf=θ)(hc:(Lit.int .i64 c).wf=θ)(hd:(Lit.int .i64 d).wf=θ):∃l,keyOf prog 225 (η #[.int .i64 a,.int .i64 b,.int .i64 c,.int .i64 d])=φ l:=by
 have u:=U Tryz.underlying225;refine⟨.string (keyBytes [.int .i64 a,.int .i64 b,.int .i64 c,.int .i64 d]),?_⟩
 unfold keyOf;simp only[u,kt,fm,Bool.and_self,if_true];rw[sz];have:=amj 259 a b c d ha hb hc hd;simp only[Value.cells,Array.toList] at this |-
 rw[this];rfl
def kv(bd fr ln be:Int):υ:=η #[.int .i64 bd,.int .i64 fr,.int .i64 ln,.int .i64 be]
def rR(a:Int):Prop:= -9223372036854775808<=a/\a<=9223372036854775807
def G2(h:rR a):(Lit.int .i64 a).wf=θ:=WalkArith.wf_i64 h
def vS(b:an)(bd fr ln be:Int):Bool:=match b.aF[bd.toNat]? with
 |some x=>tR x be ln ⟨bd,fr⟩
 |none=>χ
structure Fe(bd fr ln be:Int):Prop where
 a:rR bd
 b:rR fr
 c:rR ln
 d:rR be
def Fe.key(h:Fe bd fr ln be):∃l,keyOf prog 225 (kv bd fr ln be)=φ l:=amd bd fr ln be (G2 h.a) (G2 h.b) (G2 h.c) (G2 h.d)
def O7(b:an)(e:MapEntry):Prop:=∃bd fr ln be,Fe bd fr ln be/\e.key=kv bd fr ln be/\e.val=.bool (vS b bd fr ln be)
def fI(W:Ψ)(g:Nat)(b:an):Prop:=∃es clock,W.heap[g]?=φ (.map es clock)/\∀e∈es.toList,O7 b e
def fI.lt(h:fI W g b):g<W.heap.size:=by
 obtain⟨es,clock,h,_⟩:=h;exact(Ϝ.1 h).1
def amy{b c b' d':Int}(h:kv a b c d=kv a' b' c' d'):a=a'/\b=b'/\c=c'/\d=d':=by
 simp[kv] at h;exact h
def O7.key{b:an}{e:MapEntry}(h:O7 b e):∃l,keyOf prog 225 e.key=φ l:=by
 obtain⟨bd,fr,ln,be,h1,h2,_⟩:=h;obtain⟨l,hl⟩:=h1.key;exact⟨l,by rw[h2];exact hl⟩
def anm(h:fI W g b)(hk:Fe bd fr ln be):
 ∃v ok,(Ő 149 (.map (φ g)) (kv bd fr ln be) θ).run prog W=.ok (μ #[.bool v,.bool ok]) W/\(ok=θ->v=vS b bd fr ln be):=by
 obtain⟨es,clock,hg,ym⟩:=h;obtain⟨l,hl⟩:=hk.key;have hc:=Kj.check W es.isEmpty hl;have hz:(zeroValue 4).run prog W=.ok (.bool χ) W:=by rw[UN];kernel_rfl
 have hgo:(getObj g).run prog W=.ok (.map es clock) W:=by simp[getObj,Sem.run,hg]
 rcases Kj.find W hl es.toList (λe he=>(ym e he).key) with⟨hf,_⟩ | ⟨j,e,hf,hj,R6⟩
 ·refine⟨χ,χ,?_,by simp⟩
  unfold Ő;simp[Sem.run_bind,hgo,Ţ,hc,hf,hz,go_sem]
 ·obtain⟨bd',ba,ln',be',_,h2,h3⟩:=ym e (ϡ hj)
  rw[R6] at h2;obtain⟨rfl,rfl,rfl,rfl⟩:=amy h2;refine⟨_,θ,?_,λ_=>rfl⟩
  unfold Ő;simp[Sem.run_bind,hgo,Ţ,hc,hf,h3,go_sem]
def asZ(h:fI W g b)(hk:Fe bd fr ln be):
 ∃W',(ő 149 (.map (φ g)) (kv bd fr ln be) (.bool (vS b bd fr ln be))).run prog W=.ok () W'/\fI W' g b/\W.grownBy W' (φ g):=by
 obtain⟨es,clock,hg,ym⟩:=h;have aj:=(Ϝ.1 hg).1
 obtain⟨l,hl⟩:=hk.key;have hc:=Kj.check W χ hl;have hgo:(getObj g).run prog W=.ok (.map es clock) W:=by simp[getObj,Sem.run,hg]
 have M6:∀es' IP,(setObj g (.map es' IP)).run prog W=.ok () (W.putObj g (.map es' IP)):=λes' IP=>by
  have e:W.heap[g]=.map es clock:=(Ϝ.1 hg).2
  simp[setObj,Sem.run,World.putObj,aj,e]
 have gr:∀es' IP,W.grownBy (W.putObj g (.map es' IP)) (φ g):=λ_ _=>ĩ _ _ _
 rcases Kj.find W hl es.toList (λe he=>(ym e he).key) with⟨hf,_⟩ | ⟨j,e,hf,hj,R6⟩
 ·refine⟨W.putObj g (.map (es.push {key:=kv bd fr ln be,val:=.bool (vS b bd fr ln be),born:=clock}) (clock+1)),?_,?_,gr _ _⟩
  ·unfold ő
   simp[Sem.run_bind,hgo,Ţ,hc,hf,go_sem,M6]
  ·refine⟨_,_,Ň aj,λe he=>?_⟩
   simp at he;rcases he with he|rfl
   ·exact ym e (by simpa using he)
   ·exact⟨bd,fr,ln,be,hk,rfl,rfl⟩
 ·have aW:=Kj.stays W hl
  refine⟨W.putObj g (.map (es.modify j λe=> {e with key:=kv bd fr ln be,val:=.bool (vS b bd fr ln be)}) clock),?_,?_,gr _ _⟩
  ·unfold ő
   have xd:es[j]?=φ e:=by simpa using hj
   simp[Sem.run_bind,hgo,Ţ,hc,hf,go_sem,xd,R6,aW,M6]
  ·refine⟨_,_,Ň aj,λe' he'=>?_⟩
   obtain⟨i,hi⟩:=Ź he'
   rw[Ĩ,Array.getElem?_modify] at hi
   split at hi
   ·cases h:es[i]? with
    |none=>rw[h] at hi;cases hi
    |some e0=>
     rw[h] at hi;cases hi;exact⟨bd,fr,ln,be,hk,rfl,rfl⟩
   ·exact ym e' (by rw[<-Ĩ] at hi;exact ϡ hi)
def ac4{o:Oper}{a:Act}{Q:Exit->Act->Ψ->Prop}(hg:o.guard=ν)(m x:Ç)(t:TypeId)(ae:o.op=Op.lookup t m x θ)(r:υ)
 (bt:(Ő t (a.eval m) (a.eval x) θ).run P w=.ok r w)(hK:ó P ops Q rest (a.put o.dst r) w):ó P ops Q (o::rest) a w:=by
 refine wpList_plain hg λK' I8=>?_
 unfold Oper.wp;simp[execOp,ae,bt,Ţ];exact I8 _ _ hK
def atA{o:Oper}{a:Act}{Q:Exit->Act->Ψ->Prop}(hg:o.guard=ν)(m x v:Ç)(t:TypeId)(ae:o.op=Op.mapUpdate t m x v)
 (bt:(ő t (a.eval m) (a.eval x) (a.eval v)).run P w=.ok () w')(hK:ó P ops Q rest (a.put o.dst ω) w'):ó P ops Q (o::rest) a w:=by
 refine wpList_plain hg λK' I8=>?_
 unfold Oper.wp;simp[execOp,ae,bt,Ţ];exact I8 _ _ hK
def fI.grown{row:Option Nat}(h:fI W g b)(hg:W.grownBy W' row)(hr:row≠φ g):fI W' g b:=by
 have hl:=h.lt;obtain⟨es,clock,h1,h2⟩:=h;exact⟨es,clock,(hg.block g hl (λe=>hr e.symm)).trans h1,h2⟩
def fI.below(h:fI W g b)(hb:Γ B W W')(hg:g<B):fI W' g b:=by
 obtain⟨es,clock,h1,h2⟩:=h;exact⟨es,clock,(hb.block g hg).trans h1,h2⟩
def py(h:Γ B w w')(hB:w.heap.size<=B)(row:Option Nat):w.grownBy w' row:=⟨h.os,h.tape,h.output,h.size,λk hk _=>h.block k (by omega)⟩
def acN{row:Option Nat}(h:w.drew.grownBy w' row):w.grownBy w' row:=⟨h.os,h.tape,h.output,h.size,h.block⟩
def can{p:Piece}{from_ length:Int}(ai:bq w B b pv bv tv)(hB:B<=w.heap.size)(uX:∃A n c,sv=ζ A n c)(hm:fI w g b)(hgB:B<=g)
 (hp:b.pieces[i]?=φ p)(hx:b.aF[k]?=φ x)(hf:0<=from_/\from_<=1000)(hl:0<=length/\length<=1000)(Rr:0<=p.bears/\p.bears<=2)(pA:k<=3):
 ύ prog 176 #[η #[ξ κ b.ab,pv,bv,tv,sv,.map (φ g)],ξ κ i,ξ κ length,η #[ξ κ k,ξ κ from_]] w λe w'=>e=Ω (.bool (vS b k from_ length p.bears))/\w.grownBy w' (φ g)/\fI w' g b:=by
 obtain⟨A4,n4,c4,rfl⟩:=uX;have bV:=ψ ai;have Y7:Fe k from_ length p.bears:=⟨by unfold rR;omega,by unfold rR;omega,by unfold rR;omega,by unfold rR;omega⟩
 have VG:=ψ Y7;have HM:=ψ hm;obtain⟨A1,n1,c1,rfl,e1,h1,jx,r1⟩:=ai.pieces.Φ;obtain⟨A2,n2,c2,rfl,e2,h2,ie,r2⟩:=ai.aF.Φ;obtain⟨A3,n3,c3,rfl,-⟩:=ai.aM.Φ;unfold ϕ at jx ie;have hi:i<n1:=by have:=(ϩ.1 hp).1;omega
 obtain⟨gV,p',Bn,rfl,F0,JM,⟨rfl,Zx⟩,-,mG⟩:=r1 i hi;obtain rfl:p'=p:=by rw[JM] at hp;exact Ϟ hp
 have st:=Δ.refl (B:=B) w;have g3: w.cell? ⟨(gV.add (i * 4)).block,(gV.add (i * 4)).off+3,ν⟩=φ (ξ κ p'.bears):=bH mG st F0 2 rfl;have s0:(gV.add (i * 4)).block<w.heap.size:=by rw[cq];omega
 have s1:(gV.add (i * 4)).block<=w.heap.size:=by omega
 have s2:(gV.add (i * 4)).block<=w.heap.size+1:=by omega
 have ry:=hm.lt;have aE:=λ(W:Ψ) (aW:Δ B w W) (hs:B<=W.heap.size)=>aaK (w:=W) (bV.e.still aW) hs hp hx hf hl
 have ny:vS b k from_ length p'.bears=tR x p'.bears length ⟨k,from_⟩:=by unfold vS;simp[hx]
 have HC:=ψ aE;have zx:=ψ ny;clear ai e1 e2 r1 r2 hp hx JM mG st Y7 hm aE ny Zx;have gB:((w.alloc (Ϥ #[ξ κ b.ab,ζ (φ gV) n1 c1,ζ A2 n2 c2,ζ A3 n3 c3,ζ A4 n4 c4,.map (φ g)] 151)).alloc (Ϥ #[ξ κ k,ξ κ from_] 56)).cell? ⟨(gV.add (i * 4)).block,(gV.add (i * 4)).off+3,ν⟩=φ (ξ κ p'.bears):=
  (Ĉ _ _ _ (by simp;omega)).trans ((Ĉ _ _ _ (by simp;omega)).trans g3)
 have gA:(((w.alloc (Ϥ #[ξ κ b.ab,ζ (φ gV) n1 c1,ζ A2 n2 c2,ζ A3 n3 c3,ζ A4 n4 c4,.map (φ g)] 151)).alloc (Ϥ #[ξ κ k,ξ κ from_] 56)).alloc (Ϥ #[ξ κ 0,ξ κ 0,ξ κ 0,ξ κ 0] 225)).cell? ⟨(gV.add (i * 4)).block,(gV.add (i * 4)).off+3,ν⟩=φ (ξ κ p'.bears):=
  (Ĉ _ _ _ (by simp;omega)).trans gB
 go_enter func176,Tryz.ntmps176;go_wp2;go_region
 clear gA gB;obtain⟨W4,FY⟩:∃W4,W4=(((w.alloc (Ϥ #[ξ κ b.ab,ζ (φ gV) n1 c1,ζ A2 n2 c2,ζ A3 n3 c3,ζ A4 n4 c4,.map (φ g)] 151)).alloc (Ϥ #[ξ κ k,ξ κ from_] 56)).alloc (Ϥ #[ξ κ k,ξ κ from_,ξ κ length,ξ κ p'.bears] 225)).drew:=⟨_,rfl⟩
 rw[<-FY];have b4:Bk W4 w.heap.size 151 #[ξ κ b.ab,ζ (φ gV) n1 c1,ζ A2 n2 c2,ζ A3 n3 c3,ζ A4 n4 c4,.map (φ g)]:=by rw[FY];exact((Bk.new w _ _).alloc _).alloc _
 have LS:Bk W4 (w.heap.size+1) 56 #[ξ κ k,ξ κ from_]:=by rw[FY];exact(Bk.cD (by simp) _ _).alloc _
 have k4:Bk W4 (w.heap.size+1+1) 225 #[ξ κ k,ξ κ from_,ξ κ length,ξ κ p'.bears]:=by rw[FY];exact Bk.cD (by simp) _ _
 have B4:Γ w.heap.size w W4:=by rw[FY];exact oT ((((ώ _ _).alloc (ϊ _) _).alloc (by simp) _).alloc (by simp;omega) _)
 have pX:=ψ (Ϗ b4 (Ϗ LS (Ϗ k4 B4)));have Pz:=ψ (HM.e.below B4 ry);have xt:w.heap.size+1+1<W4.heap.size:=k4.lt;have m0:=b4.cell 0;have m1:=b4.cell 1;have m2:=b4.cell 2;have m3:=b4.cell 3;have m5: W4.cell? ⟨w.heap.size,5,ν⟩=φ (.map (φ g)):=b4.cell 5;have Qp:=LS.cell 0;have Qq:=LS.cell 1;have q0: W4.cell? ⟨w.heap.size+1+1,0,ν⟩=φ (ξ κ k):=k4.cell 0;have q1: W4.cell? ⟨w.heap.size+1+1,1,ν⟩=φ (ξ κ from_):=k4.cell 1;have q2: W4.cell? ⟨w.heap.size+1+1,2,ν⟩=φ (ξ κ length):=k4.cell 2;have q3: W4.cell? ⟨w.heap.size+1+1,3,ν⟩=φ (ξ κ p'.bears):=k4.cell 3;obtain⟨v,ok,Zm,cE⟩:=anm Pz.e VG.e;have VL:=ψ Zm;have aE:=ψ (HC.e W4 (Δ.aN B4 hB) (by have:=B4.size;omega))
 clear FY b4 LS k4 B4 Zm;cases ok with
 |true=>
  obtain rfl:=cE rfl;clear cE;go_wp2_with (first
   | (at_lookup;refine ac4 rfl (.tmp 29) (.tmp 30) 149 rfl _ VL.e ?_))
  go_ret;exact⟨cj rfl,py pX.e.2.2.2 (ϊ _) _,Pz.e⟩
 |false=>
  clear cE;go_wp2_with (first
   | (at_lookup;refine ac4 rfl (.tmp 29) (.tmp 30) 149 rfl _ VL.e ?_)
   | (go_at_call 165;refine aE.e.mono ?_;rintro e w1 ⟨rfl,ag⟩
      have m5: w1.cell? ⟨w.heap.size,5,ν⟩=φ (.map (φ g)):=(pX.e.1.below ag (by omega)).cell 5
      have q0: w1.cell? ⟨w.heap.size+1+1,0,ν⟩=φ (ξ κ k):=(pX.e.2.2.1.below ag (by omega)).cell 0
      have q1: w1.cell? ⟨w.heap.size+1+1,1,ν⟩=φ (ξ κ from_):=(pX.e.2.2.1.below ag (by omega)).cell 1
      have q2: w1.cell? ⟨w.heap.size+1+1,2,ν⟩=φ (ξ κ length):=(pX.e.2.2.1.below ag (by omega)).cell 2
      have q3: w1.cell? ⟨w.heap.size+1+1,3,ν⟩=φ (ξ κ p'.bears):=(pX.e.2.2.1.below ag (by omega)).cell 3
      obtain⟨w2,SR,dq,tH⟩:=asZ (Pz.e.below ag (by omega)) VG.e
      rw[zx.e] at SR;have HUP:=ψ SR;have HE:=ψ (Ϗ dq tH);have sC:=ψ (chain pX.e.2.2.2 ag (by omega))
      clear ag SR dq tH)
   | (at_mapUpdate;refine atA rfl (.tmp 44) (.tmp 45) (.tmp 46) 149 rfl HUP.e ?_))
  go_ret;exact⟨cj (by rw[zx.e]),(py sC.e (ϊ _) _).trans HE.e.2,HE.e.1⟩
def pQ(b:an)(k:Nat):Nat:=match b.aF[k]? with
 |some x=>x.aw.toNat
 |none=>0
def sV(b:an)(n:al)(cs:List Cut)(c:Cut):Bool:=Ar b cs.length (n.at cs.length) c && (Ϯ cs.length).all (vv b n cs cs.length c)
def pE(b:an)(n:al)(S:List Cut->Option (List Cut))(cs:List Cut)(k fr:Nat):Option (List Cut):=if sV b n cs ⟨k,fr⟩ then S (cs++ [⟨k,fr⟩]) else ν
def tZ(b:an)(n:al)(out:Nat->Bool)(S:List Cut->Option (List Cut))(cs:List Cut)(k:Nat):Option (List Cut):=
 if out k then ν else(Ϯ (pQ b k)).findSome? (pE b n S cs k)
def search(b:an)(n:al)(out:Nat->Bool):Nat->List Cut->Option (List Cut)
 |0,cs=>φ cs
 |f+1,cs=>(Ϯ b.aF.length).findSome? (tZ b n out (search b n out f) cs)
def Dt{F:Nat->Option α}:(Ϯ n).findSome? F=ν↔∀i,i<n->F i=ν:=by simp
def X3{F:Nat->Option α}{x:α}(hk:k<n)(h0:∀i,i<k->F i=ν)(h:F k=φ x):(Ϯ n).findSome? F=φ x:=by
 have e:Ϯ n=Ϯ k++k::(Ϯ n).drop (k+1):=by
  have h1:(Ϯ n).take k=Ϯ k:=by rw[List.take_range,Aij (by omega)]
  have h2:=List.take_append_drop k (Ϯ n);rw[h1,List.drop_eq_getElem_cons (by simpa using hk)] at h2
  rw[List.getElem_range] at h2;exact h2.symm
 rw[e,List.findSome?_append,Dt.2 h0,List.findSome?_cons,h]
 rfl
def Cut.vs(c:Cut):List υ:=[ξ κ c.bm,ξ κ c.from_]
structure cS where
 w:Ψ
 b:an
 pv:υ
 bv:υ
 tv:υ
 sv:υ
 n:al
 gs:Nat
 go:Nat
 gn:Nat
 gm:Nat
 KO:Nat
 pP:Array υ
 e:Nat->Bool
 l:Nat
def cS.s(X:cS):Nat:=X.w.heap.size
def cS.np(X:cS):Nat:=X.b.pieces.length
def cS.args(X:cS):Array υ:=#[π (φ ⟨X.s+2,0,ν⟩),π (φ ⟨X.gs,0,ν⟩),π (φ ⟨X.s,0,ν⟩),π (φ ⟨X.go,0,ν⟩),π (φ ⟨X.gn,0,ν⟩),π (φ ⟨X.s+3,0,ν⟩)]
structure cS.Ok(X:cS)(B:Nat):Prop where
 book:bq X.w B X.b X.pv X.bv X.tv
 valid:Valid X.b
 lens:X.n.Ok
 sv:∃A n c,X.sv=ζ A n c
 B:B<=X.gm
 s:X.gs<X.s
 o:X.go<X.s
 gn:X.gn<X.s
 gm:X.gm<X.s
 ns:X.gs≠X.gm
 no:X.go≠X.gm
 nn:X.gn≠X.gm
 cs:Bk X.w X.gs 151 #[ξ κ X.b.ab,X.pv,X.bv,X.tv,X.sv,.map (φ X.gm)]
 co:Bk X.w X.go 158 #[fv X.KO X.pP]
 cn:Bk X.w X.gn 128 X.n.cs
 eg:∀args w,(callFunc X.KO args).run prog w=.ok (.enter X.KO args) w
 e:∀(k:Nat) (W:Ψ),k<X.b.aF.length->X.w.grownBy W (φ X.gm)->ύ prog X.KO (#[ξ κ k]++X.pP) W λe W'=>e=Ω (.bool (X.e k))/\Γ W.heap.size W W'
structure DI(X:cS)(cs:List Cut)(W:Ψ):Prop where
 y:Bk W X.s 139 #[.func (.yield X.l) #[] #[]]
 arr:W.ownsRow (X.s+1) 56 2 (ζ (φ ⟨X.s+1,0,ν⟩) cs.length X.np) cs.length (cs.flatMap Cut.vs)
 lv:Bk W (X.s+2) 27 #[ζ (φ ⟨X.s+1,0,ν⟩) cs.length X.np]
 nx:Bk W (X.s+3) 29 #[.func (.func 175) #[] X.args]
 gr:X.w.grownBy W (φ X.gm)
 known:fI W X.gm X.b
def Bk.grown{t:TypeId}{row:Option Nat}(h:Bk W g t cs)(hg:W.grownBy W' row)(hr:φ g≠row):Bk W' g t cs:=(hg.block g h.lt hr).trans h
def apC{base:Nat}{sz:Nat}{row:Option Nat}(h:w.ownsRow base e sz v n xs)(hg:w.grownBy w' row)(hr:∀k,row=φ k->k<base):w'.ownsRow base e sz v n xs:=by
 refine⟨h.1,?_⟩
 rcases h.2 with h0| ⟨g,cap,cur,h1,h2,h3,h4⟩
 ·exact .inl h0
 ·exact .inr ⟨g,cap,cur,h1,h2,(hg.block g (Ϝ.1 h3).1 (λe=>by have:=hr g e.symm;omega)).trans h3,h4⟩
def DI.grown{X:cS}{B:Nat}{cs:List Cut}{W W':Ψ}(ok:X.Ok B)(h:DI X cs W)(hg:W.grownBy W' (φ X.gm))(hk:fI W' X.gm X.b):DI X cs W':=by
 have:=ok.gm;exact⟨h.y.grown hg (by simp;omega),apC h.arr hg (λk e=>by cases e;omega),h.lv.grown hg (by simp;omega),h.nx.grown hg (by simp;omega),h.gr.trans hg,hk⟩
def DI.below{X:cS}{B:Nat}{cs:List Cut}{W W':Ψ}(ok:X.Ok B)(h:DI X cs W)(hb:Γ W.heap.size W W'):DI X cs W':=
 h.grown ok (py hb (ϊ _) _) (h.known.below hb h.known.lt)
def K1(h:w.grownBy W (φ g))(hg:B<=g)(hB:B<=w.heap.size):Δ B w W:=λp hp=>ŷ (h.block p.block (by omega) (by simp;omega))
def apD{base:Nat}{sz:Nat}(h:w.ownsRow base e sz (ζ (φ ⟨g,0,ν⟩) n cap) n xs)(hm:m<=n):w.ownsRow base e sz (ζ (φ ⟨g,0,ν⟩) m cap) m (xs.take (m * sz)):=by
 have hms:m * sz<=n * sz:=Aih _ hm;refine⟨by rw[List.length_take,h.1];omega,?_⟩
 rcases h.2 with⟨h0,_⟩ | ⟨g',Di,cur,h1,h2,h3,h4,h5,h6,h7⟩
 ·cases h0
 ·cases h1
  exact .inr ⟨g,cap,cur,rfl,h2,h3,by omega,h5,h6,by rw[<-h7,List.take_take,Aij hms]⟩
def ain(l:List Cut)(c:Cut):((l++ [c]).flatMap Cut.vs).take (l.length * 2)=l.flatMap Cut.vs:=by
 have hl:∀l:List Cut,(l.flatMap Cut.vs).length=l.length * 2:=by
  intro l;induction l with
  |nil=>rfl
  |cons a l ih=>rw[ğ,Ę,ih];simp[Cut.vs];omega
 rw[ĵ,<-hl l,List.take_left]
def Dw{row:Option Nat}(h:w.grownBy W row)(hp:w.heap.size<=p.block):w.grownBy (W.setCell p u) row:=
 ⟨h.os,h.tape,h.output,by simp[î];exact h.size,λk hk au=>(Ú _ _ _ _ (by omega)).trans (h.block k hk au)⟩
def Dv{row abC:Option Nat}(h:w.grownBy W row)(k:W.grownBy W' abC)(hr:∀g,abC=φ g->w.heap.size<=g):w.grownBy W' row:=
 ⟨k.os.trans h.os,k.tape.trans h.tape,k.output.trans h.output,ϣ h.size k.size,λi hi au=>(k.block i (ϟ hi h.size) (λe=>by have:=hr i e.symm;omega)).trans (h.block i hi au)⟩
def DI.back{X:cS}{cs:List Cut}{c:Cut}(ok:X.Ok B)(h:DI X (cs++ [c]) W):DI X cs (W.setCell ⟨X.s+2,0,ν⟩ (ζ (φ ⟨X.s+1,0,ν⟩) cs.length X.np)):=by
 have F9:=ok.gm;have hx:=h.nx.lt;have hs:X.w.heap.size=X.s:=rfl;have ha:W.ownsRow (X.s+1) 56 2 (ζ (φ ⟨X.s+1,0,ν⟩) cs.length X.np) cs.length (cs.flatMap Cut.vs):=by
  have:=apD (m:=cs.length) (by have:=h.arr;rwa[Ę,Af7] at this) (by omega)
  rwa[ain] at this
 refine⟨h.y.fS (by simp) _,?_,h.lv.set 0 _,h.nx.fS (by simp) _,Dw h.gr (by simp[cS.s]),?_⟩
 ·refine⟨ha.1,?_⟩
  rcases ha.2 with⟨h0,_⟩ | ⟨g,cap,cur,h1,h2,h3,h4⟩
  ·cases h0
  ·cases h1
   exact .inr ⟨_,_,cur,rfl,h2,(Ú _ _ _ _ (by simp)).trans h3,h4⟩
 ·obtain⟨es,clock,h1,h2⟩:=h.known
  exact⟨es,clock,(Ú _ _ _ _ (by simp;omega)).trans h1,h2⟩
def DI.push{X:cS}{cs:List Cut}{c:Cut}{W1:Ψ}(ok:X.Ok B)(h:DI X cs W)
 (aK:W1.ownsRow (X.s+1) 56 2 (ζ (φ ⟨X.s+1,0,ν⟩) (cs.length+1) X.np) (cs.length+1) (cs.flatMap Cut.vs++c.vs))(hg:(W.alloc o).grownBy W1 (φ (X.s+1))):
 DI X (cs++ [c]) (W1.setCell ⟨X.s+2,0,ν⟩ (ζ (φ ⟨X.s+1,0,ν⟩) (cs.length+1) X.np)):=by
 have F9:=ok.gm;have hx:=h.nx.lt;have hl:(cs++ [c]).length=cs.length+1:=by simp
 have kW:W.grownBy W1 (φ (X.s+1)):=(ϯ W o _).trans hg;have hz:=kW.size;refine⟨(h.y.grown kW (by simp)).fS (by simp) _,?_,?_,(h.nx.grown kW (by simp)).fS (by simp) _,Dw (Dv h.gr kW (λg e=>by cases e;simp[cS.s])) (by simp[cS.s]),?_⟩
 ·rw[hl,ĵ,Ahv]
  refine⟨aK.1,?_⟩
  rcases aK.2 with⟨h0,_⟩ | ⟨g,cap,cur,h1,h2,h3,h4⟩
  ·cases h0
  ·cases h1
   exact .inr ⟨_,_,cur,rfl,h2,(Ú _ _ _ _ (by simp)).trans h3,h4⟩
 ·rw[hl];exact(h.lv.grown kW (by simp)).set 0 _
 ·obtain⟨es,clock,h1,h2⟩:=h.known.grown kW (by simp;omega)
  exact⟨es,clock,(Ú _ _ _ _ (by simp;omega)).trans h1,h2⟩
end Go.Tw
namespace Go.Tw
variable [Go.Tw.aJ]
open Go Go.Proofs Go.RowKit
attribute [local go_sem] EY EX Oper.semAt_some
structure Fi(X:cS)(Z:List Cut->Ψ->Prop):Prop where
 lv:∀full W,Z full W->∃i,Bk W (X.s+2) 27 #[ζ (φ ⟨X.s+1,0,ν⟩) i X.np]
 set:∀full W i,Z full W->Z full (W.setCell ⟨X.s+2,0,ν⟩ (ζ (φ ⟨X.s+1,0,ν⟩) i X.np))
 yield:∀(m:Nat) (full:List Cut) (W:Ψ),full.length=X.np->DI X full W->YieldAt ò m prog X.l #[ζ (φ ⟨X.s+1,0,ν⟩) X.np X.np] W λe W'=>e=Ω (.bool χ)/\Z full W'
def LB(X:cS)(Z:List Cut->Ψ->Prop)(cs:List Cut)(r:Option (List Cut))(e:ņ)(W':Ψ):Prop:=
 (∃full,r=φ full/\e=Ω (.bool χ)/\Z full W')\/(r=ν/\e=Ω (.bool θ)/\DI X cs W')
def ark{X:cS}(ok:X.Ok B){Z:List Cut->Ψ->Prop}(hZ:Fi X Z){cs:List Cut}(hc:cs.length=X.np)(h:DI X cs W):
 ύ prog 175 X.args W (LB X Z cs (φ cs)):=by
 refine(callsIn_wide (n:=0)).1 ?_
 have HZ:=ψ hZ;have HI:=ψ h;have HC:=ψ hc;obtain⟨n,hn⟩:∃n,n=X.np:=⟨_,rfl⟩
 have au8:n<=9223372036854775807:=by have:=ok.valid.np.2;rw[hn];unfold cS.np;omega
 obtain⟨A1,n1,c1,vJ,e1,h1,jx,-⟩:=ok.book.pieces.Φ;have ks:Bk W X.gs 151 #[ξ κ X.b.ab,ζ A1 n1 c1,X.bv,X.tv,X.sv,.map (φ X.gm)]:=by
  have:=ok.cs.grown h.gr (by simpa using ok.ns);rwa[vJ] at this
 have e1':n1=n:=by rw[hn];unfold cS.np;omega
 have s1: W.cell? ⟨X.gs,1,ν⟩=φ (ζ A1 n1 c1):=ks.cell 1;have v0: W.cell? ⟨X.s+2,0,ν⟩=φ (ζ (φ ⟨X.s+1,0,ν⟩) n n):=by rw[hn];have:=h.lv.cell 0;rw[hc] at this;exact this
 have y0: W.cell? ⟨X.s,0,ν⟩=φ (.func (.yield X.l) #[] #[]):=h.y.cell 0;obtain⟨f1,t1,a1,b1,pM,uL⟩:=hZ.yield (0 - 1) cs W hc h;rw[<-hn] at pM;have PE:=ψ uL;subst e1';clear hZ h hc hn ks vJ e1 uL;unfold cS.args;refine callsIn_of_wp func175 rfl trivial ?_
 simp only[Tryz.ntmps175,ŕ,Ď,Ŗ,ķ,Ř,œ,Ŕ,ŗ,İ,þ,Ĵ]
 gi_wp2
 refine PE.e.mono ?_
 rintro e W' ⟨rfl,hz⟩
 gi_wp2
 go_ret;exact .inl ⟨cs,rfl,cj rfl,hz⟩
end Go.Tw
namespace Go.Tw
variable [Go.Tw.aJ]
open Go Go.Proofs Go.RowKit
def uG(g n:Nat):(⟨g,0,ν⟩:ϖ).add n=⟨g,n,ν⟩:=by
 unfold Ā;split
 ·rename_i h;rw[h]
 ·simp
def wV(w:Ψ)(o:Obj)(row:Option Nat):w.grownBy (w.alloc o).drew row:=let h:=ϯ w o row;⟨h.os,h.tape,h.output,h.size,h.block⟩
def alU:∃i0,prog.info? 56=φ i0/\i0.size=2:=by
 have h:(prog.info? 56).map (λi=>i.size)=φ 2:=by rw[v8];kernel_rfl
 cases e: prog.info? 56 with
 |none=>rw[e] at h;cases h
 |some i=>rw[e] at h;exact⟨i,rfl,by simpa using h⟩
def aip{X:cS}{cs:List Cut}{fr:Nat}{full:List Cut}(hk:k<X.b.aF.length)(h0:∀j,j<k->tZ X.b X.n X.e (search X.b X.n X.e f) cs j=ν)(ho:X.e k=χ)
 (hf:fr<pQ X.b k)(h1:∀j,j<fr->pE X.b X.n (search X.b X.n X.e f) cs k j=ν)(h2:pE X.b X.n (search X.b X.n X.e f) cs k fr=φ full):search X.b X.n X.e (f+1) cs=φ full:=by
 unfold search;refine X3 hk h0 ?_
 unfold tZ;rw[ho];exact X3 hf h1 h2
def arl{X:cS}(ok:X.Ok B)(hB:B<=X.s){Z:List Cut->Ψ->Prop}(hZ:Fi X Z)
 (ih:∀(cs:List Cut) (W:Ψ),cs.length+f=X.np->(∀c∈cs,vk X.b c)->DI X cs W->ύ prog 175 X.args W (LB X Z cs (search X.b X.n X.e f cs)))
 {cs:List Cut}(hc:cs.length+(f+1)=X.np)(mR:∀c∈cs,vk X.b c)(h:DI X cs W):
 ύ prog 175 X.args W (LB X Z cs (search X.b X.n X.e (f+1) cs)):=by
 obtain⟨i,hi⟩:∃i,i=cs.length:=⟨_,rfl⟩
 obtain⟨i56,YW,YX⟩:=alU;have Lp:=ψ (Ϗ YW YX);clear YW YX;obtain⟨A1,n1,c1,vJ,e1,h1,jx,-⟩:=ok.book.pieces.Φ;obtain⟨A2,nb,c2,Jm,e2,h2,ie,qq⟩:=ok.book.aF.Φ;obtain⟨A3,n3,c3,SO,-⟩:=ok.book.aM.Φ;obtain⟨A4,n4,c4,uX⟩:=ok.sv;have fP:i<n1:=by unfold cS.np at hc;omega
 have sc:n1<=3:=by have:=ok.valid.np.2;omega
 have Zu:nb<=3:=by have:=ok.valid.nb;omega
 have xk:((i:Int)==(n1:Int))=χ:=by simp;omega
 unfold ϕ at jx ie;have sU:X.np=n1:=by unfold cS.np;exact e1
 have ks:Bk W X.gs 151 #[ξ κ X.b.ab,ζ A1 n1 c1,ζ A2 nb c2,ζ A3 n3 c3,ζ A4 n4 c4,.map (φ X.gm)]:=by
  have:=ok.cs.grown h.gr (by simpa using ok.ns);rwa[vJ,Jm,SO,uX] at this
 have s1: W.cell? ⟨X.gs,1,ν⟩=φ (ζ A1 n1 c1):=ks.cell 1;have s2: W.cell? ⟨X.gs,2,ν⟩=φ (ζ A2 nb c2):=ks.cell 2;have v0: W.cell? ⟨X.s+2,0,ν⟩=φ (ζ (φ ⟨X.s+1,0,ν⟩) i n1):=by rw[hi,<-sU];exact h.lv.cell 0
 have HI:=ψ h;have OK:=ψ ok;have pY:=ψ (Ϗ hi (Ϗ hc mR));have rN:=ψ (Ϗ vJ (Ϗ Jm (Ϗ SO (Ϗ uX (Ϗ e1 e2)))));have HR2:=ψ qq;have IH:=ψ ih;have HZ:=ψ hZ;have NP:=ψ sU;clear ks h ok hi hc mR vJ Jm SO uX e1 e2 qq ih hZ sU;have F4:X.args=#[π (φ ⟨X.s+2,0,ν⟩),π (φ ⟨X.gs,0,ν⟩),π (φ ⟨X.s,0,ν⟩),π (φ ⟨X.go,0,ν⟩),π (φ ⟨X.gn,0,ν⟩),π (φ ⟨X.s+3,0,ν⟩)]:=rfl;rw[F4];have Ll:=ψ F4;clear F4;go_enter func175,Tryz.ntmps175;go_wp2;go_loopw [34] (λu wr=>∃k:Nat,k<=nb/\u=ξ κ k/\(Hid (∀j,j<k->tZ X.b X.n X.e (search X.b X.n X.e f) cs j=ν))/\Hid (DI X cs wr)) (λu _=>nb - (ϙ u).toNat)
 case atStart=>exact⟨0,Ϡ _,rfl,ψ (λj hj=>by omega),HI⟩
 case round=>
  obtain⟨wo,rfl⟩:∃wo:Ψ,wo=wr:=⟨_,rfl⟩
  obtain⟨k,hk,rfl,br,hD⟩:=hrel;by_cases aj:k<nb
  ·obtain⟨ad,x,qf,rn,aD,hx,⟨kvv,rfl,dk,cM⟩,-,aq⟩:=HR2.e k aj
   subst rn;obtain⟨A5,n5,c5,rfl,-⟩:=cM.Φ;have st:Δ B X.w wo:=K1 hD.e.gr OK.e.B hB;have g0:=cA aq st aD rfl;have g1:=bH aq st aD 0 rfl;have g2:=bH aq st aD 1 rfl;have hzw:X.s+3<wo.heap.size:=hD.e.nx.lt;have Bx:(ad.add (k * 3)).block<wo.heap.size:=by rw[cq];omega
   have HX:=ψ hx;have ko:Bk wo X.go 158 #[fv X.KO X.pP]:=OK.e.co.grown hD.e.gr (by simpa using OK.e.no)
   have hgo:=OK.e.o;have o0:(wo.alloc (Ξ #[.string x.name,ξ κ x.aw,ζ A5 n5 c5] 59)).cell? ⟨X.go,0,ν⟩=φ (.func (.func X.KO) #[] X.pP):=(ko.alloc _).cell 0;have a1:X.go<wo.heap.size:=by omega
   have a2:X.go<=wo.heap.size:=by omega
   have eg:=OK.e.eg;have Vt:=ψ (OK.e.e k (wo.alloc (Ξ #[.string x.name,ξ κ x.aw,ζ A5 n5 c5] 59)) (by have:=rN.e.2.2.2.2.2;omega) (hD.e.gr.trans (ϯ _ _ _)))
   have Gx:1<=x.aw/\x.aw<=40:=(OK.e.valid.bm x (ϡ hx)).aw;clear hx aq st ko dk cM;go_wp2
   go_step3
   go_wp2;refine Vt.e.mono ?_
   rintro e w1 ⟨rfl,ag⟩;have Yl:=ψ (hD.e.grown OK.e (ϯ wo (Ξ #[.string x.name,ξ κ x.aw,ζ A5 n5 c5] 59) _) (hD.e.known.grown (ϯ wo (Ξ #[.string x.name,ξ κ x.aw,ζ A5 n5 c5] 59) ν) (by simp)))
   have Ym:=ψ (Yl.e.below OK.e ag);have kx:Hid (Bk w1 wo.heap.size 59 #[.string x.name,ξ κ x.aw,ζ A5 n5 c5]):=ψ ((Bk.new wo _ _).below ag (by simp))
   have x1: w1.cell? ⟨wo.heap.size,1,ν⟩=φ (ξ κ x.aw):=kx.e.cell 1;clear ag;cases ho:X.e k with
   |true=>
    go_wp2;rw[Exit.noGoto_exit];go_wp2;go_roundw;case rel=>exact⟨k+1,by omega,by go_num,ψ (λj hj=>by
     rcases ε.1 hj with h|rfl
     ·exact br.e j h
     ·unfold tZ;rw[ho];rfl),Ym⟩
    case measure=>simp[ϙ];omega
   |false=>
    go_wp2
    go_step3
    go_wp2;have vI:pQ X.b k=x.aw.toNat:=by unfold pQ;rw[HX.e]
    have VK:=ψ vI;have hp:∃p,X.b.pieces[i]?=φ p:=⟨_,Ä (by have:=rN.e.2.2.2.2.1;omega)⟩
    obtain⟨p,hp⟩:=hp;have tN:=OK.e.valid.piece p (ϡ hp);have HP:=ψ (Ϗ hp tN.bears);obtain⟨ln,yu⟩:∃ln,ln=X.n.at i:=⟨_,rfl⟩
    have Zl:0<=ln/\ln<=1000:=by rw[yu];exact OK.e.lens i
    have tz:=ψ yu;have nw:i<3:=by omega
    have YU:(i:Int)<3:=by omega
    have hgs:=OK.e.s;have BM:=OK.e.gn;clear vI hp tN yu hD Yl Vt o0 x1 g0 g1 g2 s1 s2 v0;go_loopw [44] (λu W2=>∃fr:Nat,(fr:Int)<=x.aw/\u=ξ κ fr/\(Hid (∀j,j<fr->pE X.b X.n (search X.b X.n X.e f) cs k j=ν))/\Hid (DI X cs W2)) (λu _=>(x.aw - ϙ u).toNat)
    case atStart=>exact⟨0,by omega,rfl,ψ (λj hj=>by omega),Ym⟩
    case round=>
     obtain⟨fr,bY,rfl,JH,hE⟩:=hrel;obtain⟨wp,rfl⟩:∃wp:Ψ,wp=wr:=⟨_,rfl⟩
     by_cases hf:(fr:Int)<x.aw
     ·have hzp:X.s+3<wp.heap.size:=hE.e.nx.lt
      have ks:Bk wp X.gs 151 #[ξ κ X.b.ab,ζ A1 n1 c1,ζ (φ ad) nb c2,ζ A3 n3 c3,ζ A4 n4 c4,.map (φ X.gm)]:=by
          have:=OK.e.cs.grown hE.e.gr (by simpa using OK.e.ns);rwa[rN.e.1,rN.e.2.1,rN.e.2.2.1,rN.e.2.2.2.1] at this
      have k0:=ks.cell 0;have k1:=ks.cell 1;have k2:=ks.cell 2;have k3:=ks.cell 3;have k4:=ks.cell 4;have k5:=ks.cell 5;have gi: wp.cell? ⟨X.gn,i,ν⟩=φ (ξ κ ln):=by
          have:=(OK.e.cn.grown hE.e.gr (by simpa using OK.e.nn)).cell i
          rw[al.Bo nw,<-tz.e] at this;exact this
      have b1:X.gs<wp.heap.size:=by omega
      have b2:X.gs<=wp.heap.size:=by omega
      have b3:X.gn<wp.heap.size:=by omega
      have b4:X.gn<=wp.heap.size:=by omega
      have BI:(fr:Int)<=1000:=by omega
      have nH:0<=(fr:Int):=by omega
      clear ks;go_wp2;refine Cx 6 (by kernel_rfl) (by kernel_rfl) ?_
      simp only[ù,ú,ý,ĉ];repeat still_step
      refine wpStill_nil ?_
      have bL:X.w.grownBy (wp.alloc (Ϥ #[ϛ ϗ ↑k,ϛ ϗ ↑fr] 56)).drew (φ X.gm):=hE.e.gr.trans (wV wp _ _);have BR:fI (wp.alloc (Ϥ #[ϛ ϗ ↑k,ϛ ϗ ↑fr] 56)).drew X.gm X.b:=hE.e.known.grown (wV wp (Ϥ #[ϛ ϗ ↑k,ϛ ϗ ↑fr] 56) ν) (by simp)
      have call:ύ prog 176 #[η #[ξ κ X.b.ab,ζ A1 n1 c1,ζ (φ ad) nb c2,ζ A3 n3 c3,ζ A4 n4 c4,.map (φ X.gm)],ξ κ i,ξ κ ln,η #[ξ κ k,ξ κ fr]] (wp.alloc (Ϥ #[ϛ ϗ ↑k,ϛ ϗ ↑fr] 56)).drew
           λe w'=>e=Ω (.bool (vS X.b k fr ln p.bears))/\(wp.alloc (Ϥ #[ϛ ϗ ↑k,ϛ ϗ ↑fr] 56)).drew.grownBy w' (φ X.gm)/\fI w' X.gm X.b:=by
          have ai:=OK.e.book.still (K1 bL OK.e.B hB);rw[rN.e.1,rN.e.2.1,rN.e.2.2.1] at ai;exact can (B:=B) ai (by have:=bL.size;have:X.w.heap.size=X.s:=rfl;omega) ⟨_,_,_,rfl⟩ BR OK.e.B HP.e.1 HX.e ⟨nH,BI⟩ Zl HP.e.2 (by omega)
      have aE:=ψ call;have Zi:Ar X.b i (X.n.at i) ⟨k,fr⟩=vS X.b k fr ln p.bears:=by unfold Ar vS;rw[<-tz.e];simp[HP.e.1,HX.e]
      have VJ:=ψ Zi;have aS:Hid (wp.heap.size<(wp.alloc (Ϥ #[ϛ ϗ ↑k,ϛ ϗ ↑fr] 56)).drew.heap.size):=ψ (by simp)
      have Pl:Hid (Bk (wp.alloc (Ϥ #[ϛ ϗ ↑k,ϛ ϗ ↑fr] 56)).drew wp.heap.size 56 #[ξ κ k,ξ κ fr]):=ψ (Bk.new wp _ _);clear call Zi bL BR;cases Gd:vS X.b k fr ln p.bears with
      |false=>
       have NX:Hid (pE X.b X.n (search X.b X.n X.e f) cs k fr=ν):=ψ (by unfold pE sV;rw[<-pY.e.1,VJ.e,Gd];rfl)
       go_wp2_with (first
           | (go_at_call 176;refine aE.e.mono ?_;rintro e w1 ⟨rfl,kW,mS⟩
              have Ln:=ψ (hE.e.grown OK.e ((ϯ wp _ _).trans (acN kW)) mS);clear kW mS))
       go_roundw;case rel=>exact⟨fr+1,by omega,by go_num,ψ (λj hj=>by
           rcases ε.1 hj with h|rfl
           ·exact JH.e j h
           ·exact NX.e),Ln⟩
       case measure=>simp[ϙ];omega
      |true=>
       go_wp2_with (first
           | (go_at_call 176;refine aE.e.mono ?_;rintro e w3 ⟨rfl,kW,mS⟩
              have Ln:=ψ (hE.e.grown OK.e ((ϯ wp _ _).trans (acN kW)) mS);have E7:=ψ (Pl.e.grown kW (by have:=hE.e.known.lt;simp;omega))
              have v0: w3.cell? ⟨X.s+2,0,ν⟩=φ (ζ (φ ⟨X.s+1,0,ν⟩) i n1):=by rw[pY.e.1,<-NP.e];exact Ln.e.lv.cell 0
              clear kW mS))
       have pN:wp.heap.size<w3.heap.size:=E7.e.lt;clear k0 k1 k2 k3 k4 k5 gi;go_loopw [60] (λu wr=>∃j:Nat,j<=i/\u=ξ κ j/\(Hid (∀q,q<j->vv X.b X.n cs i ⟨k,fr⟩ q=θ))/\Hid (DI X cs wr)/\Hid (Bk wr wp.heap.size 56 #[ξ κ k,ξ κ fr])) (λu _=>i - (ϙ u).toNat)
       case atStart=>exact⟨0,Ϡ _,rfl,ψ (λj hj=>by omega),Ln,E7⟩
       case round=>
           obtain⟨j,hj,rfl,F2,hF,dh⟩:=hrel;have qT:X.s+3<wr.heap.size:=hF.e.nx.lt;have hzc:wp.heap.size<wr.heap.size:=dh.e.lt;have avt:wp.heap.size<=wr.heap.size:=by omega
           have b1:X.gs<wr.heap.size:=by omega
           have b2:X.gs<=wr.heap.size:=by omega
           have b3:X.gn<wr.heap.size:=by omega
           have b4:X.gn<=wr.heap.size:=by omega
           have Qp: wr.cell? ⟨wp.heap.size,0,ν⟩=φ (ξ κ k):=dh.e.cell 0;have Qq: wr.cell? ⟨wp.heap.size,1,ν⟩=φ (ξ κ fr):=dh.e.cell 1;by_cases vG:j<i
           ·have ks:Bk wr X.gs 151 #[ξ κ X.b.ab,ζ A1 n1 c1,ζ (φ ad) nb c2,ζ A3 n3 c3,ζ A4 n4 c4,.map (φ X.gm)]:=by
             have:=OK.e.cs.grown hF.e.gr (by simpa using OK.e.ns);rwa[rN.e.1,rN.e.2.1,rN.e.2.2.1,rN.e.2.2.2.1] at this
            have k0:=ks.cell 0;have k1:=ks.cell 1;have k2:=ks.cell 2;have k3:=ks.cell 3;have Jz:j<3:=by omega
            have Y0:(j:Int)<3:=by omega
            have kn:=OK.e.cn.grown hF.e.gr (by simpa using OK.e.nn)
            have gi: wr.cell? ⟨X.gn,i,ν⟩=φ (ξ κ ln):=by
             have:=kn.cell i;rw[al.Bo nw,<-tz.e] at this;exact this
            have gj: wr.cell? ⟨X.gn,j,ν⟩=φ (ξ κ (X.n.at j)):=by
             have:=kn.cell j;rw[al.Bo Jz] at this;exact this
            have kX:=tX (R:=Cut.R) hF.e.arr (λ_=>rfl) (λ_ _=>rfl)
            obtain⟨A8,n8,c8,e8,hl8,-,-,Ed⟩:=kX.Φ;cases e8;obtain⟨ad8,d,cs8,ahe,auv,hd,rfl,-,RH⟩:=Ed j (by rw[<-pY.e.1];exact vG)
            cases ahe;obtain⟨sH,oV⟩:=d;have okd:=pY.e.2.2 _ (ϡ hd);have h0: wr.cell? ⟨X.s+1,j * 2,ν⟩=φ (ξ κ sH):=by have:=RH 0 _ rfl;rwa[uG] at this
            have h1: wr.cell? ⟨X.s+1,j * 2+1,ν⟩=φ (ξ κ oV):=by have:=RH 1 _ rfl;rwa[uG] at this
            have sM:0<=oV/\oV<=40:=okd.from_;have HD:=ψ hd;clear ks kn kX hl8 Ed hd RH okd;have e1:X.s+1<wr.heap.size:=by omega
            go_wp2;refine Cx 11 (by kernel_rfl) (by kernel_rfl) ?_
            simp only[ù,ú,ý,ĉ];repeat still_step
            refine wpStill_nil ?_
            have Yw:vv X.b X.n cs i ⟨k,fr⟩ j=sF X.b.ab ⟨k,fr⟩ ⟨sH,oV⟩ ln (X.n.at j):=by unfold vv;rw[HD.e,tz.e]
            have Io:=ψ Yw;have call:∀W:Ψ,ύ prog 166 #[η #[ξ κ X.b.ab,ζ A1 n1 c1,ζ (φ ad) nb c2,ζ A3 n3 c3],η #[ξ κ k,ξ κ fr],η #[ξ κ sH,ξ κ oV],ξ κ ln,ξ κ (X.n.at j)] W
             λe w'=>e=Ω (.bool (sF X.b.ab ⟨k,fr⟩ ⟨sH,oV⟩ ln (X.n.at j)))/\Γ W.heap.size W w':=λW=>
             apart (c:=⟨k,fr⟩) (d:=⟨sH,oV⟩) ⟨OK.e.valid.ab.1,by have:=OK.e.valid.ab.2;omega⟩ Zl (OK.e.lens j) ⟨nH,BI⟩ ⟨sM.1,by have:=sM.2;show oV<=1000;omega⟩ ⟨_,_,_,rfl⟩ ⟨_,_,_,rfl⟩ ⟨_,_,_,rfl⟩
            have AQ:=ψ call;clear Yw call;cases JE:sF X.b.ab ⟨k,fr⟩ ⟨sH,oV⟩ ln (X.n.at j) with
            |false=>
             have NX:Hid (pE X.b X.n (search X.b X.n X.e f) cs k fr=ν):=ψ (by
              unfold pE;rw[if_neg];unfold sV;rw[<-pY.e.1,LI vG (by rw[Io.e,JE])]
              simp)
             go_wp2_with (first
              | (go_at_call 166;refine(AQ.e _).mono ?_;rintro e w4 ⟨rfl,cx⟩
                 have Pr:=ψ ((hF.e.grown OK.e (wV wr _ _) (hF.e.known.grown (wV wr (Ξ #[ξ κ sH,ξ κ oV] 56) ν) (by simp))).below OK.e cx);clear cx))
             go_roundw;case rel=>exact⟨fr+1,by omega,by go_num,ψ (λj hj=>by
              rcases ε.1 hj with h|rfl
              ·exact JH.e j h
              ·exact NX.e),Pr⟩
             case measure=>simp[ϙ];omega
            |true=>
             go_wp2_with (first
              | (go_at_call 166;refine(AQ.e _).mono ?_;rintro e w4 ⟨rfl,cx⟩
                 have Pr:=ψ ((hF.e.grown OK.e (wV wr _ _) (hF.e.known.grown (wV wr (Ξ #[ξ κ sH,ξ κ oV] 56) ν) (by simp))).below OK.e cx)
                 have HC4:=ψ ((dh.e.grown (wV wr (Ξ #[ξ κ sH,ξ κ oV] 56) ν) (by simp)).below cx (by simp;omega));clear cx))
             go_roundw;case rel=>exact⟨j+1,by omega,by go_num,ψ (λq hq=>by
              rcases ε.1 hq with h|rfl
              ·exact F2.e q h
              ·rw[Io.e,JE]),Pr,HC4⟩
             case measure=>simp[ϙ];omega
           ·obtain rfl:j=i:=by omega
            have VQ:Hid (sV X.b X.n cs ⟨k,fr⟩=θ):=ψ (by
             unfold sV;rw[<-pY.e.1,VJ.e,Gd,pJ.2 F2.e];rfl)
            have v0: wr.cell? ⟨X.s+2,0,ν⟩=φ (ζ (φ ⟨X.s+1,0,ν⟩) j n1):=by rw[pY.e.1,<-NP.e];exact hF.e.lv.cell 0
            have e2:X.s+2<wr.heap.size:=by omega
            have Xw:X.s+2<=wr.heap.size:=by omega
            have VR:Hid (wr.ownsRow (X.s+1) 56 2 (ζ (φ ⟨X.s+1,0,ν⟩) j n1) j (cs.flatMap Cut.vs)):=ψ (by rw[pY.e.1,<-NP.e];exact hF.e.arr)
            have VE:Hid (∀c∈cs++ [(⟨k,fr⟩:Cut)],vk X.b c):=ψ (λc hc=>by
             rcases È.1 hc with hc|hc
             ·exact pY.e.2.2 c hc
             ·simp at hc;subst hc;exact⟨⟨k,rfl,by have:=rN.e.2.2.2.2.2;omega⟩,by show 0<=(fr:Int)/\(fr:Int)<=40;omega⟩)
            clear F2;cases hs:search X.b X.n X.e f (cs++ [⟨k,fr⟩]) with
            |none=>
             have NX:Hid (pE X.b X.n (search X.b X.n X.e f) cs k fr=ν):=ψ (by unfold pE;rw[VQ.e,if_pos rfl,hs])
             go_wp2_with (first
              | (at_builtin
                 refine wpList_append_fits _ rfl (.tmp 79) (.tmp 81) 27 rfl (X.s+1) 56 i56 2 (U Tryz.underlying27) Lp.e.1 Lp.e.2 (X.s+1) j n1 _ rfl (VR.e.alloc _) ⟨wr.heap.size,0,ν⟩ 1 1 [ξ κ k,ξ κ fr] rfl rfl ?c1 ?c2 ?c3 ?_
                 case c1=>(intro q u hu;match q,hu with|0,hu=>(simp at hu;subst hu;simp[go_sem,Ā]) |1,hu=>(simp at hu;subst hu;simp[go_sem,Ā]))
                 case c2=>simp[Value.oneCell']
                 case c3=>omega
                 intro W1 cO kW;have PD:Hid (DI X (cs++ [⟨k,fr⟩]) (W1.setCell ⟨X.s+2,0,ν⟩ (ζ (φ ⟨X.s+1,0,ν⟩) (j+1) n1))):=ψ (by
                  have:=DI.push (c:=⟨k,fr⟩) OK.e hF.e (by rw[<-pY.e.1,NP.e];exact cO) kW
                  rwa[<-pY.e.1,NP.e] at this)
                 have BJ:=(ϯ wr (Ξ #[ξ κ k,ξ κ fr] 56) (φ (X.s+1))).trans kW;have uT:=hF.e.lv.grown BJ (by simp)
                 have JK:=hF.e.nx.grown BJ (by simp)
                 have v0: W1.cell? ⟨X.s+2,0,ν⟩=φ (ζ (φ ⟨X.s+1,0,ν⟩) j n1):=by rw[pY.e.1,<-NP.e];exact uT.cell 0
                 have v1:=uT.frozen 0;have x0: W1.cell? ⟨X.s+3,0,ν⟩=φ (.func (.func 175) #[] #[π (φ ⟨X.s+2,0,ν⟩),π (φ ⟨X.gs,0,ν⟩),π (φ ⟨X.s,0,ν⟩),π (φ ⟨X.go,0,ν⟩),π (φ ⟨X.gn,0,ν⟩),π (φ ⟨X.s+3,0,ν⟩)]):=by rw[<-Ll.e];exact JK.cell 0
                 have Il:=ψ (IH.e (cs++ [⟨k,fr⟩]) _ (by have:=pY.e.2.1;simp;omega) VE.e PD.e)
                 rw[Ll.e,hs] at Il;clear cO kW BJ uT JK)
              | (go_at_call 175;refine Il.e.mono ?_;rintro e w6 (⟨full,hr,-,-⟩ | ⟨-,rfl,hd⟩)
                 ·cases hr
                 have v0: w6.cell? ⟨X.s+2,0,ν⟩=φ (ζ (φ ⟨X.s+1,0,ν⟩) (j+1) n1):=by have:=hd.lv.cell 0;rw[Ę,Af7,<-pY.e.1,NP.e] at this;exact this
                 have v1:=hd.lv.frozen 0;have oj:=ψ (hd.back OK.e);rw[<-pY.e.1,NP.e] at oj;clear hd))
             go_roundw;case rel=>exact⟨fr+1,by omega,by go_num,ψ (λq hq=>by
              rcases ε.1 hq with h|rfl
              ·exact JH.e q h
              ·exact NX.e),oj⟩
             case measure=>simp[ϙ];omega
            |some full=>
             have adv:Hid (search X.b X.n X.e (f+1) cs=φ full):=ψ (aip (k:=k) (fr:=fr) (by have:=rN.e.2.2.2.2.2;omega) br.e ho (by rw[VK.e];omega) JH.e (by unfold pE;rw[VQ.e,if_pos rfl,hs]))
             go_wp2_with (first
              | (at_builtin
                 refine wpList_append_fits _ rfl (.tmp 79) (.tmp 81) 27 rfl (X.s+1) 56 i56 2 (U Tryz.underlying27) Lp.e.1 Lp.e.2 (X.s+1) j n1 _ rfl (VR.e.alloc _) ⟨wr.heap.size,0,ν⟩ 1 1 [ξ κ k,ξ κ fr] rfl rfl ?c1 ?c2 ?c3 ?_
                 case c1=>(intro q u hu;match q,hu with|0,hu=>(simp at hu;subst hu;simp[go_sem,Ā]) |1,hu=>(simp at hu;subst hu;simp[go_sem,Ā]))
                 case c2=>simp[Value.oneCell']
                 case c3=>omega
                 intro W1 cO kW;have PD:Hid (DI X (cs++ [⟨k,fr⟩]) (W1.setCell ⟨X.s+2,0,ν⟩ (ζ (φ ⟨X.s+1,0,ν⟩) (j+1) n1))):=ψ (by
                  have:=DI.push (c:=⟨k,fr⟩) OK.e hF.e (by rw[<-pY.e.1,NP.e];exact cO) kW
                  rwa[<-pY.e.1,NP.e] at this)
                 have BJ:=(ϯ wr (Ξ #[ξ κ k,ξ κ fr] 56) (φ (X.s+1))).trans kW;have uT:=hF.e.lv.grown BJ (by simp)
                 have JK:=hF.e.nx.grown BJ (by simp)
                 have v0: W1.cell? ⟨X.s+2,0,ν⟩=φ (ζ (φ ⟨X.s+1,0,ν⟩) j n1):=by rw[pY.e.1,<-NP.e];exact uT.cell 0
                 have v1:=uT.frozen 0;have x0: W1.cell? ⟨X.s+3,0,ν⟩=φ (.func (.func 175) #[] #[π (φ ⟨X.s+2,0,ν⟩),π (φ ⟨X.gs,0,ν⟩),π (φ ⟨X.s,0,ν⟩),π (φ ⟨X.go,0,ν⟩),π (φ ⟨X.gn,0,ν⟩),π (φ ⟨X.s+3,0,ν⟩)]):=by rw[<-Ll.e];exact JK.cell 0
                 have Il:=ψ (IH.e (cs++ [⟨k,fr⟩]) _ (by have:=pY.e.2.1;simp;omega) VE.e PD.e)
                 rw[Ll.e,hs] at Il;clear cO kW BJ uT JK)
              | (go_at_call 175;refine Il.e.mono ?_;rintro e w6 (⟨X5,hr,rfl,hz⟩ | ⟨hr,-,-⟩)
                 rotate_left
                 ·cases hr
                 cases hr;obtain⟨i6,Sf⟩:=HZ.e.lv _ _ hz;have v0: w6.cell? ⟨X.s+2,0,ν⟩=φ (ζ (φ ⟨X.s+1,0,ν⟩) i6 n1):=by have:=Sf.cell 0;rw[NP.e] at this;exact this
                 have v1:=Sf.frozen 0;have VV:=ψ (HZ.e.set full w6 j hz);rw[NP.e] at VV;clear hz Sf))
             rw[Exit.noGoto_ret];go_ret;exact .inl ⟨full,adv.e,cj rfl,VV.e⟩
     ·have yn:(fr:Int)=x.aw:=by omega
      have NX:Hid (tZ X.b X.n X.e (search X.b X.n X.e f) cs k=ν):=ψ (by
          unfold tZ;rw[ho,if_neg (by simp)]
          exact Dt.2 (λj hj=>JH.e j (by rw[VK.e] at hj;omega)))
      clear yn;go_wp2;go_roundw;case rel=>exact⟨k+1,by omega,by go_num,ψ (λq hq=>by
          rcases ε.1 hq with h|rfl
          ·exact br.e q h
          ·exact NX.e),hE⟩
      case measure=>simp[ϙ];omega
  ·obtain rfl:k=nb:=by omega
   go_wp2;go_ret;exact .inr ⟨by unfold search;rw[rN.e.2.2.2.2.2];exact Dt.2 br.e,cj rfl,hD.e⟩
def abZ{X:cS}{B:Nat}(ok:X.Ok B)(hB:B<=X.s){Z:List Cut->Ψ->Prop}(hZ:Fi X Z):∀(f:Nat) (cs:List Cut) (W:Ψ),cs.length+f=X.np->(∀c∈cs,vk X.b c)->DI X cs W->ύ prog 175 X.args W (LB X Z cs (search X.b X.n X.e f cs))
 |0,cs,W,hc,_,h=>ark ok hZ (by omega) h
 |f+1,cs,W,hc,mR,h=>arl ok hB hZ (abZ ok hB hZ f) hc mR h
def alV:(prog.info? 56).map (λi=>(i.zero,i.size,i.bytes))=φ (φ (η #[ξ κ 0,ξ κ 0]),2,16):=by
 rw[v8];kernel_rfl
def Xq{X:cS}(ok:X.Ok B)(hB:B<=X.s){Z:List Cut->Ψ->Prop}(hZ:Fi X Z)(hk:fI X.w X.gm X.b):
 ύ prog 174 #[.func (.yield X.l) #[] #[],π (φ ⟨X.gs,0,ν⟩),π (φ ⟨X.go,0,ν⟩),π (φ ⟨X.gn,0,ν⟩)] X.w λe W'=>
  (∃v,e=Ω v)/\((∃full,search X.b X.n X.e X.np []=φ full/\Z full W')\/(search X.b X.n X.e X.np []=ν/\DI X [] W')):=by
 obtain⟨A1,n1,c1,vJ,e1,h1,jx,-⟩:=ok.book.pieces.Φ;have hn:=ok.valid.np;have ks:=ok.cs;rw[vJ] at ks;have s1: X.w.cell? ⟨X.gs,1,ν⟩=φ (ζ A1 n1 c1):=ks.cell 1;have hgs:=ok.s;have F9:=ok.gm;have hs:X.w.heap.size=X.s:=rfl;have b1:X.gs<X.w.heap.size:=by omega
 have b2:X.gs<=X.w.heap.size:=by omega
 obtain⟨i0,di,dp,aS,bu⟩:=Ğ alV;have au6:1<=n1/\n1<=3:=by omega
 have Ge:∀w:Ψ,(Instr.makeSlice 27 (ξ κ 0) (ξ κ n1)).run prog w=.ok (ζ (φ ⟨w.heap.size,0,ν⟩) 0 n1) (w.alloc (.cells (madeCells [ξ κ 0,ξ κ 0].toArray (n1 * 2)) 56)):=λw=>by
  have hr:=run_makeSlice (P:=prog) w 27 56 i0 _ (U Tryz.underlying27) di dp .i64 .i64 0 n1 (Int.le_refl _) (by omega) (by rw[aS];omega) (by rw[bu];omega) (by omega)
  rw[aS] at hr;simpa [Value.cells] using hr
 obtain⟨mc,JG⟩:∃mc,mc=madeCells [ξ κ 0,ξ κ 0].toArray (n1 * 2):=⟨_,rfl⟩
 rw[<-JG] at Ge;have Zs:mc.size=n1 * 2:=by rw[JG];exact size_madeCells _ _
 have sU:X.np=n1:=by unfold cS.np;exact e1
 have YM:DI X [] ((((X.w.alloc (Ξ #[.func (.yield X.l) #[] #[]] 139)).alloc (.cells mc 56)).alloc (Ξ #[ζ (φ ⟨X.w.heap.size+1,0,ν⟩) 0 n1] 27)).alloc (Ξ #[.func (.func 175) #[] #[π (φ ⟨X.w.heap.size+1+1,0,ν⟩),π (φ ⟨X.gs,0,ν⟩),π (φ ⟨X.w.heap.size,0,ν⟩),π (φ ⟨X.go,0,ν⟩),π (φ ⟨X.gn,0,ν⟩),π (φ ⟨X.w.heap.size+1+1+1,0,ν⟩)]] 29)):=by
  refine⟨(((Bk.cD rfl _ _).alloc _).alloc _).alloc _,?_,?_,Bk.cD (by simp[cS.s]) _ _,?_,?_⟩
  ·refine⟨rfl,.inr ⟨X.s+1,n1,mc,(by rw[sU];try rfl),ϊ _,sG (sG (Bd (by simp[cS.s]))),Ϡ _,by unfold ϕ;omega,Zs,by simp⟩⟩
  ·rw[sU];exact(Bk.cD (by simp[cS.s]) _ _).alloc _
  ·exact((((ϯ _ _ _).trans (ϯ _ _ _)).trans (ϯ _ _ _)).trans (ϯ _ _ _))
  ·have:=hk
   exact(((this.grown (ϯ _ _ ν) (by simp)).grown (ϯ _ _ ν) (by simp)).grown (ϯ _ _ ν) (by simp)).grown (ϯ _ _ ν) (by simp)
 have call:=abZ ok hB hZ X.np [] _ (by simp) (by simp) YM
 have F4:X.args=#[π (φ ⟨X.w.heap.size+1+1,0,ν⟩),π (φ ⟨X.gs,0,ν⟩),π (φ ⟨X.w.heap.size,0,ν⟩),π (φ ⟨X.go,0,ν⟩),π (φ ⟨X.gn,0,ν⟩),π (φ ⟨X.w.heap.size+1+1+1,0,ν⟩)]:=rfl;rw[F4] at call;have call2:=call.mono (R':=λe W'=>(∃bb:Bool,e=Ω (.bool bb))/\Hid ((∃full,search X.b X.n X.e X.np []=φ full/\Z full W')\/(search X.b X.n X.e X.np []=ν/\DI X [] W'))) (by
  rintro e W' (⟨full,h1,h2,h3⟩ | ⟨h1,h2,h3⟩)
  ·exact⟨⟨_,h2⟩,ψ (.inl ⟨full,h1,h3⟩)⟩
  ·exact⟨⟨_,h2⟩,ψ (.inr ⟨h1,h3⟩)⟩)
 have aE:=ψ call2;clear JG Zs sU YM call call2 F4;have OK:=ψ ok;have HZ:=ψ hZ;have HK:=ψ hk;have E1:=ψ e1;clear ok hZ hk e1 vJ ks di dp aS bu hs hn;go_enter func174,Tryz.ntmps174;go_wp2_with (first
  | (go_at_call 175;refine aE.e.mono ?_;rintro e w1 ⟨⟨bb,rfl⟩,Ea⟩))
 go_end0
 exact⟨⟨_,rfl⟩,Ea.e⟩
def alY:(prog.info? 56).map (λi=>(i.zero,i.size,i.bytes))=φ (φ (η #[ξ κ 0,ξ κ 0]),2,16):=by
 rw[v8];kernel_rfl
def af7(hl:news.length=n * 2)(hc:∀j u,news[j]?=φ u-> w.cell? (ad.add j)=φ u)(h1:∀u∈news,u.oneCell'=θ)(hn:n<=1000000)(aD:ad.block<w.heap.size):
 ύ prog 201 #[ζ (φ ad) n c] w λe w'=>∃v,e=Ω v/\w'.ownsRow w.heap.size 56 2 v n news/\Γ w.heap.size w w':=by
 obtain⟨i0,di,dp,aS,bu⟩:=Ğ alY;have cP:=ψ (Ϗ di (Ϗ dp (Ϗ aS bu)));have HC:Hid (∀j u,news[j]?=φ u->(w.alloc (Ξ #[] 56)).cell? (ad.add j)=φ u):=ψ (λj u hu=>(Ĉ w _ _ (by rw[cq];exact aD)).trans (hc j u hu))
 have HL:=ψ (Ϗ hl h1);have HO:Hid ((w.alloc (Ξ #[] 56)).ownsRow w.heap.size 56 2 (ζ (φ ⟨w.heap.size,0,ν⟩) 0 0) 0 []):=ψ ⟨rfl,.inr ⟨w.heap.size,0,#[],rfl,ϊ _,š w _,ϊ _,by unfold ϕ;omega,rfl,rfl⟩⟩
 clear hl hc h1 di dp aS bu;have q:∀(w:Ψ) (a:Option ϖ) (n c n' c':Nat),(binOp .eql 27 (ζ a n c) (ζ ν n' c')).run prog w=.ok (.bool a.isNone) w:=λw a n c n' c'=>ī w _ _ a n c n' c' (U Tryz.underlying27)
 go_enter func201,Tryz.ntmps201;go_wp2_with (first
  | (at_builtin
     refine Ī _ rfl (.tmp 5) (.tmp 6) 27 rfl w.heap.size 56 i0 (η #[ξ κ 0,ξ κ 0]) 2 16 (U Tryz.underlying27) cP.e.1 cP.e.2.1 cP.e.2.2.1 cP.e.2.2.2 rfl (by decide) _ 0 _ rfl HO.e ad n c news rfl HL.e.1 HC.e HL.e.2 ?c3 ?c4 ?c5 ?_
     case c3=>(simp only[ϕ];omega)
     case c4=>omega
     case c5=>simp
     intro v' w1 cO fO _;have oo:=ψ cO;have om:=ψ fO;clear cO fO))
 go_ret;refine⟨_,rfl,by have:=oo.e;rwa[Ũ,þ] at this,((ώ _ _).alloc (ϊ _) _).grown om.e (by simp) (λk hk=>kY HO.e k hk)⟩
def cS.Ok.alloc{X:cS}{B:Nat}(ok:X.Ok B)(hB:B<=X.w.heap.size)(o:Obj):cS.Ok {X with w:=X.w.alloc o} B where
 book:=ok.book.still ((Δ.refl _).alloc hB o)
 valid:=ok.valid
 lens:=ok.lens
 sv:=ok.sv
 B:=ok.B
 s:=by have:=ok.s;simp[cS.s] at this |-;omega
 o:=by have:=ok.o;simp[cS.s] at this |-;omega
 gn:=by have:=ok.gn;simp[cS.s] at this |-;omega
 gm:=by have:=ok.gm;simp[cS.s] at this |-;omega
 ns:=ok.ns
 no:=ok.no
 nn:=ok.nn
 cs:=ok.cs.alloc o
 co:=ok.co.alloc o
 cn:=ok.cn.alloc o
 eg:=ok.eg
 e:=λk W hk hg=>ok.e k W hk ((ϯ X.w o _).trans hg)
def cS.Ok.Wr{X:cS}(ok:X.Ok B)(l:Nat):cS.Ok {X with l:=l} B:=⟨ok.book,ok.valid,ok.lens,ok.sv,ok.B,ok.s,ok.o,ok.gn,ok.gm,ok.ns,ok.no,ok.nn,ok.cs,ok.co,ok.cn,ok.eg,ok.e⟩
end Go.Tw
namespace Go.Tw
variable [Go.Tw.aJ]
open Go Go.Proofs Go.RowKit
attribute [local go_sem] EY EX Oper.semAt_some
structure FZ(w0:Ψ)(gm:Nat)(b:an)(rc:Loop)(np:Nat)(full:List Cut)(W:Ψ):Prop where
 r0:∃v,Bk W w0.heap.size 27 #[v]/\W.ownsRow (w0.heap.size+8) 56 2 v np (full.flatMap Cut.vs)
 r1:Bk W (w0.heap.size+1) 4 #[.bool θ]
 d:W.heap[w0.heap.size+2]?=φ (.deferred (φ []))
 l:W.heap[w0.heap.size+3]?=φ (.loop {rc with state:=.done,pending:=φ .ret})
 lv:∃i,Bk W (w0.heap.size+4+2) 27 #[ζ (φ ⟨w0.heap.size+4+1,0,ν⟩) i np]
 gr:w0.grownBy W (φ gm)
 known:fI W gm b
def Kh(h:fI W g b)(hp:g≠p.block):fI (W.setCell p u) g b:=by
 obtain⟨es,clock,h1,h2⟩:=h;exact⟨es,clock,(Ú _ _ _ _ hp).trans h1,h2⟩
def FZ.set{w0:Ψ}{gm:Nat}{b:an}{rc:Loop}{np:Nat}{full:List Cut}{W:Ψ}(h:FZ w0 gm b rc np full W)(F9:gm<w0.heap.size)(i:Nat):FZ w0 gm b rc np full (W.setCell ⟨w0.heap.size+4+2,0,ν⟩ (ζ (φ ⟨w0.heap.size+4+1,0,ν⟩) i np)):=by
 obtain⟨v,v1,v2⟩:=h.r0;obtain⟨i',hi⟩:=h.lv;exact⟨⟨v,v1.fS (by simp;omega) _,sZ v2 (by simp)⟩,h.r1.fS (by simp) _,(Ú _ _ _ _ (by simp)).trans h.d,(Ú _ _ _ _ (by simp)).trans h.l,⟨i,hi.set 0 _⟩,Dw h.gr (by simp;omega),Kh h.known (by simp;omega)⟩
def ady(X:cS)(e:ņ)(W':Ψ):Prop:=
 ((∃full v,search X.b X.n X.e X.np []=φ full/\e=Ω (μ #[v,.bool θ])/\W'.ownsRow X.w.heap.size 56 2 v X.np (full.flatMap Cut.vs))\/(search X.b X.n X.e X.np []=ν/\e=Ω (μ #[ζ ν 0 0,.bool χ])))/\
 X.w.grownBy W' (φ X.gm)/\fI W' X.gm X.b
def Kx{base:Nat}{sz:Nat}(h:w.ownsRow base e sz (ζ (φ ⟨g,0,ν⟩) n cap) n xs):∀j u,xs[j]?=φ u-> w.cell? ((⟨g,0,ν⟩:ϖ).add j)=φ u:=by
 intro j u hu;rcases h.2 with⟨h0,_⟩ | ⟨g',Di,cur,h1,h2,h3,h4,h5,h6,h7⟩
 ·cases h0
 ·cases h1
  rw[uG];refine(cell_of_row w g j cur _ (0,0) h3).trans ?_
  rw[<-h7,List.getElem?_take] at hu
  split at hu
  ·rw[<-Ĩ];exact hu
  ·cases hu
def agJ(l:List Cut):∀u∈l.flatMap Cut.vs,u.oneCell'=θ:=by
 intro u hu;simp only[Ah0,Cut.vs,List.mem_cons,List.not_mem_nil,or_false] at hu;obtain⟨c,_,rfl|rfl⟩:=hu<;>rfl
def XL{X:cS}(ok:X.Ok B)(hB:B<=X.w.heap.size)(hk:fI X.w X.gm X.b):
 ύ prog 170 #[fv 174 #[π (φ ⟨X.gs,0,ν⟩),π (φ ⟨X.go,0,ν⟩),π (φ ⟨X.gn,0,ν⟩)]] X.w (ady X):=by
 refine(callsIn_wide (n:=0)).1 ?_
 have F9:=ok.gm;have hs:X.s=X.w.heap.size:=rfl;have auP:X.gm<X.w.heap.size:=F9;have OK:=ψ ok;have HK:=ψ hk;have sd:1<=X.np/\X.np<=3:=ok.valid.np;clear ok hk;refine callsIn_of_wp_marks func170 rfl trivial ?_
 simp only[Tryz.ntmps170,ŕ,Ď,Ŗ,ķ,Ř,œ,Ŕ,ŗ,İ,þ,Ĵ]
 gi_wp2
 refine T7 (gf:=174) (pre:=#[]) (lb:=#[π (φ ⟨X.gs,0,ν⟩),π (φ ⟨X.go,0,ν⟩),π (φ ⟨X.gn,0,ν⟩)]) rfl call174 λfn rc nX=>?_
 simp only[Ahr,Nat.add_assoc,ķ,İ,Ĵ,þ,Ť];obtain⟨W1,fJ⟩:∃W1,W1=(((X.w.alloc (Ϥ #[Value.slice ν 0 0] 27)).alloc (Ϥ #[Value.bool χ] 4)).alloc (Obj.deferred (φ []))).alloc (Obj.loop rc):=⟨_,rfl⟩
 have Gg:=((((OK.e.alloc hB (Ξ #[ζ ν 0 0] 27)).alloc (by simp;omega) (Ξ #[.bool χ] 4)).alloc (by simp;omega) (.deferred (φ []))).alloc (by simp;omega) (.loop rc)).Wr (X.w.heap.size+3)
 have Rm:W1.heap.size=X.w.heap.size+4:=by rw[fJ];simp
 have D1:W1.heap[X.w.heap.size+3]?=φ (.loop rc):=by rw[fJ];exact Bd (by simp)
 have ql:W1.heap[X.w.heap.size+2]?=φ (.deferred (φ [])):=by rw[fJ];exact sG (Bd (by simp))
 have k0:Bk W1 X.w.heap.size 27 #[ζ ν 0 0]:=by rw[fJ];exact(((Bk.new _ _ _).alloc _).alloc _).alloc _
 have k1:Bk W1 (X.w.heap.size+1) 4 #[.bool χ]:=by rw[fJ];exact((Bk.cD (by simp) _ _).alloc _).alloc _
 have kW:X.w.grownBy W1 (φ X.gm):=by rw[fJ];exact(((ϯ _ _ _).trans (ϯ _ _ _)).trans (ϯ _ _ _)).trans (ϯ _ _ _)
 have mS:fI W1 X.gm X.b:=HK.e.grown (row:=ν) (by rw[fJ];exact(((ϯ _ _ _).trans (ϯ _ _ _)).trans (ϯ _ _ _)).trans (ϯ _ _ _)) (by simp)
 rw[<-fJ] at Gg |-
 clear fJ;obtain⟨X1,nG⟩:∃X1:cS,X1={X with w:=W1,l:=X.w.heap.size+3}:=⟨_,rfl⟩
 have cE:X1.Ok B:=by rw[nG];exact Gg
 have e0:X1.s=X.w.heap.size+4:=by rw[nG];exact Rm
 have hZ:Fi X1 (FZ X.w X.gm X.b rc X.np):=by
  refine⟨λfull W hz=>?_,λfull W i hz=>?_,?yr⟩
  ·obtain⟨i,hi⟩:=hz.lv
   rw[e0,show X1.np=X.np by rw[nG];rfl];exact⟨i,hi⟩
  ·rw[e0,show X1.np=X.np by rw[nG];rfl];exact hz.set (by rw[<-hs];exact F9) i
  ·intro m full W hlen hD
   have D6:X1.np=X.np:=by rw[nG];rfl
   have RY:X1.gm=X.gm:=by rw[nG]
   have El:X1.w=W1:=by rw[nG]
   have ag:X1.b=X.b:=by rw[nG]
   have Zb:X1.l=X.w.heap.size+3:=by rw[nG]
   have gX:=hD.gr;rw[El,RY] at gX;have uS:W.heap[X.w.heap.size+3]?=φ (.loop rc):=(gX.block _ (by omega) (by simp;omega)).trans D1
   have mJ:W.heap[X.w.heap.size+2]?=φ (.deferred (φ [])):=(gX.block _ (by omega) (by simp;omega)).trans ql
   have Ke:Bk W X.w.heap.size 27 #[ζ ν 0 0]:=k0.grown gX (by simp;omega)
   have Ao:Bk W (X.w.heap.size+1) 4 #[.bool χ]:=k1.grown gX (by simp;omega)
   have uT:Bk W (X.w.heap.size+4+2) 27 #[ζ (φ ⟨X.w.heap.size+4+1,0,ν⟩) X.np X.np]:=by have:=hD.lv;rw[e0,hlen,D6] at this;exact this
   have F5:W.ownsRow (X.w.heap.size+4+1) 56 2 (ζ (φ ⟨X.w.heap.size+4+1,0,ν⟩) X.np X.np) X.np (full.flatMap Cut.vs):=by have:=hD.arr;rw[e0,hlen,D6] at this;exact this
   have cM:fI W X.gm X.b:=by have:=hD.known;rw[RY,ag] at this;exact this
   have vQ:X.w.heap.size+4+3<W.heap.size:=by have:=hD.nx.lt;rw[e0] at this;exact this
   rw[Zb,e0,D6];refine Vc (n:=0) nX uS rfl ?_
   gi_wp2
   refine⟨_,Qf nX uS,?_⟩
   obtain⟨Wb,wW⟩:∃Wb,Wb=W.putObj (X.w.heap.size+3) (.loop {rc with state:=.busy}):=⟨_,rfl⟩
   rw[<-wW];have rA:∀g,g≠X.w.heap.size+3->Wb.heap[g]?=W.heap[g]?:=λg hg=>by rw[wW];exact À hg
   have Aa:Wb.heap[X.w.heap.size+3]?=φ (.loop {rc with state:=.busy}):=by rw[wW];exact Ň (by omega)
   have Eg:Wb.heap.size=W.heap.size:=by rw[wW];simp
   have DX:X.w.grownBy Wb (φ X.gm):=by
    rw[wW];exact Dv (kW.trans gX) (ĩ W _ _) (λg e=>by cases e;omega)
   have ny:fI Wb X.gm X.b:=by
    obtain⟨es,clock,h1,h2⟩:=cM;exact⟨es,clock,(rA _ (by omega)).trans h1,h2⟩
   have kb0:Bk Wb X.w.heap.size 27 #[ζ ν 0 0]:=(rA _ (by omega)).trans Ke
   have kb1:Bk Wb (X.w.heap.size+1) 4 #[.bool χ]:=(rA _ (by omega)).trans Ao
   have YK:Wb.heap[X.w.heap.size+2]?=φ (.deferred (φ [])):=(rA _ (by omega)).trans mJ
   have Zp:Bk Wb (X.w.heap.size+4+2) 27 #[ζ (φ ⟨X.w.heap.size+4+1,0,ν⟩) X.np X.np]:=(rA _ (by omega)).trans uT
   have hab:Wb.ownsRow (X.w.heap.size+4+1) 56 2 (ζ (φ ⟨X.w.heap.size+4+1,0,ν⟩) X.np X.np) X.np (full.flatMap Cut.vs):=by
    rw[wW];exact Kz F5 (by omega)
   have Zh:full.length=X.np:=hlen.trans D6;have kX:=tX (R:=Cut.R) (f:=Cut.vs) (l:=full) (by rw[Zh];exact hab) (λ_=>rfl) (λ_ _=>rfl)
   have MR:∀j u,(full.flatMap Cut.vs)[j]?=φ u-> Wb.cell? ((⟨X.w.heap.size+4+1,0,ν⟩:ϖ).add j)=φ u:=λj u hu=>Kx hab j u hu
   have Gi:∀u∈full.flatMap Cut.vs,u.oneCell'=θ:=agJ full
   have Gf:(full.flatMap Cut.vs).length=X.np * 2:=hab.1;have aE:=ψ (af7 (n:=X.np) (c:=X.np) Gf MR Gi (by omega) (by simp;omega))
   have FR:=ψ (Ϗ DX (Ϗ ny (Ϗ kb0 (Ϗ kb1 (Ϗ YK (Ϗ Zp Aa))))));clear wW rA hab kX MR Gi Gf DX ny kb0 kb1 YK Zp Aa uS mJ Ke Ao uT F5 cM gX hD nG cE Gg Zh hlen D6 RY El ag Zb e0 k0 k1 kW mS D1 ql Rm hs
   gi_wp2_with (first
    | (gi_at_call 201;refine(callsIn_wide.2 aE.e).mono ?_;rintro e w1 ⟨v,rfl,aK,ag⟩
       obtain⟨A9,m9,c9,rfl⟩:=qx aK;have q0:Bk w1 X.w.heap.size 27 #[ζ ν 0 0]:=FR.e.2.2.1.below ag (by omega)
       have q1:Bk w1 (X.w.heap.size+1) 4 #[.bool χ]:=FR.e.2.2.2.1.below ag (by omega)
       have r0: w1.cell? ⟨X.w.heap.size,0,ν⟩=φ (ζ ν 0 0):=q0.cell 0;have z0:=q0.frozen 0;have r1: w1.cell? ⟨X.w.heap.size+1,0,ν⟩=φ (.bool χ):=q1.cell 0;have z1:=q1.frozen 0;have zt:=ψ (Ϗ aK (Ϗ ag (Ϗ q0 q1)));clear aK ag q0 q1))
   have hzb:X.w.heap.size+7<Wb.heap.size:=by omega
   have aS:=zt.e.2.1.size;refine⟨_,_,Xv .ret ((Ú _ _ _ _ (by simp)).trans ((Ú _ _ _ _ (by simp)).trans ((zt.e.2.1.block _ (by omega)).trans FR.e.2.2.2.2.2.2))),rfl,?_⟩
   refine⟨⟨_,(À (by omega)).trans ((zt.e.2.2.1.set 0 _).fS (by simp) _),Kz (sZ (sZ (zt.e.1.base (by omega)) (by simp)) (by simp)) (by omega)⟩,
    (À (by omega)).trans ((zt.e.2.2.2.fS (by simp) _).set 0 _),(À (by omega)).trans ((Ú _ _ _ _ (by simp)).trans ((Ú _ _ _ _ (by simp)).trans ((zt.e.2.1.block _ (by omega)).trans FR.e.2.2.2.2.1))),
    Ň (by simp[î];omega),⟨_,(À (by omega)).trans (((FR.e.2.2.2.2.2.1.below zt.e.2.1 (by omega)).fS (by simp;omega) _).fS (by simp) _)⟩,?_,?_⟩
   ·exact Dv (Dw (Dw (FR.e.1.trans (py zt.e.2.1 (ϊ _) _)) (by simp)) (by simp)) (ĩ _ _ _) (λg e=>by cases e;omega)
   ·have pA:=Kh (u:=.bool θ) (p:=⟨X.w.heap.size+1,0,ν⟩) (Kh (u:=ζ A9 m9 c9) (p:=⟨X.w.heap.size,0,ν⟩) (FR.e.2.1.below zt.e.2.1 FR.e.2.1.lt) (by simp;omega)) (by simp;omega)
    obtain⟨es,clock,h1,h2⟩:=pA;exact⟨es,clock,(À (by omega)).trans h1,h2⟩
 have call:=Xq cE (by rw[e0];omega) hZ (by rw[nG];exact mS)
 rw[show X1.l=X.w.heap.size+3 by rw[nG],show X1.gs=X.gs by rw[nG],show X1.go=X.go by rw[nG],show X1.gn=X.gn by rw[nG],show X1.w=W1 by rw[nG],show X1.b=X.b by rw[nG],show X1.n=X.n by rw[nG],show X1.e=X.e by rw[nG],show X1.np=X.np by rw[nG];rfl] at call
 refine(callsIn_wide.2 call).mono ?_
 rintro e W2 ⟨⟨v,rfl⟩,(⟨full,Ak,hz⟩ | ⟨Ak,hD⟩)⟩
 ·have HZ:=ψ hz
  have HS:=ψ Ak;obtain⟨v2,v21,v22⟩:=hz.r0;obtain⟨A9,m9,c9,rfl⟩:=qx v22;refine⟨φ .ret,_,Xz hz.l,?_⟩
  obtain⟨W3,fT⟩:∃W3,W3=W2.putObj (X.w.heap.size+3) (.loop {rc with state:=.exhausted,pending:=φ .ret}):=⟨_,rfl⟩
  have q0:Bk W3 X.w.heap.size 27 #[ζ A9 m9 c9]:=by rw[fT];exact(À (by omega)).trans v21
  have q1:Bk W3 (X.w.heap.size+1) 4 #[.bool θ]:=by rw[fT];exact(À (by omega)).trans hz.r1
  have Pq:Hid (W3.heap[X.w.heap.size+2]?=φ (.deferred (φ []))):=ψ (by rw[fT];exact(À (by omega)).trans hz.d)
  have oR:Hid (X.w.grownBy W3 (φ X.gm)/\fI W3 X.gm X.b/\W3.ownsRow (X.w.heap.size+8) 56 2 (ζ A9 m9 c9) X.np (full.flatMap Cut.vs)):=ψ (by
   rw[fT];refine⟨Dv hz.gr (ĩ _ _ _) (λg e=>by cases e;omega),?_,Kz v22 (by omega)⟩
   obtain⟨es,clock,h1,h2⟩:=hz.known;exact⟨es,clock,(À (by omega)).trans h1,h2⟩)
  have Q:=ψ (Ϗ q0 q1);have dp:X.w.heap.size+1<W3.heap.size:=q1.lt;rw[<-fT];clear fT hz v21 v22 Ak q0 q1;show Code.wpIn ò 0 prog Code.ret _ _ _
  gi_wp2
  refine⟨by simp,.inl ⟨_,_,rfl,Ahc Pq.e,?_⟩⟩
  have r0:(W3.putObj (X.w.heap.size+2) (.deferred ν)).cell? ⟨X.w.heap.size,0,ν⟩=φ (ζ A9 m9 c9):=Bk.cell (g:=X.w.heap.size) ((À (by omega)).trans Q.e.1) 0
  have r1:(W3.putObj (X.w.heap.size+2) (.deferred ν)).cell? ⟨X.w.heap.size+1,0,ν⟩=φ (.bool θ):=Bk.cell (g:=X.w.heap.size+1) ((À (by omega)).trans Q.e.2) 0
  refine⟨μ #[ζ A9 m9 c9,.bool θ],by simp[results,Tryz.results170,go_sem,r0,r1],.inl ⟨full,ζ A9 m9 c9,HS.e,rfl,(Kz oR.e.2.2 (by omega)).base (by omega)⟩,Dv oR.e.1 (ĩ _ _ _) (λg e=>by cases e;omega),?_⟩
  obtain⟨es,clock,h1,h2⟩:=oR.e.2.1;exact⟨es,clock,(À (by omega)).trans h1,h2⟩
 ·have HS:=ψ Ak
  have gX:=hD.gr;rw[show X1.w=W1 by rw[nG],show X1.gm=X.gm by rw[nG]] at gX
  have cM:fI W2 X.gm X.b:=by have:=hD.known;rw[show X1.gm=X.gm by rw[nG],show X1.b=X.b by rw[nG]] at this;exact this
  have uS:W2.heap[X.w.heap.size+3]?=φ (.loop rc):=(gX.block _ (by omega) (by simp;omega)).trans D1
  have mJ:W2.heap[X.w.heap.size+2]?=φ (.deferred (φ [])):=(gX.block _ (by omega) (by simp;omega)).trans ql
  have Ke:Bk W2 X.w.heap.size 27 #[ζ ν 0 0]:=k0.grown gX (by simp;omega)
  have Ao:Bk W2 (X.w.heap.size+1) 4 #[.bool χ]:=k1.grown gX (by simp;omega)
  refine⟨ν,_,QI nX uS,?_⟩
  obtain⟨W3,fT⟩:∃W3,W3=W2.putObj (X.w.heap.size+3) (.loop {rc with state:=.exhausted}):=⟨_,rfl⟩
  have q0:Bk W3 X.w.heap.size 27 #[ζ ν 0 0]:=by rw[fT];exact(À (by omega)).trans Ke
  have q1:Bk W3 (X.w.heap.size+1) 4 #[.bool χ]:=by rw[fT];exact(À (by omega)).trans Ao
  have Pq:Hid (W3.heap[X.w.heap.size+2]?=φ (.deferred (φ []))):=ψ (by rw[fT];exact(À (by omega)).trans mJ)
  have oR:Hid (X.w.grownBy W3 (φ X.gm)/\fI W3 X.gm X.b):=ψ (by
   rw[fT];refine⟨Dv (kW.trans gX) (ĩ _ _ _) (λg e=>by cases e;omega),?_⟩
   obtain⟨es,clock,h1,h2⟩:=cM;exact⟨es,clock,(À (by omega)).trans h1,h2⟩)
  have Q:=ψ (Ϗ q0 q1);have r0: W3.cell? ⟨X.w.heap.size,0,ν⟩=φ (ζ ν 0 0):=q0.cell 0;have r1: W3.cell? ⟨X.w.heap.size+1,0,ν⟩=φ (.bool χ):=q1.cell 0;have z0:=q0.frozen 0;have z1:=q1.frozen 0;have dp:X.w.heap.size+1<W3.heap.size:=q1.lt;rw[<-fT];clear fT hD Ak gX cM uS mJ Ke Ao q0 q1 hZ call cE Gg nG e0 k0 k1 kW mS D1 ql Rm hs;show Exit.inBlock _ _ _ _ _
  gi_wp2
  refine⟨by simp,.inl ⟨_,_,rfl,Ahc ((Ú _ _ _ _ (by simp)).trans ((Ú _ _ _ _ (by simp)).trans Pq.e)),?_⟩⟩
  have t0:(((W3.setCell ⟨X.w.heap.size,0,ν⟩ (ζ ν 0 0)).setCell ⟨X.w.heap.size+1,0,ν⟩ (.bool χ)).putObj (X.w.heap.size+2) (.deferred ν)).cell? ⟨X.w.heap.size,0,ν⟩=φ (ζ ν 0 0):=Bk.cell (g:=X.w.heap.size) (t:=27) (cs:=#[ζ ν 0 0]) ((À (by omega)).trans ((Q.e.1.set 0 (ζ ν 0 0)).fS (by simp) _)) 0
  have t1:(((W3.setCell ⟨X.w.heap.size,0,ν⟩ (ζ ν 0 0)).setCell ⟨X.w.heap.size+1,0,ν⟩ (.bool χ)).putObj (X.w.heap.size+2) (.deferred ν)).cell? ⟨X.w.heap.size+1,0,ν⟩=φ (.bool χ):=Bk.cell (g:=X.w.heap.size+1) (t:=4) (cs:=#[.bool χ]) ((À (by omega)).trans ((Q.e.2.fS (by simp) _).set 0 (.bool χ))) 0
  refine⟨μ #[ζ ν 0 0,.bool χ],by simp[results,Tryz.results170,go_sem,t0,t1],.inr ⟨HS.e,rfl⟩,Dv (Dw (Dw oR.e.1 (by simp)) (by simp)) (ĩ _ _ _) (λg e=>by cases e;omega),?_⟩
  obtain⟨es,clock,h1,h2⟩:=Kh (u:=.bool χ) (p:=⟨X.w.heap.size+1,0,ν⟩) (Kh (u:=ζ ν 0 0) (p:=⟨X.w.heap.size,0,ν⟩) oR.e.2 (by simp;omega)) (by simp;omega)
  exact⟨es,clock,(À (by omega)).trans h1,h2⟩
end Go.Tw
namespace Go.Tw
variable [Go.Tw.aJ]
open Go Go.Proofs Go.RowKit
def ab7(w:Ψ)(b:an)(pv bv tv:υ)(e:ņ)(w':Ψ):Prop:=∃g,e=Ω (μ #[η #[ξ κ 0,ζ ν 0 0,ζ ν 0 0,ζ ν 0 0,ζ ν 0 0,.map (φ g)],ξ κ (cG b 0)])/\Γ w.heap.size w w'
def arD(hB:B<=w.heap.size)(ai:bq w B b pv bv tv)(h:cG b 0≠0):
 ύ prog 119 #[η #[ξ κ b.ab,pv,bv,tv]] w (ab7 w b pv bv tv):=by
 have st:Δ B w ((w.alloc (Ξ #[ξ κ b.ab,pv,bv,tv] 26)).alloc (Ξ #[ξ κ 0,ζ ν 0 0,ζ ν 0 0,ζ ν 0 0,ζ ν 0 0,.map ν] 151)):=((Δ.refl w).alloc hB _).alloc (by simp;omega) _
 have aE:=ψ (apu (w:=((w.alloc (Ξ #[ξ κ b.ab,pv,bv,tv] 26)).alloc (Ξ #[ξ κ 0,ζ ν 0 0,ζ ν 0 0,ζ ν 0 0,ζ ν 0 0,.map ν] 151))) (B:=B) (by simp;omega) (ai.still st) (LJ (ai.still st)) h)
 obtain⟨s,hs⟩:∃s,s=cG b 0:=⟨_,rfl⟩
 have HS:=ψ hs;rw[<-hs] at aE h;obtain⟨A1,n1,c1,rfl,-⟩:=ai.pieces.Φ;obtain⟨A2,n2,c2,rfl,-⟩:=ai.aF.Φ;obtain⟨A3,n3,c3,rfl,-⟩:=ai.aM.Φ;clear ai st hs;have hmm:= @run_makeMap prog;go_enter func119,Tryz.ntmps119;go_wp2_with (first
  | (go_at_call 98;refine aE.e.mono ?_;rintro e w1 ⟨rfl,ag⟩
     have k1:Bk w1 (w.heap.size+1) 151 #[ξ κ 0,ζ ν 0 0,ζ ν 0 0,ζ ν 0 0,ζ ν 0 0,.map ν]:=(Bk.cD (by simp) _ _).below ag (by simp)
     have r0:=k1.cell 0;have z0:=k1.frozen 0;have r1:=k1.cell 1;have z1:=k1.frozen 1;have r2:=k1.cell 2;have z2:=k1.frozen 2;have r3:=k1.cell 3;have z3:=k1.frozen 3;have r4:=k1.cell 4;have z4:=k1.frozen 4;have r5:=k1.cell 5;have z5:=k1.frozen 5;have aS:w.heap.size+1<w1.heap.size:=by have:=ag.size;simp at this;omega
     have bu:w.heap.size+1<=w1.heap.size:=by omega
     have pN:w.heap.size<w1.heap.size:=by omega
     have xt:w.heap.size<=w1.heap.size:=by omega
     have HK1:=ψ k1;have a8:Hid (Γ w.heap.size w w1):=ψ ((((ώ _ _).alloc (ϊ _) _).alloc (by simp) _).trans (ag.mono (by simp;omega)))
     clear ag k1))
 refine ă (v:=μ #[η #[ξ κ 0,ζ ν 0 0,ζ ν 0 0,ζ ν 0 0,ζ ν 0 0,.map (φ (w1.heap.size+1))],ξ κ s]) (by simp[results,Tryz.results119,go_sem,r0,r1,r2,r3,r4,r5,aS,bu,pN,xt]) rfl ?_
 rw[show s=cG b 0 from HS.e]
 refine⟨_,rfl,?_⟩
 ((refine ţ (ţ ?_ (by simp[î];omega) _) (by simp[î];omega) _);(repeat refine Ĺ ?_ (by simp) _);exact a8.e)
def arC(w:Ψ)(b:an)(pv bv tv:υ)(e:ņ)(w':Ψ):Prop:=∃sv g,e=Ω (μ #[η #[ξ κ b.ab,pv,bv,tv,sv,.map (φ g)],ξ κ 0])/\kR w' w.heap.size sv (aH b)/\fI w' g b/\w.heap.size<=g/\Γ w.heap.size w w'
def Up(hB:B<=w.heap.size)(ai:bq w B b pv bv tv)(h:cG b 0=0):
 ύ prog 119 #[η #[ξ κ b.ab,pv,bv,tv]] w (arC w b pv bv tv):=by
 have st:Δ B w ((w.alloc (Ξ #[ξ κ b.ab,pv,bv,tv] 26)).alloc (Ξ #[ξ κ 0,ζ ν 0 0,ζ ν 0 0,ζ ν 0 0,ζ ν 0 0,.map ν] 151)):=((Δ.refl w).alloc hB _).alloc (by simp;omega) _
 have aE:=ψ (EI (w:=((w.alloc (Ξ #[ξ κ b.ab,pv,bv,tv] 26)).alloc (Ξ #[ξ κ 0,ζ ν 0 0,ζ ν 0 0,ζ ν 0 0,ζ ν 0 0,.map ν] 151))) (B:=B) (by simp;omega) (ai.still st) (LJ (ai.still st)) h)
 obtain⟨A1,n1,c1,rfl,-⟩:=ai.pieces.Φ;obtain⟨A2,n2,c2,rfl,-⟩:=ai.aF.Φ;obtain⟨A3,n3,c3,rfl,-⟩:=ai.aM.Φ;clear ai st h;have hmm:= @run_makeMap prog;go_enter func119,Tryz.ntmps119;go_wp2_with (first
  | (go_at_call 98;refine aE.e.mono ?_;rintro e w1 ⟨sv,rfl,aK,ag⟩
     obtain⟨A9,m9,c9,rfl⟩:=qx aK;have HO:=ψ aK;have k1:Bk w1 (w.heap.size+1) 151 #[ξ κ 0,ζ ν 0 0,ζ ν 0 0,ζ ν 0 0,ζ ν 0 0,.map ν]:=(Bk.cD (by simp) _ _).below ag (by simp)
     have r0:=k1.cell 0;have z0:=k1.frozen 0;have r1:=k1.cell 1;have z1:=k1.frozen 1;have r2:=k1.cell 2;have z2:=k1.frozen 2;have r3:=k1.cell 3;have z3:=k1.frozen 3;have r4:=k1.cell 4;have z4:=k1.frozen 4;have r5:=k1.cell 5;have z5:=k1.frozen 5;have aS:w.heap.size+1<w1.heap.size:=by have:=ag.size;simp at this;omega
     have bu:w.heap.size+1<=w1.heap.size:=by omega
     have pN:w.heap.size<w1.heap.size:=by omega
     have xt:w.heap.size<=w1.heap.size:=by omega
     have HK1:=ψ k1;have a8:Hid (Γ w.heap.size w w1):=ψ ((((ώ _ _).alloc (ϊ _) _).alloc (by simp) _).trans (ag.mono (by simp;omega)))
     clear ag k1 aK))
 refine ă (v:=μ #[η #[ξ κ b.ab,ζ A1 n1 c1,ζ A2 n2 c2,ζ A3 n3 c3,ζ A9 m9 c9,.map (φ (w1.heap.size+1))],ξ κ 0]) (by simp[results,Tryz.results119,go_sem,r0,r1,r2,r3,r4,r5,aS,bu,pN,xt]) rfl ?_
 refine⟨_,_,rfl,?_,?_,?_,?_⟩
 ·refine kR.base (base:=w.heap.size+2) ?_ (by omega)
  have h0:kR w1 (w.heap.size+2) (ζ A9 m9 c9) (aH b):=by have:=HO.e;simpa using this
  first
   |exact((((((((h0.set (by simp)).set (by simp)).set (by simp)).set (by simp)).set (by simp)).set (by simp)).alloc _).alloc _)
   | (repeat(first|exact h0|refine kR.set ?_ (by simp) |refine kR.alloc ?_ _))
 ·exact⟨#[],0,Bd (by simp[î]),by simp⟩
 ·omega
 · ((refine ţ (ţ ?_ (by simp[î];omega) _) (by simp[î];omega) _);(repeat refine Ĺ ?_ (by simp) _);exact a8.e)
def ads(w:Ψ)(b:an)(pv bv tv sv:υ)(g KO:Nat)(pP:Array υ)(ps:List al)(e:ņ)(w':Ψ):Prop:=
 ∃gn,e=Ω (fv 174 #[π (φ ⟨w.heap.size,0,ν⟩),π (φ ⟨w.heap.size+1,0,ν⟩),π (φ ⟨gn,0,ν⟩)])/\Bk w' w.heap.size 151 #[ξ κ b.ab,pv,bv,tv,sv,.map (φ g)]/\
  Bk w' (w.heap.size+1) 158 #[fv KO pP]/\Bk w' gn 128 (cw ps).cs/\w.heap.size<=gn/\Γ w.heap.size w w'
def QD{ps:List al}(hs:Row w B 3 al.R sv ps)(hB:B<=w.heap.size)(hp:∃A n c,pv=ζ A n c)(hb:∃A n c,bv=ζ A n c)(ht:∃A n c,tv=ζ A n c):
 ύ prog 122 #[η #[ξ κ b.ab,pv,bv,tv,sv,.map (φ g)],fv KO pP] w (ads w b pv bv tv sv g KO pP ps):=by
 have st:Δ B w ((w.alloc (Ξ #[ξ κ b.ab,pv,bv,tv,sv,.map (φ g)] 151)).alloc (Ξ #[fv KO pP] 158)):=((Δ.refl w).alloc hB _).alloc (by simp;omega) _
 have aE:=ψ (Yc (s:=b.ab) (hs.still st λ_ _ h=>h) (by simp;omega) hp hb ht)
 obtain⟨A1,n1,c1,rfl⟩:=hp;obtain⟨A2,n2,c2,rfl⟩:=hb;obtain⟨A3,n3,c3,rfl⟩:=ht;obtain⟨A4,n4,c4,rfl,-⟩:=hs.Φ;obtain⟨G,hG⟩:∃G,G=cw ps:=⟨_,rfl⟩
 rw[<-hG] at aE;unfold al.cs at aE;have HG:=ψ hG;clear hs st hG;go_enter func122,Tryz.ntmps122;go_wp2_with (first
  | (go_at_call 115;refine aE.e.mono ?_;rintro e w1 ⟨rfl,ag⟩
     have aS:w.heap.size+1<w1.heap.size:=by have:=ag.size;simp at this;omega
     have k0:=ψ (Bk.below (g:=w.heap.size) (t:=151) (cs:=#[ξ κ b.ab,ζ A1 n1 c1,ζ A2 n2 c2,ζ A3 n3 c3,ζ A4 n4 c4,.map (φ g)]) ((Bk.new w _ _).alloc _) ag (by simp;omega))
     have k1:=ψ (Bk.below (g:=w.heap.size+1) (t:=158) (cs:=#[fv KO pP]) (Bk.cD (by simp) _ _) ag (by simp))
     have a8:Hid (Γ w.heap.size w w1):=ψ ((((ώ _ _).alloc (ϊ _) _).alloc (by simp) _).trans (ag.mono (by simp;omega)))
     clear ag))
 go_ret;refine⟨w1.heap.size,rfl,k0.e.alloc _,k1.e.alloc _,?_,by omega,a8.e.alloc (by omega) _⟩
 rw[<-HG.e];exact Bk.cD rfl _ _
def an2{l:List Cut}(hl:Row w B 2 Cut.R lv l)(hB:B<=w.heap.size)(Dz:l.length<=1000)(hp:∃A n c,pv=ζ A n c)(hb:∃A n c,bv=ζ A n c)(ht:∃A n c,tv=ζ A n c)(hs:∃A n c,sv=ζ A n c):
 ύ prog 234 #[η #[ξ κ b.ab,pv,bv,tv,sv,.map (φ g)],lv] w λe w'=>e=Ω (ξ κ (pD l).length)/\Γ w.heap.size w w':=by
 have aE:=ψ (taken (w:=w.alloc (Ξ #[ξ κ b.ab,pv,bv,tv,sv,.map (φ g)] 151)) (hl.still ((Δ.refl w).alloc hB _) λ_ _ h=>h) (by simp;omega) Dz)
 obtain⟨A1,n1,c1,rfl⟩:=hp;obtain⟨A2,n2,c2,rfl⟩:=hb;obtain⟨A3,n3,c3,rfl⟩:=ht;obtain⟨A4,n4,c4,rfl⟩:=hs;obtain⟨A,n,c,rfl,-⟩:=hl.Φ;clear hl;go_enter func234,Tryz.ntmps234;go_wp2_with (first
  | (go_at_call 235;refine aE.e.mono ?_;rintro e w1 ⟨u,rfl,aK,ag⟩
     obtain⟨A9,m9,c9,rfl⟩:=qx aK;have hm:Hid ((m9:Int)=(pD l).length):=ψ (by
      rcases aK.2 with⟨h1,h2⟩ | ⟨_,_,_,h1,_⟩
      ·cases h1;rw[h2]
      ·cases h1;rfl)
     have HB:=ψ (db (ώ _ _) ag (ϊ _));clear ag aK))
 go_ret;exact⟨bj hm.e,HB.e⟩
def oa(m k:Nat):Bool:= !(m.testBit k)
def Wv(hm:m<8)(hk:k<3)(hg:Bk w g 3 #[ξ κ m]):
 ύ prog 171 (#[ξ κ k]++#[π (φ ⟨g,0,ν⟩)]) w λe w'=>e=Ω (.bool (oa m k))/\Γ w.heap.size w w':=by
 refine app1 ?_
 have g0: w.cell? ⟨g,0,ν⟩=φ (ξ κ m):=hg.cell 0;clear hg;go_enter func171,Tryz.ntmps171;go_wp2;go_ret;refine⟨cj ?_,ώ _ _⟩
 match m,hm,k,hk with
 |0,_,0,_=>rfl
 |0,_,1,_=>rfl
 |0,_,2,_=>rfl
 |1,_,0,_=>rfl
 |1,_,1,_=>rfl
 |1,_,2,_=>rfl
 |2,_,0,_=>rfl
 |2,_,1,_=>rfl
 |2,_,2,_=>rfl
 |3,_,0,_=>rfl
 |3,_,1,_=>rfl
 |3,_,2,_=>rfl
 |4,_,0,_=>rfl
 |4,_,1,_=>rfl
 |4,_,2,_=>rfl
 |5,_,0,_=>rfl
 |5,_,1,_=>rfl
 |5,_,2,_=>rfl
 |6,_,0,_=>rfl
 |6,_,1,_=>rfl
 |6,_,2,_=>rfl
 |7,_,0,_=>rfl
 |7,_,1,_=>rfl
 |7,_,2,_=>rfl
def an4{zs:List Int}{x:Int}(h:x∈Lib.compact zs):x∈zs:=by
 unfold Lib.compact Lib.compactUpTo at h;simp only[Ĭ,List.mem_filter,ť] at h;obtain⟨j,⟨hj,_⟩,rfl⟩:=h;have:zs.toArray[j]! =zs[j]:=by simp[hj]
 rw[this];exact List.getElem_mem hj
def an5{l:List Cut}{x:Int}(h:x∈pD l):∃c∈l,c.bm=x:=by
 have h1:=an4 h;unfold mV at h1;rw[List.mem_mergeSort] at h1;simpa using h1
def Ex(b:an)(k:Int):Int:=match b.aF[k.toNat]? with
 |some x=>x.aw
 |none=>0
def sn(b:an)(l:List Int):Int:=(l.map (Ex b)).sum
def anh(b:an)(l:List Int)(k:Int):sn b (l++ [k])=sn b l+Ex b k:=by simp[sn]
def aaO{b:an}(h:∀x∈b.aF,0<=x.aw/\x.aw<=40):∀l:List Int,0<=sn b l/\sn b l<=40 * l.length
 | []=>⟨by simp[sn],by simp[sn]⟩
 |k::l=>by
  have ih:=aaO h l;have:sn b (k::l)=Ex b k+sn b l:=by simp[sn]
  rw[this];have h1:0<=Ex b k/\Ex b k<=40:=by
   unfold Ex;cases e:b.aF[k.toNat]? with
   |none=>simp
   |some x=>exact h x (ϡ e)
  simp only[Ď,Int.natCast_add];omega
def j7:List Cut->List Cut->Int
 | [],[]=>0
 | [],_::_=> -1
 |_::_,[]=>1
 |a::x,c::y=>if lf a c≠0 then lf a c else j7 x y
def Qx:∀ {i:Nat} {l m:List Cut} {c d:Cut},l[i]?=φ c->m[i]?=φ d->(∀(j:Nat) (c d:Cut),j<i->l[j]?=φ c->m[j]?=φ d->lf c d=0)->lf c d≠0->j7 l m=lf c d
 |0,a::l,b::m,c,d,hc,hd,_,h=>by
  simp at hc hd;subst hc;subst hd
  unfold j7;rw[if_pos h]
 |i+1,a::l,b::m,c,d,hc,hd,h0,h=>by
  have:=h0 0 a b (by omega) rfl rfl
  unfold j7;rw[if_neg (by simpa using this)]
  exact Qx (i:=i) (by simpa using hc) (by simpa using hd) (λj c d hj hc hd=>h0 (j+1) c d (by omega) (by simpa using hc) (by simpa using hd)) h
 |0,[],_,_,_,hc,_,_,_=>by simp at hc
 |i+1,[],_,_,_,hc,_,_,_=>by simp at hc
 |0,_::_,[],_,_,_,hd,_,_=>by simp at hd
 |i+1,_::_,[],_,_,_,hd,_,_=>by simp at hd
def Xh:∀ {l m:List Cut},l.length=m.length->(∀(j:Nat) (c d:Cut),l[j]?=φ c->m[j]?=φ d->lf c d=0)->j7 l m=0
 | [],[],_,_=>rfl
 |a::l,b::m,hl,h=>by
  have:=h 0 a b rfl rfl;unfold j7;rw[if_neg (by simpa using this)]
  exact Xh (by simpa using hl) λj c d hc hd=>h (j+1) c d (by simpa using hc) (by simpa using hd)
def O5(c:Cut):Prop:=0<=c.bm/\c.bm<=1000/\0<=c.from_/\c.from_<=1000
def agu{l m:List Cut}{mv:υ}(hl:Row w B 2 Cut.R lv l)(hm:Row w B 2 Cut.R mv m)(hB:B<=w.heap.size)(Zk:l.length=m.length)(sl:∀c∈l,O5 c)(sm:∀c∈m,O5 c):
 ύ prog 172 #[lv,mv,.func (.func 173) #[] #[]] w λe w'=>e=Ω (ξ κ (j7 l m))/\Γ w.heap.size w w':=by
 obtain⟨A1,n1,c1,rfl,e1,h1,jx,r1⟩:=hl.Φ;obtain⟨A2,n2,c2,rfl,e2,h2,ie,r2⟩:=hm.Φ;obtain rfl:n1=n2:=by omega
 unfold ϕ at jx ie;have HE:=ψ (Ϗ e1 (Ϗ e2 (Ϗ Zk (Ϗ sl sm))));have H1:=ψ r1;have H2:=ψ r2;clear hl hm e1 e2 r1 r2 Zk sl sm;go_enter func172,Tryz.ntmps172;go_wp2;go_loopw [13] (λu wr=>∃i:Nat,i<=n1/\u=ξ κ i/\Hid (∀(j:Nat) (c d:Cut),j<i->l[j]?=φ c->m[j]?=φ d->lf c d=0)/\Hid (Γ w.heap.size w wr)) (λu _=>n1 - (ϙ u).toNat)
 case atStart=>exact⟨0,Ϡ _,rfl,ψ (λj c d hj=>by omega),ψ (ώ _ _)⟩
 case round=>
  obtain⟨i,hi,rfl,hz,hb⟩:=hrel;have aL:=hb.e.size;by_cases aj:i<n1
  ·obtain⟨gV,c,Bn,ahd,F0,hc,rfl,-,RG⟩:=H1.e i aj
   obtain⟨cI,d,qf,IS,nu,hd,rfl,-,oB⟩:=H2.e i aj;subst ahd;subst IS
   have st:Δ B w wr:=Δ.aN hb.e hB;have g0:=cA RG st F0 rfl;have g1:=bH RG st F0 0 rfl;have f0:=cA oB st nu rfl;have f1:=bH oB st nu 0 rfl;have b1:(gV.add (i * 2)).block<wr.heap.size:=by rw[cq];omega
   have b2:(cI.add (i * 2)).block<wr.heap.size:=by rw[cq];omega
   have b2':(cI.add (i * 2)).block<=wr.heap.size:=by omega
   have mR:=HE.e.2.2.2.1 c (ϡ hc);have Jq:=HE.e.2.2.2.2 d (ϡ hd);have aE:=ψ (λW:Ψ=>less (c:=c) (d:=d) (w:=W) mR.1 Jq.1 mR.2.2.1 Jq.2.2.1 mR.2.1 Jq.2.1 mR.2.2.2 Jq.2.2.2)
   have HX:=ψ (Ϗ hc hd);have qm:decide ((i:Int)>=(n1:Int))=χ:=by simp;omega
   clear hc hd RG oB st mR Jq;by_cases h0:lf c d=0
   ·go_wp2_with (first
     | (go_at_call 173;refine(aE.e _).mono ?_;rintro e w1 ⟨rfl,ag⟩;have a8:=ψ ((hb.e.trans (((ώ _ _).alloc aL _).alloc (by simp;omega) _)).trans (ag.mono (by simp;omega)));clear ag))
    go_roundw;case rel=>exact⟨i+1,by omega,by go_num,ψ (λj c' d' hj h1 h2=>by
     rcases ε.1 hj with h|rfl
     ·exact hz.e j c' d' h h1 h2
     ·rw[HX.e.1] at h1;rw[HX.e.2] at h2;cases h1;cases h2;exact h0),a8⟩
    case measure=>simp[ϙ];omega
   ·obtain⟨q,hq⟩:∃q,q=lf c d:=⟨_,rfl⟩
    have HQ:=ψ hq;rw[<-hq] at h0 aE;clear hq;go_wp2_with (first
     | (go_at_call 173;refine(aE.e _).mono ?_;rintro e w1 ⟨rfl,ag⟩;have a8:=ψ ((hb.e.trans (((ώ _ _).alloc aL _).alloc (by simp;omega) _)).trans (ag.mono (by simp;omega)));clear ag))
    go_ret;exact⟨bj (by rw[HQ.e];exact(Qx HX.e.1 HX.e.2 hz.e (by rw[<-HQ.e];exact h0)).symm),a8.e⟩
  ·obtain rfl:i=n1:=by omega
   go_wp2;go_ret;exact⟨bj (Xh HE.e.2.2.1 (λj c d h1 h2=>hz.e j c d (by have:=(ϩ.1 h1).1;have:=HE.e.1;omega) h1 h2)).symm,hb.e⟩
def XO(l:List Int):l.flatMap (λk=> [ξ κ k])=l.map (ξ κ):=by
 induction l with
 |nil=>rfl
 |cons a l ih=>rw[ğ,List.map_cons,ih];rfl
def Nh{base:Nat}{l:List Int}(h:w.ownsRow base e 1 v l.length (l.map (ξ κ))):Row w w.heap.size 1 cH v l:=
 tX (f:=λk:Int=> [ξ κ k]) (by rw[XO];exact h) (λ_=>rfl) (λ_ _=>rfl)
def an3{l:List Cut}(ai:bq w B b pv bv tv)(hl:Row w B 2 Cut.R lv l)(hB:B<=w.heap.size)(Dz:l.length<=1000)(hs:∃A n c,sv=ζ A n c)
 (cE:∀c∈l,∃k:Nat,c.bm=k/\k<b.aF.length)(vI:∀x∈b.aF,0<=x.aw/\x.aw<=40):
 ύ prog 236 #[η #[ξ κ b.ab,pv,bv,tv,sv,.map (φ g)],lv] w λe w'=>e=Ω (ξ κ (sn b (pD l)))/\Γ w.heap.size w w':=by
 have aE:=ψ (taken (w:=w.alloc (Ξ #[ξ κ b.ab,pv,bv,tv,sv,.map (φ g)] 151)) (hl.still ((Δ.refl w).alloc hB _) λ_ _ h=>h) (by simp;omega) Dz)
 have bV:=ψ ai;obtain⟨A1,n1,c1,rfl,-⟩:=ai.pieces.Φ;obtain⟨A2,n2,c2,rfl,e2,h2,ie,r2⟩:=ai.aF.Φ;obtain⟨A3,n3,c3,rfl,-⟩:=ai.aM.Φ;obtain⟨A4,n4,c4,rfl⟩:=hs;obtain⟨A,n,c,rfl,yu,-⟩:=hl.Φ;unfold ϕ at ie;have Cd:(pD l).length<=1000:=by
  unfold pD;have:=Xj (mV (l.map (·.bm)));have h2:(mV (l.map (·.bm))).length=l.length:=by simp[mV]
  omega
 have E2:=ψ (Ϗ e2 (Ϗ cE (Ϗ vI Cd)));have H2:=ψ r2;clear hl ai e2 r2 cE vI yu Cd;go_enter func236,Tryz.ntmps236;go_wp2_with (first
  | (go_at_call 235;refine aE.e.mono ?_;rintro e w1 ⟨u,rfl,aK,ag⟩
     have kX:=Nh aK;obtain⟨A9,m9,c9,rfl,dj,tK,j8,o3⟩:=kX.Φ;have rO:=ψ (Ϗ dj o3);have kk:=ψ (Bk.below (g:=w.heap.size) (t:=151) (cs:=#[ξ κ b.ab,ζ A1 n1 c1,ζ A2 n2 c2,ζ A3 n3 c3,ζ A4 n4 c4,.map (φ g)]) (Bk.new w _ _) ag (by simp))
     have a8:=ψ (db (ώ _ _) ag (ϊ _));clear ag aK kX dj o3))
 unfold ϕ at j8;go_loopw [5,11] (λs u wr=>∃i:Nat,i<=m9/\u=ξ κ i/\s=ξ κ (sn b ((pD l).take i))/\wr=w1) (λ_ u _=>m9 - (ϙ u).toNat)
 case atStart=>exact⟨0,Ϡ _,rfl,by simp[sn],rfl⟩
 case round=>
  obtain⟨i,hi,rfl,rfl,rfl⟩:=hrel;have aiW:((pD l).take i).length<=1000:=by have:=E2.e.2.2.2;simp;omega
  have hle:=aaO (b:=b) E2.e.2.2.1 ((pD l).take i);obtain⟨S,hS⟩:∃S,S=sn b ((pD l).take i):=⟨_,rfl⟩
  rw[<-hS] at hle |-
  have HS:=ψ hS;have DJ:0<=S:=hle.1;have ld:S<=40000:=by have:=hle.2;omega
  clear hS hle aiW;by_cases aj:i<m9
  ·obtain⟨ad,k,cs,rn,aD,hk,rfl,-,aq⟩:=rO.e.2 i aj
   subst rn;have g0: wr.cell? (ad.add i)=φ (ξ κ k):=by have:=cA aq (Δ.refl wr) aD (u:=ξ κ k) rfl;rwa[Nat.mul_one] at this
   obtain⟨c0,qk,mH⟩:=an5 (ϡ hk);obtain⟨kn,cM,DZ⟩:=E2.e.2.1 c0 qk;obtain rfl:k=kn:=by rw[<-mH,cM]
   have MJ:kn<n2:=by have:=E2.e.1;omega
   have xf:(kn:Int)<n2:=by omega
   obtain⟨cI,x,qf,IS,nu,hx,⟨kvv,rfl,dk,-⟩,-,oB⟩:=H2.e kn MJ;subst IS;have st:Δ B w wr:=Δ.aN a8.e hB;have x1: wr.cell? ⟨(cI.add (kn * 3)).block,(cI.add (kn * 3)).off+1,ν⟩=φ (ξ κ x.aw):=bH oB st nu 0 rfl;have p2: wr.cell? ⟨w.heap.size,2,ν⟩=φ (ζ (φ cI) n2 c2):=kk.e.cell 2;have Gx:=E2.e.2.2.1 x (ϡ hx);have Ci:0<=x.aw:=Gx.1;have Z6:x.aw<=40:=Gx.2;have HK:=ψ (Ϗ hk hx);clear hk hx aq oB mH cM st dk Gx qk;go_wp2;go_roundw;case rel=>exact⟨i+1,by omega,by go_num,by rw[su HK.e.1,anh,<-HS.e];unfold Ex;simp[HK.e.2],trivial⟩
   case measure=>simp[ϙ];omega
  ·obtain rfl:i=m9:=by omega
   go_wp2;go_ret;exact⟨bj (by rw[HS.e,ę (ÿ rO.e.1)]),a8.e⟩
def Od{b:an}(hv:Valid b){n:al}{out:Nat->Bool}:∀(f:Nat) (cs full:List Cut),(∀c∈cs,vk b c)->search b n out f cs=φ full->full.length=cs.length+f/\∀c∈full,vk b c
 |0,cs,full,h,hs=>by
  unfold search at hs;cases hs;exact⟨rfl,h⟩
 |f+1,cs,full,h,hs=>by
  unfold search at hs;obtain⟨k,hk,hs⟩:=ŧ hs
  unfold tZ at hs;split at hs
  ·cases hs
  ·obtain⟨fr,bY,hs⟩:=ŧ hs
   unfold pE at hs;split at hs
   ·have vH:k<b.aF.length:=by simpa using hk
    have RS:fr<pQ b k:=by simpa using bY
    have hc:vk b ⟨k,fr⟩:=by
     refine⟨⟨k,rfl,vH⟩,?_⟩
     unfold pQ at RS;cases e:b.aF[k]? with
     |none=>simp[e] at RS
     |some x=>
      simp only[e] at RS;have:=(hv.bm x (ϡ e)).aw;show 0<=(fr:Int)/\(fr:Int)<=40;omega
    have:=Od hv f (cs++ [⟨k,fr⟩]) full (λc zX=>by
     rcases È.1 zX with h1|h1
     ·exact h c h1
     ·simp at h1;subst h1;exact hc) hs
    refine⟨by rw[this.1];simp;omega,this.2⟩
   ·cases hs
def rU(mI:List Cut->Int)(st:Option (List Cut×Int))(l:List Cut):Option (List Cut×Int):=match st with
 |none=>φ (l,mI l)
 |some (c,m)=>if mI l<m\/(mI l=m/\j7 l c<0) then φ (l,mI l) else φ (c,m)
def xX(b:an)(n:al)(mI:List Cut->Int)(st:Option (List Cut×Int))(m:Nat):Option (List Cut×Int):=match search b n (oa m) b.pieces.length [] with
 |none=>st
 |some l=>rU mI st l
def mE(b:an)(n:al)(mI:List Cut->Int)(M:Nat):Option (List Cut×Int):=(Ϯ M).foldl (xX b n mI) ν
def qP(b:an)(n:al)(mI:List Cut->Int)(M:Nat):mE b n mI (M+1)=xX b n mI (mE b n mI M) M:=by simp[mE,Ś]
def CY(b:an)(c:List Cut):Prop:=c.length=b.pieces.length/\∀x∈c,vk b x
def LM{b:an}(hv:Valid b){n:al}{mI:List Cut->Int}:∀(M:Nat) (c:List Cut) (m:Int),mE b n mI M=φ (c,m)->CY b c
 |0,c,m,h=>by simp[mE] at h
 |M+1,c,m,h=>by
  rw[qP] at h;unfold xX at h;split at h
  ·exact LM hv M c m h
  ·rename_i l hl
   have hg:CY b l:=by
    have:=Od hv _ [] l (by simp) hl
    exact⟨by simpa using this.1,this.2⟩
   unfold rU at h;split at h
   ·simp at h;rw[<-h.1];exact hg
   ·split at h
    ·simp at h;rw[<-h.1];exact hg
    ·rename_i c' m' heq _
     simp at h;rw[<-h.1];exact LM hv M c' m' heq
def ab9(hv:Valid b){c:List Cut}(h:CY b c):∀x∈c,O5 x:=λx hx=>by
 obtain⟨⟨k,hk,dq⟩,h2⟩:=h.2 x hx;have:=hv.nb;exact⟨by omega,by omega,h2.1,by have:=h2.2;omega⟩
def PN(b:an)(pv bv tv:υ)(KM:Nat)(mI:List Cut->Int)(w:Ψ)(B:Nat):Prop:=
 (∀args w,(callFunc KM args).run prog w=.ok (.enter KM args) w)/\∀(W:Ψ) (sv lv:υ) (g:Nat) (l:List Cut),Δ B w W->B<=W.heap.size->(∃A n c,sv=ζ A n c)->Row W W.heap.size 2 Cut.R lv l->CY b l->
   ύ prog KM #[η #[ξ κ b.ab,pv,bv,tv,sv,.map (φ g)],lv] W λe W'=>e=Ω (ξ κ (mI l))/\Γ W.heap.size W W'
def rS(W:Ψ)(base np:Nat)(st:Option (List Cut×Int))(cv mv fv:υ):Prop:=match st with
 |none=>cv=ζ ν 0 0/\mv=ξ κ 0/\fv=.bool χ
 |some (c,m)=>W.ownsRow base 56 2 cv np (c.flatMap Cut.vs)/\mv=ξ κ m/\fv=.bool θ
def aeZ(w:Ψ)(b:an)(st:Option (List Cut×Int))(e:ņ)(w':Ψ):Prop:=
 ∃cv mv fv,e=Ω (μ #[cv,mv,fv,ξ κ 0])/\rS w' w.heap.size b.pieces.length st cv mv fv/\Γ w.heap.size w w'
def arB(h:n<=3):wrap64 ((2:Int) ^ n)=((2 ^ n:Nat):Int):=by
 match n,h with
 |0,_=>simp[wrap64]
 |1,_=>simp[wrap64]
 |2,_=>simp[wrap64]
 |3,_=>simp[wrap64]
def Wy{mI:List Cut->Int}{c l:List Cut}{m:Int}(h:mI l<m\/(mI l=m/\j7 l c<0)):rU mI (φ (c,m)) l=φ (l,mI l):=by
 show(if mI l<m\/(mI l=m/\j7 l c<0) then φ (l,mI l) else φ (c,m))=_
 rw[if_pos h]
def Wx{mI:List Cut->Int}{c l:List Cut}{m:Int}(h:¬ (mI l<m\/(mI l=m/\j7 l c<0))):rU mI (φ (c,m)) l=φ (c,m):=by
 show(if mI l<m\/(mI l=m/\j7 l c<0) then φ (l,mI l) else φ (c,m))=_
 rw[if_neg h]
def rS.base{W:Ψ}{base zG np:Nat}{st:Option (List Cut×Int)}{cv mv fv:υ}(h:rS W base np st cv mv fv)(hb:zG<=base):rS W zG np st cv mv fv:=by
 unfold rS at h |-
 cases st with
 |none=>exact h
 |some p=>exact⟨World.ownsRow.base h.1 hb,h.2⟩
def GJ{base:Nat}{sz:Nat}(h:w.ownsRow base e sz v n xs)(hk:fI w g b)(hg:w.grownBy w' (φ g)):w'.ownsRow base e sz v n xs:=by
 refine⟨h.1,?_⟩
 rcases h.2 with h0| ⟨q,cap,cur,h1,h2,h3,h4⟩
 ·exact .inl h0
 ·obtain⟨es,clock,k1,_⟩:=hk
  exact .inr ⟨q,cap,cur,h1,h2,(hg.block q (Ϝ.1 h3).1 (λe=>by cases e;rw[k1] at h3;cases h3)).trans h3,h4⟩
def aij{X:cS}(ok:X.Ok B)(hB:B<=X.w.heap.size)(hk:fI X.w X.gm X.b)(hs:search X.b X.n X.e X.np []=ν):
 ύ prog 170 #[fv 174 #[π (φ ⟨X.gs,0,ν⟩),π (φ ⟨X.go,0,ν⟩),π (φ ⟨X.gn,0,ν⟩)]] X.w λe W'=>e=Ω (μ #[ζ ν 0 0,.bool χ])/\X.w.grownBy W' (φ X.gm)/\fI W' X.gm X.b:=
 (XL ok hB hk).mono λe W' ⟨h1,h2,h3⟩=>by
   rcases h1 with⟨full,v,k1,_,_⟩ | ⟨_,k2⟩
   ·rw[hs] at k1;cases k1
   ·exact⟨k2,h2,h3⟩
def aik{X:cS}(ok:X.Ok B)(hB:B<=X.w.heap.size)(hk:fI X.w X.gm X.b){full:List Cut}(hs:search X.b X.n X.e X.np []=φ full):
 ύ prog 170 #[fv 174 #[π (φ ⟨X.gs,0,ν⟩),π (φ ⟨X.go,0,ν⟩),π (φ ⟨X.gn,0,ν⟩)]] X.w λe W'=>∃v,e=Ω (μ #[v,.bool θ])/\W'.ownsRow X.w.heap.size 56 2 v X.np (full.flatMap Cut.vs)/\X.w.grownBy W' (φ X.gm)/\fI W' X.gm X.b:=
 (XL ok hB hk).mono λe W' ⟨h1,h2,h3⟩=>by
   rcases h1 with⟨X5,v,k1,k2,k3⟩ | ⟨k1,_⟩
   ·rw[hs] at k1;cases k1;exact⟨v,k2,k3,h2,h3⟩
   ·rw[hs] at k1;cases k1
def Yd:∀(l:List al),(∀L∈l,L.Ok)->(cw l).Ok:=by
 have key:∀(l:List al) (M:al),M.Ok->(∀L∈l,L.Ok)->(l.foldl (λM x=>nR M x 3) M).Ok:=by
  intro l;induction l with
  |nil=>intro M h _;exact h
  |cons a l ih=>
   intro M h hl;refine ih _ ?_ λL hL=>hl L (by simp[hL])
   have ha:=hl a (by simp)
   have a0:=ha 0;have a1:=ha 1;have a2:=ha 2
   have m0:=h 0;have m1:=h 1;have m2:=h 2
   simp only[al.at] at a0 a1 a2 m0 m1 m2;intro q;unfold al.at nR;by_cases h0:q=0
   ·subst h0;simp at *;split<;>omega
   ·by_cases h1:q=1
    ·subst h1;simp at *;split<;>omega
    ·simp[h0,h1] at *;split<;>omega
 exactλl hl=>key l _ (λq=>by unfold al.at;simp) hl
def GP(w2:Ψ)(b:an)(pv bv tv sv:υ)(ps:List al)(gs gn g KO:Nat)(pP:Array υ)(out:Nat->Bool):cS:=
 ⟨w2,b,pv,bv,tv,sv,cw ps,gs,gs+1,gn,g,KO,pP,out,0⟩
def Uk{Wa:Ψ}{ps:List al}{gn:Nat}{out:Nat->Bool}(ai:bq w2 B b pv bv tv)(hv:Valid b)(Sx:∀L∈ps,L.Ok)(uX:∃A n c,sv=ζ A n c)
 (Q5:B<=g)(MG:g<Wa.heap.size)(k0:Bk w2 Wa.heap.size 151 #[ξ κ b.ab,pv,bv,tv,sv,.map (φ g)])(k1:Bk w2 (Wa.heap.size+1) 158 #[fv KO pP])(k2:Bk w2 gn 128 (cw ps).cs)(BM:Wa.heap.size<=gn)
 (eg:∀args w,(callFunc KO args).run prog w=.ok (.enter KO args) w)(ho:∀(k:Nat) (W:Ψ),k<b.aF.length->w2.grownBy W (φ g)->ύ prog KO (#[ξ κ k]++pP) W λe W'=>e=Ω (.bool (out k))/\Γ W.heap.size W W'):
 (GP w2 b pv bv tv sv ps Wa.heap.size gn g KO pP out).Ok B:=
 ⟨ai,hv,Yd ps Sx,uX,Q5,k0.lt,k1.lt,k2.lt,by show g<w2.heap.size;have:=k0.lt;omega,by show Wa.heap.size≠g;omega,by show Wa.heap.size+1≠g;omega,by show gn≠g;omega,k0,k1,k2,eg,ho⟩
def WB{mI:List Cut->Int}(hB:B<=w.heap.size)(ai:bq w B b pv bv tv)(hM:PN b pv bv tv KM mI w B)(h:cG b 0=0):
 ύ prog 117 #[η #[ξ κ b.ab,pv,bv,tv],η #[.func (.func KM) #[] #[]]] w (aeZ w b (mE b (cw (aH b)) mI (2 ^ b.aF.length))):=by
 have st:Δ B w ((w.alloc (Ξ #[ξ κ b.ab,pv,bv,tv] 26)).alloc (Ξ #[.func (.func KM) #[] #[]] 145)):=((Δ.refl w).alloc hB _).alloc (by simp;omega) _
 have aE:=ψ (Up (w:=((w.alloc (Ξ #[ξ κ b.ab,pv,bv,tv] 26)).alloc (Ξ #[.func (.func KM) #[] #[]] 145))) (B:=B) (by simp;omega) (ai.still st) h)
 have hv:=oc (vU h).1;have HV:=ψ hv;have bV:=ψ ai;have HMM:=ψ hM.2;have egM:=hM.1;have nJ:=hv.nb;obtain⟨A1,n1,c1,rfl,-⟩:=ai.pieces.Φ;obtain⟨A2,n2,c2,rfl,e2,h2,ie,-⟩:=ai.aF.Φ;obtain⟨A3,n3,c3,rfl,-⟩:=ai.aM.Φ;have sc:n2<=3:=by omega
 have Ca:=arB sc;obtain⟨M,Mq⟩:∃M,M=2 ^ n2:=⟨_,rfl⟩
 rw[<-Mq] at Ca;have hM8:M<=8:=by
  rw[Mq];exact Aii (n:=2) (by omega) sc
 have E2:=ψ (Ϗ e2 Mq);clear Mq;unfold ϕ at ie;clear ai hM st h hv nJ e2;go_enter func117,Tryz.ntmps117;go_wp2_with (first
  | (go_at_call 119;refine aE.e.mono ?_;rintro e w1 ⟨sv,g,rfl,aK,cM,hg,ag⟩
     obtain⟨A9,m9,c9,rfl⟩:=qx aK;have kb:=Bk.below (g:=w.heap.size) (t:=26) (cs:=#[ξ κ b.ab,ζ A1 n1 c1,ζ A2 n2 c2,ζ A3 n3 c3]) ((Bk.new w _ _).alloc _) ag (by simp;omega)
     have km:=Bk.below (g:=w.heap.size+1) (t:=145) (cs:=#[.func (.func KM) #[] #[]]) (Bk.cD (by simp) _ _) ag (by simp)
     have b2: w1.cell? ⟨w.heap.size,2,ν⟩=φ (ζ A2 n2 c2):=kb.cell 2;have aS:w.heap.size+2<=w1.heap.size:=by have:=ag.size;simpa using this
     have bu:w.heap.size<w1.heap.size:=by omega
     have pN:w.heap.size<=w1.heap.size:=by omega
     have tH:w.heap.size+2<=g:=by simpa using hg
     have a8:Hid (Γ w.heap.size w w1):=ψ ((((ώ _ _).alloc (ϊ _) _).alloc (by simp) _).trans (ag.mono (by simp;omega)))
     have FR:=ψ (Ϗ aK (Ϗ cM (Ϗ kb km)));clear ag aK cM kb km hg))
 obtain⟨G,Yn⟩:∃G,G=cw (aH b):=⟨_,rfl⟩
 have HGD:=ψ Yn;clear Yn;rw[Ca];clear Ca;go_loopw [4,5,6,25] (λc m f u wr=>∃i:Nat,i<=M/\u=ξ κ i/\Hid (rS wr (w1.heap.size+1) b.pieces.length (mE b (cw (aH b)) mI i) c m f)/\Hid ((w1.alloc (Ξ #[ξ κ b.ab,ζ A1 n1 c1,ζ A2 n2 c2,ζ A3 n3 c3,ζ A9 m9 c9,.map (φ g)] 151)).grownBy wr (φ g))/\Hid (fI wr g b)) (λ_ _ _ u _=>M - (ϙ u).toNat)
 case atStart=>exact⟨0,Ϡ _,rfl,ψ (by simp[mE,rS]),ψ (World.grownBy.refl _ _),ψ (FR.e.2.1.grown (ϯ w1 _ ν) (by simp))⟩
 case round=>
  obtain⟨i,hi,rfl,aW,hG,hK⟩:=hrel;have hgw:g<w1.heap.size:=FR.e.2.1.lt;have qT:w1.heap.size+1<=wr.heap.size:=by have:=hG.e.size;simpa using this
  have Et:Bk wr w1.heap.size 151 #[ξ κ b.ab,ζ A1 n1 c1,ζ A2 n2 c2,ζ A3 n3 c3,ζ A9 m9 c9,.map (φ g)]:=(Bk.new w1 _ _).grown hG.e (by simp;omega)
  have r0:=Et.cell 0;have r1:=Et.cell 1;have r2:=Et.cell 2;have r3:=Et.cell 3;have r4:=Et.cell 4;have r5:=Et.cell 5;have ZF:kR wr (w.heap.size+2) (ζ A9 m9 c9) (aH b):=by
   have h0:kR w1 (w.heap.size+2) (ζ A9 m9 c9) (aH b):=by have:=FR.e.1;simpa using this
   have h1:=h0.alloc (Ξ #[ξ κ b.ab,ζ A1 n1 c1,ζ A2 n2 c2,ζ A3 n3 c3,ζ A9 m9 c9,.map (φ g)] 151);exact GJ h1 (FR.e.2.1.grown (ϯ w1 _ ν) (by simp)) hG.e
  have kX:Row (wr.alloc (Ξ #[ξ κ i] 3)) wr.heap.size 3 al.R (ζ A9 m9 c9) (aH b):=ZF.row.still ((Δ.refl wr).alloc (ϊ _) _) λ_ _ h=>h
  clear Et ZF;by_cases aj:i<M
  ·have a1:w1.heap.size<wr.heap.size:=by omega
   have a2:w1.heap.size<=wr.heap.size:=by omega
   cases hs:search b (cw (aH b)) (oa i) b.pieces.length [] with
   |none=>
    have NX:Hid (mE b (cw (aH b)) mI (i+1)=mE b (cw (aH b)) mI i):=ψ (by rw[qP];unfold xX;rw[hs])
    go_wp2_with (first
     | (go_at_call 122;refine(QD (B:=wr.heap.size) (ps:=aH b) kX (by simp) ⟨_,_,_,rfl⟩ ⟨_,_,_,rfl⟩ ⟨_,_,_,rfl⟩).mono ?_;rintro e w2 ⟨gn,rfl,k0,k1,k2,BM,ak⟩
        have bu:wr.heap.size+1<=w2.heap.size:=by have:=ak.size;simpa using this
        have yp:wr.grownBy w2 (φ g):=(ϯ wr (Ξ #[ξ κ i] 3) _).trans (py ak (ϊ _) _);have dq:fI w2 g b:=hK.e.grown (row:=ν) ((ϯ wr (Ξ #[ξ κ i] 3) _).trans (py ak (ϊ _) _)) (by simp)
        have Kg:Bk w2 wr.heap.size 3 #[ξ κ i]:=(Bk.new wr _ _).below ak (by simp)
        have hX:=Uk (KO:=171) (pP:=#[π (φ ⟨wr.heap.size,0,ν⟩)]) (out:=oa i) (B:=B) (bV.e.still ((K1 ((py a8.e (ϊ _) _).trans ((ϯ w1 (Ξ #[ξ κ b.ab,ζ A1 n1 c1,ζ A2 n2 c2,ζ A3 n3 c3,ζ A9 m9 c9,.map (φ g)] 151) _).trans (hG.e.trans yp))) (by omega) hB))) HV.e (Bb HV.e) ⟨_,_,_,rfl⟩ (by omega) (by simp;omega) k0 k1 k2 BM call171 (λk W hk gX=>Wv (by omega) (by have:=HV.e.nb;omega) (Kg.grown gX (by simp;omega)))
        have Dh:=aij hX (by show B<=w2.heap.size;omega) dq hs
        simp only[GP,Ahr] at Dh;have O2:=ψ Dh;have AV:=ψ (Ϗ yp dq);clear ak k0 k1 k2 yp dq Kg hX Dh)
     | (go_at_call 170;refine O2.e.mono ?_;rintro e w3 ⟨rfl,BL,pA⟩;have oR:=ψ (Ϗ BL pA);clear BL pA))
    go_roundw;case rel=>exact⟨i+1,by omega,by go_num,ψ (by
     have h0:=aW.e;rw[NX.e];unfold rS at h0 |-
     revert h0
     cases mE b (cw (aH b)) mI i with
     |none=>exact id
     |some p=>
      rintro⟨k1,k2,k3⟩;exact⟨GJ (GJ k1 hK.out AV.e.1) AV.e.2 oR.e.1,k2,k3⟩),
     ψ (hG.e.trans (AV.e.1.trans oR.e.1)),ψ oR.e.2⟩
    case measure=>simp[ϙ];omega
   |some l=>
    have ry:CY b l:=by
     have:=Od HV.e _ [] l (by simp) hs
     exact⟨by simpa using this.1,this.2⟩
    have HL:=ψ ry;obtain⟨q,hq⟩:∃q,q=mI l:=⟨_,rfl⟩
    have HQ:=ψ hq;clear ry hq;have NX:Hid (mE b (cw (aH b)) mI (i+1)=rU mI (mE b (cw (aH b)) mI i) l):=ψ (by rw[qP];unfold xX;rw[hs])
    go_wp2_with (first
     | (go_at_call 122;refine(QD (B:=wr.heap.size) (ps:=aH b) kX (by simp) ⟨_,_,_,rfl⟩ ⟨_,_,_,rfl⟩ ⟨_,_,_,rfl⟩).mono ?_;rintro e w2 ⟨gn,rfl,k0,k1,k2,BM,ak⟩
        have bu:wr.heap.size+1<=w2.heap.size:=by have:=ak.size;simpa using this
        have yp:wr.grownBy w2 (φ g):=(ϯ wr (Ξ #[ξ κ i] 3) _).trans (py ak (ϊ _) _);have dq:fI w2 g b:=hK.e.grown (row:=ν) ((ϯ wr (Ξ #[ξ κ i] 3) _).trans (py ak (ϊ _) _)) (by simp)
        have Kg:Bk w2 wr.heap.size 3 #[ξ κ i]:=(Bk.new wr _ _).below ak (by simp)
        have hX:=Uk (KO:=171) (pP:=#[π (φ ⟨wr.heap.size,0,ν⟩)]) (out:=oa i) (B:=B) (bV.e.still ((K1 ((py a8.e (ϊ _) _).trans ((ϯ w1 (Ξ #[ξ κ b.ab,ζ A1 n1 c1,ζ A2 n2 c2,ζ A3 n3 c3,ζ A9 m9 c9,.map (φ g)] 151) _).trans (hG.e.trans yp))) (by omega) hB))) HV.e (Bb HV.e) ⟨_,_,_,rfl⟩ (by omega) (by simp;omega) k0 k1 k2 BM call171 (λk W hk gX=>Wv (by omega) (by have:=HV.e.nb;omega) (Kg.grown gX (by simp;omega)))
        have Dh:=aik hX (by show B<=w2.heap.size;omega) dq hs
        simp only[GP,Ahr] at Dh;have O2:=ψ Dh;have AV:=ψ (Ϗ yp dq);clear ak k0 k1 k2 yp dq Kg hX Dh)
     | (go_at_call 170;refine O2.e.mono ?_;rintro e w3 ⟨v,rfl,Ae,BL,pA⟩
        obtain⟨A8,m8,c8,rfl⟩:=qx Ae;have Mo:=hG.e.trans (AV.e.1.trans BL);have Eu:Bk w3 w1.heap.size 151 #[ξ κ b.ab,ζ A1 n1 c1,ζ A2 n2 c2,ζ A3 n3 c3,ζ A9 m9 c9,.map (φ g)]:=(Bk.new w1 _ _).grown Mo (by simp;omega)
        have km3:Bk w3 (w.heap.size+1) 145 #[.func (.func KM) #[] #[]]:=(FR.e.2.2.2.alloc (Ξ #[ξ κ b.ab,ζ A1 n1 c1,ζ A2 n2 c2,ζ A3 n3 c3,ζ A9 m9 c9,.map (φ g)] 151)).grown Mo (by simp;omega)
        have s0:=Eu.cell 0;have s1:=Eu.cell 1;have s2:=Eu.cell 2;have s3:=Eu.cell 3;have s4:=Eu.cell 4;have s5:=Eu.cell 5;have t0: w3.cell? ⟨w.heap.size+1,0,ν⟩=φ (.func (.func KM) #[] #[]):=km3.cell 0;have oR:=ψ (Ϗ BL (Ϗ pA (Ϗ Ae Mo)));clear BL pA Ae Mo Eu km3))
    have hlen:l.length=b.pieces.length:=HL.e.1;have Ae:w3.ownsRow w3.heap.size.pred 56 2 (ζ A8 m8 c8) l.length (l.flatMap Cut.vs)\/True:=.inr trivial;have SE:Row w3 w3.heap.size 2 Cut.R (ζ A8 m8 c8) l:=tX (by rw[hlen];exact oR.e.2.2.1) (λ_=>rfl) (λ_ _=>rfl)
    have ZV:Δ B w w3:=K1 ((py a8.e (ϊ _) _).trans ((ϯ w1 (Ξ #[ξ κ b.ab,ζ A1 n1 c1,ζ A2 n2 c2,ζ A3 n3 c3,ζ A9 m9 c9,.map (φ g)] 151) _).trans oR.e.2.2.2)) (by omega) hB
    have aab:w1.heap.size+1<=w3.heap.size:=by have:=oR.e.2.2.2.size;simpa using this
    have Qo:=HMM.e w3 (ζ A9 m9 c9) (ζ A8 m8 c8) g l ZV (by omega) ⟨_,_,_,rfl⟩ SE HL.e
    rw[<-HQ.e] at Qo;clear hlen Ae ZV;refine Qo.mono ?_
    rintro e w4 ⟨rfl,cx⟩;have ZM:Row w4 w3.heap.size 2 Cut.R (ζ A8 m8 c8) l:=SE.still (Δ.aN cx (ϊ _)) λ_ _ h=>h
    have HF:=ψ (Ϗ (oR.e.2.2.2.trans (py cx (ϊ _) (φ g))) (oR.e.2.1.below cx oR.e.2.1.lt));have ZC:w4.ownsRow (w1.heap.size+1) 56 2 (ζ A8 m8 c8) b.pieces.length (l.flatMap Cut.vs):=(xz (GJ oR.e.2.2.1 oR.e.2.1 (World.grownBy.refl _ _)) cx (ϊ _)).base (by have:=AV.e.1.size;show w1.heap.size+1<=w2.heap.size;omega)
    have C9:=ψ ZC;have HR4:=ψ ZM;have xt:=cx.size;have vO:=aW.e;clear SE ZM ZC Qo;cases kV:mE b (cw (aH b)) mI i with
    |none=>
     rw[kV] at vO;obtain⟨rfl,rfl,rfl⟩:=vO;have wI:Hid (rS w4 (w1.heap.size+1) b.pieces.length (rU mI ν l) (ζ A8 m8 c8) (ξ κ q) (.bool θ)):=ψ ⟨C9.e,by rw[HQ.e],rfl⟩
     clear cx;go_wp2;go_roundw;case rel=>exact⟨i+1,by omega,by go_num,ψ (by rw[NX.e,kV];exact wI.e),ψ HF.e.1,ψ HF.e.2⟩
     case measure=>simp[ϙ];omega
    |some p=>
     obtain⟨c,m⟩:=p;rw[kV] at vO;obtain⟨Ss,rfl,rfl⟩:=vO;obtain⟨A7,m7,c7,rfl⟩:=qx Ss;have Su:w4.ownsRow (w1.heap.size+1) 56 2 (ζ A7 m7 c7) b.pieces.length (c.flatMap Cut.vs):=xz (GJ (GJ Ss hK.out AV.e.1) AV.e.2 oR.e.1) cx (ϊ _);have DY:CY b c:=LM HV.e i c m kV;have nX:Row w4 w4.heap.size 2 Cut.R (ζ A7 m7 c7) c:=tX (by rw[DY.1];exact Su) (λ_=>rfl) (λ_ _=>rfl)
     have O4:=ψ (agu (HR4.e.more xt) nX (ϊ _) (HL.e.1.trans DY.1.symm) (ab9 HV.e HL.e) (ab9 HV.e DY));have VP:=ψ Su;clear cx Ss Su DY nX;by_cases h1:q<m
     ·have wI:Hid (rS w4 (w1.heap.size+1) b.pieces.length (rU mI (φ (c,m)) l) (ζ A8 m8 c8) (ξ κ q) (.bool θ)):=ψ (by
       rw[Wy (.inl (by rw[<-HQ.e];exact h1))];exact⟨C9.e,by rw[HQ.e],rfl⟩)
      go_wp2;go_roundw;case rel=>exact⟨i+1,by omega,by go_num,ψ (by rw[NX.e,kV];exact wI.e),ψ HF.e.1,ψ HF.e.2⟩
      case measure=>simp[ϙ];omega
     ·by_cases h2:q=m
      ·subst h2
       obtain⟨C,hC⟩:∃C,C=j7 l c:=⟨_,rfl⟩
       have HC:=ψ hC;rw[<-hC] at O4;clear hC;by_cases h3:C<0
       ·have wI:∀w5,Γ w4.heap.size w4 w5->Hid (rS w5 (w1.heap.size+1) b.pieces.length (rU mI (φ (c,q)) l) (ζ A8 m8 c8) (ξ κ q) (.bool θ)):=λw5 h5=>ψ (by
           rw[Wy (.inr ⟨HQ.e.symm,by rw[<-HC.e];exact h3⟩)];exact⟨xz C9.e h5 (ϊ _),by rw[HQ.e],rfl⟩)
        have PF:=ψ wI;clear wI;go_wp2_with (first
           | (go_at_call 172;refine O4.e.mono ?_;rintro e w5 ⟨rfl,mF⟩;have sC:=ψ mF;clear mF))
        go_roundw;case rel=>exact⟨i+1,by omega,by go_num,ψ (by rw[NX.e,kV];exact(PF.e w5 sC.e).e),ψ (HF.e.1.trans (py sC.e (ϊ _) _)),ψ (HF.e.2.below sC.e HF.e.2.lt)⟩
        case measure=>simp[ϙ];omega
       ·have wI:∀w5,Γ w4.heap.size w4 w5->Hid (rS w5 (w1.heap.size+1) b.pieces.length (rU mI (φ (c,q)) l) (ζ A7 m7 c7) (ξ κ q) (.bool θ)):=λw5 h5=>ψ (by
           rw[Wx (by rw[<-HQ.e,<-HC.e];omega)];exact⟨xz VP.e h5 (ϊ _),rfl,rfl⟩)
        have PF:=ψ wI;clear wI;go_wp2_with (first
           | (go_at_call 172;refine O4.e.mono ?_;rintro e w5 ⟨rfl,mF⟩;have sC:=ψ mF;clear mF))
        go_roundw;case rel=>exact⟨i+1,by omega,by go_num,ψ (by rw[NX.e,kV];exact(PF.e w5 sC.e).e),ψ (HF.e.1.trans (py sC.e (ϊ _) _)),ψ (HF.e.2.below sC.e HF.e.2.lt)⟩
        case measure=>simp[ϙ];omega
      ·have h4:(q==m)=χ:=by simpa using h2
       have wI:Hid (rS w4 (w1.heap.size+1) b.pieces.length (rU mI (φ (c,m)) l) (ζ A7 m7 c7) (ξ κ m) (.bool θ)):=ψ (by
        rw[Wx (by rw[<-HQ.e];omega)];exact⟨VP.e,rfl,rfl⟩)
       go_wp2;go_roundw;case rel=>exact⟨i+1,by omega,by go_num,ψ (by rw[NX.e,kV];exact wI.e),ψ HF.e.1,ψ HF.e.2⟩
       case measure=>simp[ϙ];omega
  ·obtain rfl:i=M:=by omega
   have sC:Hid (Γ w.heap.size w wr):=ψ (a8.e.trans (Ahm ((ώ _ _).alloc (by omega) _) hG.e (by simp;omega) (λk e=>by cases e;omega)))
   go_wp2;refine ă (v:=μ #[u4,u5,u6,ξ κ 0]) (by simp[results,Tryz.results117,go_sem]) rfl ?_
   refine⟨u4,u5,u6,rfl,?_,sC.e⟩
   rw[E2.e.1,<-E2.e.2];exact aW.e.base (by omega)
def Wz(hB:B<=w.heap.size)(ai:bq w B b pv bv tv)(h:cG b 0≠0):
 ύ prog 117 #[η #[ξ κ b.ab,pv,bv,tv],η #[.func (.func KM) #[] #[]]] w λe w'=>e=Ω (μ #[ζ ν 0 0,ξ κ 0,.bool χ,ξ κ (cG b 0)])/\Γ w.heap.size w w':=by
 have st:Δ B w ((w.alloc (Ξ #[ξ κ b.ab,pv,bv,tv] 26)).alloc (Ξ #[.func (.func KM) #[] #[]] 145)):=((Δ.refl w).alloc hB _).alloc (by simp;omega) _
 have aE:=ψ (arD (w:=((w.alloc (Ξ #[ξ κ b.ab,pv,bv,tv] 26)).alloc (Ξ #[.func (.func KM) #[] #[]] 145))) (B:=B) (by simp;omega) (ai.still st) h)
 unfold ab7 at aE;obtain⟨s,hs⟩:∃s,s=cG b 0:=⟨_,rfl⟩
 rw[<-hs] at aE h |-
 obtain⟨A1,n1,c1,rfl,-⟩:=ai.pieces.Φ;obtain⟨A2,n2,c2,rfl,-⟩:=ai.aF.Φ;obtain⟨A3,n3,c3,rfl,-⟩:=ai.aM.Φ;clear ai st hs;go_enter func117,Tryz.ntmps117;go_wp2_with (first
  | (go_at_call 119;refine aE.e.mono ?_;rintro e w1 ⟨g,rfl,ag⟩
     have a8:Hid (Γ w.heap.size w w1):=ψ ((((ώ _ _).alloc (ϊ _) _).alloc (by simp) _).trans (ag.mono (by simp;omega)));clear ag))
 refine ă (v:=μ #[ζ ν 0 0,ξ κ 0,.bool χ,ξ κ s]) (by simp[results,Tryz.results117,go_sem]) rfl ⟨rfl,?_⟩
 exact a8.e.alloc a8.e.size _
def nB(w:Ψ):Prop:=∃fr,w.heap[0]?=φ (Ξ #[.func (.func 234) #[] #[],.func (.func 236) #[] #[]] 146 fr)
def nB.cell{w:Ψ}(h:nB w)(i:Nat): w.cell? ⟨0,i,ν⟩=(#[.func (.func 234) #[] #[],.func (.func 236) #[] #[]]:Array υ)[i]?:=by
 obtain⟨fr,h⟩:=h;exact cell_of_row w 0 i _ 146 fr h
def nB.lt(h:nB w):0<w.heap.size:=by
 obtain⟨fr,h⟩:=h;exact(Ϝ.1 h).1
def nB.below(h:nB w)(hb:Γ B w w')(hB:0<B):nB w':=by
 obtain⟨fr,h⟩:=h;exact⟨fr,(hb.block 0 hB).trans h⟩
def pB(l:List Cut):Int:=(pD l).length
def Km(b:an)(l:List Cut):Int:=sn b (pD l)
def al3(ai:bq w B b pv bv tv)(hv:Valid b):PN b pv bv tv 234 pB w B:=by
 refine⟨call234,λW sv lv g l hW hB hs hl hg=>?_⟩
 obtain⟨A1,n1,c1,e1,-⟩:=ai.pieces.Φ;obtain⟨A2,n2,c2,e2,-⟩:=ai.aF.Φ;obtain⟨A3,n3,c3,e3,-⟩:=ai.aM.Φ;exact an2 (g:=g) hl (ϊ _) (by have:=hg.1;have:=hv.np;omega) ⟨_,_,_,e1⟩ ⟨_,_,_,e2⟩ ⟨_,_,_,e3⟩ hs
def al4(ai:bq w B b pv bv tv)(hv:Valid b):PN b pv bv tv 236 (Km b) w B:=by
 refine⟨call236,λW sv lv g l hW hB hs hl hg=>?_⟩
 have Ru:=ai.still hW;have Rv:bq W W.heap.size b pv bv tv:=⟨Ru.pieces.more hB,(Ru.aF.more hB).still (Δ.refl _) λx cs h=>by obtain⟨kv,h1,h2,h3⟩:=h;exact⟨kv,h1,h2,h3.more hB⟩,(Ru.aM.more hB).still (Δ.refl _) λx cs h=>by obtain⟨kv,h1,h2⟩:=h;exact⟨kv,h1,h2.more hB⟩⟩
 exact an3 (g:=g) Rv hl (ϊ _) (by have:=hg.1;have:=hv.np;omega) hs (λc hc=>(hg.2 c hc).bm) λx hx=>by have:=(hv.bm x hx).aw;omega
def ow(b:an)(mI:List Cut->Int):Option (List Cut×Int):=if cG b 0=0 then mE b (cw (aH b)) mI (2 ^ b.aF.length) else ν
def E5(w:Ψ)(b:an)(mI:List Cut->Int)(e:ņ)(w':Ψ):Prop:=
 ∃cv mv fv,e=Ω (μ #[cv,mv,fv,ξ κ (cG b 0)])/\rS w' w.heap.size b.pieces.length (ow b mI) cv mv fv/\Γ w.heap.size w w'
def QO(hB:B<=w.heap.size)(ai:bq w B b pv bv tv)(hg:nB w):
 ύ prog 33 #[η #[ξ κ b.ab,pv,bv,tv]] w (E5 w b pB):=by
 have st:Δ B w (w.alloc (Ξ #[ξ κ b.ab,pv,bv,tv] 26)):=(Δ.refl w).alloc hB _;have call:ύ prog 117 #[η #[ξ κ b.ab,pv,bv,tv],η #[.func (.func 234) #[] #[]]] (w.alloc (Ξ #[ξ κ b.ab,pv,bv,tv] 26)) λe w'=>
  ∃cv mv fv,e=Ω (μ #[cv,mv,fv,ξ κ (cG b 0)])/\Hid (rS w' w.heap.size b.pieces.length (ow b pB) cv mv fv/\Γ w.heap.size w w'):=by
  by_cases h:cG b 0=0
  ·refine(WB (w:=w.alloc (Ξ #[ξ κ b.ab,pv,bv,tv] 26)) (B:=B) (KM:=234) (by simp;omega) (ai.still st) (al3 (ai.still st) (oc (vU h).1)) h).mono ?_
   rintro e w' ⟨cv,mv,fv,rfl,h1,h2⟩;refine⟨cv,mv,fv,by rw[h],ψ ⟨?_,db (ώ _ _) h2 (ϊ _)⟩⟩
   unfold ow;rw[if_pos h];exact h1.base (by simp)
  ·refine(Wz (w:=w.alloc (Ξ #[ξ κ b.ab,pv,bv,tv] 26)) (B:=B) (KM:=234) (by simp;omega) (ai.still st) h).mono ?_
   rintro e w' ⟨rfl,h2⟩;refine⟨_,_,_,rfl,ψ ⟨?_,db (ώ _ _) h2 (ϊ _)⟩⟩
   unfold ow;rw[if_neg h];exact⟨rfl,rfl,rfl⟩
 have aE:=ψ call;obtain⟨s,hs⟩:∃s,s=cG b 0:=⟨_,rfl⟩
 rw[<-hs] at aE;have HS:=ψ hs;obtain⟨A1,n1,c1,rfl,-⟩:=ai.pieces.Φ;obtain⟨A2,n2,c2,rfl,-⟩:=ai.aF.Φ;obtain⟨A3,n3,c3,rfl,-⟩:=ai.aM.Φ;have g0: w.cell? ⟨0,0,ν⟩=φ (.func (.func 234) #[] #[]):=nB.cell hg 0;have h0:0<w.heap.size:=nB.lt hg;clear ai st hg call hs;go_enter func33,Tryz.ntmps33;go_wp2_with (first
  | (go_at_call 117;refine aE.e.mono ?_;rintro e w1 ⟨cv,mv,fv,rfl,Ea⟩))
 refine ă (v:=μ #[cv,mv,fv,ξ κ s]) (by simp[results,Tryz.results33,go_sem]) rfl ⟨cv,mv,fv,by rw[HS.e],Ea.e.1,Ea.e.2⟩
def arE(hB:B<=w.heap.size)(ai:bq w B b pv bv tv)(hg:nB w):
 ύ prog 36 #[η #[ξ κ b.ab,pv,bv,tv]] w (E5 w b (Km b)):=by
 have st:Δ B w (w.alloc (Ξ #[ξ κ b.ab,pv,bv,tv] 26)):=(Δ.refl w).alloc hB _;have call:ύ prog 117 #[η #[ξ κ b.ab,pv,bv,tv],η #[.func (.func 236) #[] #[]]] (w.alloc (Ξ #[ξ κ b.ab,pv,bv,tv] 26)) λe w'=>
  ∃cv mv fv,e=Ω (μ #[cv,mv,fv,ξ κ (cG b 0)])/\Hid (rS w' w.heap.size b.pieces.length (ow b (Km b)) cv mv fv/\Γ w.heap.size w w'):=by
  by_cases h:cG b 0=0
  ·refine(WB (w:=w.alloc (Ξ #[ξ κ b.ab,pv,bv,tv] 26)) (B:=B) (KM:=236) (by simp;omega) (ai.still st) (al4 (ai.still st) (oc (vU h).1)) h).mono ?_
   rintro e w' ⟨cv,mv,fv,rfl,h1,h2⟩;refine⟨cv,mv,fv,by rw[h],ψ ⟨?_,db (ώ _ _) h2 (ϊ _)⟩⟩
   unfold ow;rw[if_pos h];exact h1.base (by simp)
  ·refine(Wz (w:=w.alloc (Ξ #[ξ κ b.ab,pv,bv,tv] 26)) (B:=B) (KM:=236) (by simp;omega) (ai.still st) h).mono ?_
   rintro e w' ⟨rfl,h2⟩;refine⟨_,_,_,rfl,ψ ⟨?_,db (ώ _ _) h2 (ϊ _)⟩⟩
   unfold ow;rw[if_neg h];exact⟨rfl,rfl,rfl⟩
 have aE:=ψ call;obtain⟨s,hs⟩:∃s,s=cG b 0:=⟨_,rfl⟩
 rw[<-hs] at aE;have HS:=ψ hs;obtain⟨A1,n1,c1,rfl,-⟩:=ai.pieces.Φ;obtain⟨A2,n2,c2,rfl,-⟩:=ai.aF.Φ;obtain⟨A3,n3,c3,rfl,-⟩:=ai.aM.Φ;have g0: w.cell? ⟨0,1,ν⟩=φ (.func (.func 236) #[] #[]):=nB.cell hg 1;have h0:0<w.heap.size:=nB.lt hg;clear ai st hg call hs;go_enter func36,Tryz.ntmps36;go_wp2_with (first
  | (go_at_call 117;refine aE.e.mono ?_;rintro e w1 ⟨cv,mv,fv,rfl,Ea⟩))
 refine ă (v:=μ #[cv,mv,fv,ξ κ s]) (by simp[results,Tryz.results36,go_sem]) rfl ⟨cv,mv,fv,by rw[HS.e],Ea.e.1,Ea.e.2⟩
def QJ{xs ys:List α}(hl:xs.length=ys.length)(h:∀(j:Nat) (x:α),j<xs.length->xs[j]?=φ x->ys[j]?=φ x):xs=ys:=by
 apply List.ext_getElem?;intro j;by_cases hj:j<xs.length
 ·rw[Ä hj,h j _ hj (Ä hj)]
 ·rw[Ah7 (by omega),Ah7 (by omega)]
def L8{xs ys:List Int}(ha:Row w B 1 cH av xs)(hb:Row w B 1 cH bv ys)(hB:B<=w.heap.size):
 ύ prog 30 #[av,bv] w λe w'=>e=Ω (.bool (decide (xs=ys)))/\Γ w.heap.size w w':=by
 obtain⟨A1,n,c1,rfl,e1,h1,jx,r1⟩:=ha.Φ;obtain⟨A2,m,c2,rfl,e2,h2,ie,r2⟩:=hb.Φ;unfold ϕ at jx ie;have E:=ψ (Ϗ e1 e2);have R1:=ψ r1;have R2:=ψ r2;clear ha hb e1 e2 r1 r2;by_cases oE:n=m
 ·subst oE
  have hq:((n:Int) !=(n:Int))=χ:=by simp
  go_enter func30,Tryz.ntmps30;go_wp2;go_loopw [4,5] (λr k wr=>∃i:Nat,i<=n/\k=ξ κ i/\Hid (∀(j:Nat) (x:Int),j<i->xs[j]?=φ x->ys[j]?=φ x)/\Hid (Γ w.heap.size w wr)) (λ_ k _=>n - (ϙ k).toNat)
  case atStart=>exact⟨0,Ϡ _,rfl,ψ λj _ hj=>by omega,ψ (ώ _ _)⟩
  case round=>
   obtain⟨i,hi,rfl,bL,fF⟩:=hrel;have st:Δ B w wr:=Δ.aN fF.e hB;have aL:=fF.e.size;by_cases aj:i<n
   ·obtain⟨ad,x,cs,rfl,aD,hx,rfl,-,aq⟩:=R1.e i aj
    obtain⟨cI,y,qf,rfl,nu,hy,rfl,-,oB⟩:=R2.e i aj;have h0:=cA aq st aD rfl;have QZ:=cA oB st nu rfl;rw[Nat.mul_one] at h0 QZ;have q0:(ad.add i).block<wr.heap.size:=by rw[cq];omega
    have q02:(cI.add i).block<wr.heap.size:=by rw[cq];omega
    have HX:=ψ (Ϗ hx hy);clear hx hy aq oB;by_cases hxy:x=y
    ·have au:(x !=y)=χ:=by simp[hxy]
     have wJ:=ψ hxy;clear hxy;go_wp2;go_quiet (fail);go_wp2;go_roundw;case rel=>exact⟨i+1,by omega,by go_num,ψ λj z hj hz=>by
      rcases ε.1 hj with h|rfl
      ·exact bL.e j z h hz
      ·rw[HX.e.1] at hz;cases hz;rw[HX.e.2,wJ.e],ψ (oU fF.e _)⟩
     case measure=>simp[ϙ];omega
    ·have au:(x !=y)=θ:=by simpa using hxy
     have wJ:=ψ hxy;clear hxy;go_wp2;go_quiet (fail);go_wp2;go_ret;refine⟨cj ?_,oU fF.e _⟩
     simp only[Ŷ,decide_eq_false_iff_not];rintro rfl;have:=HX.e.1.symm.trans HX.e.2;exact wJ.e (Ϟ this)
   ·obtain rfl:i=n:=by omega
    go_wp2;go_ret;refine⟨cj ?_,fF.e⟩
    have:=QJ (xs:=xs) (ys:=ys) (by rw[E.e.1,E.e.2]) λj x hj hx=>bL.e j x (by rw[E.e.1] at hj;exact hj) hx
    simp[this]
 ·have hq:((n:Int) !=(m:Int))=θ:=by simp;omega
  have HQ:=ψ oE;clear oE;go_enter func30,Tryz.ntmps30;go_wp2;go_ret;refine⟨cj ?_,ώ _ _⟩
  simp only[Ŷ,decide_eq_false_iff_not];rintro rfl;exact HQ.e (E.e.1.symm.trans E.e.2)
def asa:Tryz.prog.stoodInHeld 37=χ:=by decide+kernel
def asb:Tryz.prog.stoodInHeld 56=χ:=by decide+kernel
def aiS:Tryz.prog.eqGuardType Tryz.prog.depth 37=χ:=by decide+kernel
def aiT:Tryz.prog.eqGuardType Tryz.prog.depth 56=χ:=by decide+kernel
def ahq(w:Ψ)(a b c d:Int):(Op.equalIn 10000 37 (η #[ξ κ a,ξ κ b]) (η #[ξ κ c,ξ κ d])).run prog w=.ok (a==c && b==d) w:=by
 have hu:=U Tryz.underlying37;rw[run_equalIn_struct w 9999 37 _ _ (by simp[Ahj,hu]) (by rw[acB];exact asa)]
 have h3:=U Tryz.underlying3;have hf:(prog.fieldsOf 37).toList=[{name:= "Low",type:=3,offset:=0,embedded:=χ,tag:= "",pkgPath:= "",byteOffset:=0},{name:= "High",type:=3,offset:=1,embedded:=χ,tag:= "",pkgPath:= "",byteOffset:=8}]:=by simp[Ahj,hu]
 rw[hf];cases h1:(a==c)<;>cases h2:(b==d)<;>simp[Op.eqFields,go_sem,h1,h2,run_equalIn_int,h3]
def ahr(w:Ψ)(a b c d:Int):(Op.equalIn 10000 56 (η #[ξ κ a,ξ κ b]) (η #[ξ κ c,ξ κ d])).run prog w=.ok (a==c && b==d) w:=by
 have hu:=U Tryz.underlying56;rw[run_equalIn_struct w 9999 56 _ _ (by simp[Ahj,hu]) (by rw[acB];exact asb)]
 have h3:=U Tryz.underlying3;have hf:(prog.fieldsOf 56).toList=[{name:= "Board",type:=3,offset:=0,embedded:=χ,tag:= "",pkgPath:= "",byteOffset:=0},{name:= "From",type:=3,offset:=1,embedded:=χ,tag:= "",pkgPath:= "",byteOffset:=8}]:=by simp[Ahj,hu]
 rw[hf];cases h1:(a==c)<;>cases h2:(b==d)<;>simp[Op.eqFields,go_sem,h1,h2,run_equalIn_int,h3]
def aa2(w:Ψ)(a b c d:Int):(binOp .neq 37 (η #[ξ κ a,ξ κ b]) (η #[ξ κ c,ξ κ d])).run prog w=.ok (.bool (!(a==c && b==d))) w:=by
 rw[run_neq_struct,ahq];rfl
def aa3(w:Ψ)(a b c d:Int):(binOp .neq 56 (η #[ξ κ a,ξ κ b]) (η #[ξ κ c,ξ κ d])).run prog w=.ok (.bool (!(a==c && b==d))) w:=by
 rw[run_neq_struct,ahr];rfl
def X8(w:Ψ)(op:BinOp)(x y:Ç)(xs ys:Array υ):(eqGuard op 37 x y (.agg xs) (.agg ys)).run prog w=.ok () w:=run_eqGuard_agg w op 37 x y xs ys (by simpa using aiS)
def X9(w:Ψ)(op:BinOp)(x y:Ç)(xs ys:Array υ):(eqGuard op 56 x y (.agg xs) (.agg ys)).run prog w=.ok () w:=run_eqGuard_agg w op 56 x y xs ys (by simpa using aiT)
def ahs{xs ys:List Span}(ha:Row w B 2 Span.R av xs)(hb:Row w B 2 Span.R bv ys)(hB:B<=w.heap.size):
 ύ prog 75 #[av,bv] w λe w'=>e=Ω (.bool (decide (xs=ys)))/\Γ w.heap.size w w':=by
 obtain⟨A1,n,c1,rfl,e1,h1,jx,r1⟩:=ha.Φ;obtain⟨A2,m,c2,rfl,e2,h2,ie,r2⟩:=hb.Φ;unfold ϕ at jx ie;have E:=ψ (Ϗ e1 e2);have R1:=ψ r1;have R2:=ψ r2;clear ha hb e1 e2 r1 r2;by_cases oE:n=m
 ·subst oE
  have hq:((n:Int) !=(n:Int))=χ:=by simp
  have qn:=aa2;have qg:=X8;go_enter func75,Tryz.ntmps75;go_wp2;go_loopw [4,5] (λr k wr=>∃i:Nat,i<=n/\k=ξ κ i/\Hid (∀(j:Nat) (x:Span),j<i->xs[j]?=φ x->ys[j]?=φ x)/\Hid (Γ w.heap.size w wr)) (λ_ k _=>n - (ϙ k).toNat)
  case atStart=>exact⟨0,Ϡ _,rfl,ψ λj _ hj=>by omega,ψ (ώ _ _)⟩
  case round=>
   obtain⟨i,hi,rfl,bL,fF⟩:=hrel;have st:Δ B w wr:=Δ.aN fF.e hB;have aL:=fF.e.size;by_cases aj:i<n
   ·obtain⟨ad,x,cs,rfl,aD,hx,rfl,-,aq⟩:=R1.e i aj
    obtain⟨cI,y,qf,rfl,nu,hy,rfl,-,oB⟩:=R2.e i aj;have h0:=cA aq st aD rfl;have h1c:=bH aq st aD 0 rfl;have QZ:=cA oB st nu rfl;have aiY:=bH oB st nu 0 rfl;have q0:(ad.add (i * 2)).block<wr.heap.size:=by rw[cq];omega
    have q02:(cI.add (i * 2)).block<wr.heap.size:=by rw[cq];omega
    have HX:=ψ (Ϗ hx hy);clear hx hy aq oB;by_cases hxy:x=y
    ·have au:(x.lo==y.lo && x.hi==y.hi)=θ:=by simp[hxy]
     have wJ:=ψ hxy;clear hxy;go_wp2;go_quiet (fail);go_wp2;go_roundw;case rel=>exact⟨i+1,by omega,by go_num,ψ λj z hj hz=>by
      rcases ε.1 hj with h|rfl
      ·exact bL.e j z h hz
      ·rw[HX.e.1] at hz;cases hz;rw[HX.e.2,wJ.e],ψ (oU fF.e _)⟩
     case measure=>simp[ϙ];omega
    ·have au:(x.lo==y.lo && x.hi==y.hi)=χ:=by
      rw[Ag7];intro h;simp only[Ϫ,beq_iff_eq] at h;exact hxy (by cases x;cases y;simp_all)
     have wJ:=ψ hxy;clear hxy;go_wp2;go_quiet (fail);go_wp2;go_ret;refine⟨cj ?_,oU fF.e _⟩
     simp only[Ŷ,decide_eq_false_iff_not];rintro rfl;have:=HX.e.1.symm.trans HX.e.2;exact wJ.e (Ϟ this)
   ·obtain rfl:i=n:=by omega
    go_wp2;go_ret;refine⟨cj ?_,fF.e⟩
    have:=QJ (xs:=xs) (ys:=ys) (by rw[E.e.1,E.e.2]) λj x hj hx=>bL.e j x (by rw[E.e.1] at hj;exact hj) hx
    simp[this]
 ·have hq:((n:Int) !=(m:Int))=θ:=by simp;omega
  have HQ:=ψ oE;clear oE;have qn:=aa2;have qg:=X8;go_enter func75,Tryz.ntmps75;go_wp2;go_ret;refine⟨cj ?_,ώ _ _⟩
  simp only[Ŷ,decide_eq_false_iff_not];rintro rfl;exact HQ.e (E.e.1.symm.trans E.e.2)
def Ui{xs ys:List Cut}(ha:Row w B 2 Cut.R av xs)(hb:Row w B 2 Cut.R bv ys)(hB:B<=w.heap.size):
 ύ prog 35 #[av,bv] w λe w'=>e=Ω (.bool (decide (xs=ys)))/\Γ w.heap.size w w':=by
 obtain⟨A1,n,c1,rfl,e1,h1,jx,r1⟩:=ha.Φ;obtain⟨A2,m,c2,rfl,e2,h2,ie,r2⟩:=hb.Φ;unfold ϕ at jx ie;have E:=ψ (Ϗ e1 e2);have R1:=ψ r1;have R2:=ψ r2;clear ha hb e1 e2 r1 r2;by_cases oE:n=m
 ·subst oE
  have hq:((n:Int) !=(n:Int))=χ:=by simp
  have qn:=aa3;have qg:=X9;go_enter func35,Tryz.ntmps35;go_wp2;go_loopw [4,5] (λr k wr=>∃i:Nat,i<=n/\k=ξ κ i/\Hid (∀(j:Nat) (x:Cut),j<i->xs[j]?=φ x->ys[j]?=φ x)/\Hid (Γ w.heap.size w wr)) (λ_ k _=>n - (ϙ k).toNat)
  case atStart=>exact⟨0,Ϡ _,rfl,ψ λj _ hj=>by omega,ψ (ώ _ _)⟩
  case round=>
   obtain⟨i,hi,rfl,bL,fF⟩:=hrel;have st:Δ B w wr:=Δ.aN fF.e hB;have aL:=fF.e.size;by_cases aj:i<n
   ·obtain⟨ad,x,cs,rfl,aD,hx,rfl,-,aq⟩:=R1.e i aj
    obtain⟨cI,y,qf,rfl,nu,hy,rfl,-,oB⟩:=R2.e i aj;have h0:=cA aq st aD rfl;have h1c:=bH aq st aD 0 rfl;have QZ:=cA oB st nu rfl;have aiY:=bH oB st nu 0 rfl;have q0:(ad.add (i * 2)).block<wr.heap.size:=by rw[cq];omega
    have q02:(cI.add (i * 2)).block<wr.heap.size:=by rw[cq];omega
    have HX:=ψ (Ϗ hx hy);clear hx hy aq oB;by_cases hxy:x=y
    ·have au:(x.bm==y.bm && x.from_==y.from_)=θ:=by simp[hxy]
     have wJ:=ψ hxy;clear hxy;go_wp2;go_quiet (fail);go_wp2;go_roundw;case rel=>exact⟨i+1,by omega,by go_num,ψ λj z hj hz=>by
      rcases ε.1 hj with h|rfl
      ·exact bL.e j z h hz
      ·rw[HX.e.1] at hz;cases hz;rw[HX.e.2,wJ.e],ψ (oU fF.e _)⟩
     case measure=>simp[ϙ];omega
    ·have au:(x.bm==y.bm && x.from_==y.from_)=χ:=by
      rw[Ag7];intro h;simp only[Ϫ,beq_iff_eq] at h;exact hxy (by cases x;cases y;simp_all)
     have wJ:=ψ hxy;clear hxy;go_wp2;go_quiet (fail);go_wp2;go_ret;refine⟨cj ?_,oU fF.e _⟩
     simp only[Ŷ,decide_eq_false_iff_not];rintro rfl;have:=HX.e.1.symm.trans HX.e.2;exact wJ.e (Ϟ this)
   ·obtain rfl:i=n:=by omega
    go_wp2;go_ret;refine⟨cj ?_,fF.e⟩
    have:=QJ (xs:=xs) (ys:=ys) (by rw[E.e.1,E.e.2]) λj x hj hx=>bL.e j x (by rw[E.e.1] at hj;exact hj) hx
    simp[this]
 ·have hq:((n:Int) !=(m:Int))=θ:=by simp;omega
  have HQ:=ψ oE;clear oE;have qn:=aa3;have qg:=X9;go_enter func35,Tryz.ntmps35;go_wp2;go_ret;refine⟨cj ?_,ώ _ _⟩
  simp only[Ŷ,decide_eq_false_iff_not];rintro rfl;exact HQ.e (E.e.1.symm.trans E.e.2)
def EG(w:Ψ)(n:Int):ύ prog 50 #[ξ κ n] w λe w'=>e=Ω (η #[ξ κ n,ξ κ n])/\w'=w.alloc (Ξ #[ξ κ n,ξ κ n] 37):=by
 go_enter func50,Tryz.ntmps50;go_wp2;refine ă (v:=η #[ξ κ n,ξ κ n]) (by simp[results,Tryz.results50,go_sem]) rfl ⟨rfl,rfl⟩
def UK(w:Ψ)(a b:Int):ύ prog 67 #[ξ κ a,ξ κ b] w λe w'=>e=Ω (η #[ξ κ a,ξ κ b])/\w'=w.alloc (Ξ #[ξ κ a,ξ κ b] 37):=by
 go_enter func67,Tryz.ntmps67;go_wp2;refine ă (v:=η #[ξ κ a,ξ κ b]) (by simp[results,Tryz.results67,go_sem]) rfl ⟨rfl,rfl⟩
def fl(w:Ψ)(a b:Int):ύ prog 66 #[ξ κ a,ξ κ b] w λe w'=>e=Ω (η #[ξ κ a,ξ κ b])/\w'=w.alloc (Ξ #[ξ κ a,ξ κ b] 56):=by
 go_enter func66,Tryz.ntmps66;go_wp2;refine ă (v:=η #[ξ κ a,ξ κ b]) (by simp[results,Tryz.results66,go_sem]) rfl ⟨rfl,rfl⟩
def agK(w:Ψ):ύ prog 95 #[] w λe w'=>∃g,e=Ω (ζ (φ ⟨g,0,ν⟩) 3 3)/\w.heap.size<=g/\Bk w' g 56 #[ξ κ 1,ξ κ 0,ξ κ 0,ξ κ 0,ξ κ 0,ξ κ 4]/\Γ w.heap.size w w':=by
 go_enter func95,Tryz.ntmps95;go_wp2_with (first
  | (go_at_call 66;refine(fl _ _ _).mono ?_;rintro e w1 ⟨rfl,rfl⟩))
 go_ret;refine⟨w.heap.size+1+1+1,rfl,by omega,Bk.cD (by simp) _ _,?_⟩
 exact((((ώ _ _).alloc (ϊ _) _).alloc (by simp) _).alloc (by simp;omega) _).alloc (by simp;omega) _
def Nu:ByteArray:={data:=#[107,101,101,108]}
def Nv:ByteArray:={data:=#[114,105,98]}
def Nt:ByteArray:={data:=#[97,114,109]}
def Kp:ByteArray:={data:=#[101,108,109]}
def Kq:ByteArray:={data:=#[111,97,107]}
structure C7(w:Ψ)(base gp gb gk gt gl:Nat):Prop where
 p:Bk w gp 72 #[.string Nu,ξ κ 4,ξ κ 5,ξ κ 0,.string Nv,ξ κ 3,ξ κ 3,ξ κ 1,.string Nt,ξ κ 2,ξ κ 3,ξ κ 0]
 b:Bk w gb 59 #[.string Kp,ξ κ 8,ζ (φ ⟨gk,0,ν⟩) 1 1,.string Kq,ξ κ 6,ζ ν 0 0]
 k:Bk w gk 37 #[ξ κ 3,ξ κ 3]
 t:Bk w gt 95 #[ζ (φ ⟨gl,0,ν⟩) 2 2,ξ κ 7,ξ κ 7]
 l:Bk w gl 3 #[ξ κ 0,ξ κ 2]
 hp:base<=gp
 hb:base<=gb
 hk:base<=gk
 ht:base<=gt
 hl:base<=gl
def ahM(w:Ψ)(e:ņ)(w':Ψ):Prop:=
 ∃gp gb gk gt gl,e=Ω (η #[ξ κ 1,ζ (φ ⟨gp,0,ν⟩) 3 3,ζ (φ ⟨gb,0,ν⟩) 2 2,ζ (φ ⟨gt,0,ν⟩) 1 1])/\C7 w' w.heap.size gp gb gk gt gl/\Γ w.heap.size w w'
def ahW(w:Ψ):ύ prog 94 #[] w (ahM w):=by
 go_enter func94,Tryz.ntmps94;go_wp2_with (first
  | (go_at_call 67;refine(UK _ _ _).mono ?_;rintro e w1 ⟨rfl,rfl⟩)
  | (go_at_call 50;refine(EG _ _).mono ?_;rintro e w1 ⟨rfl,rfl⟩))
 refine ă (v:=η #[ξ κ 1,ζ (φ ⟨w.heap.size+1+1+1+1,0,ν⟩) 3 3,ζ (φ ⟨w.heap.size+1+1+1+1+1+1+1,0,ν⟩) 2 2,ζ (φ ⟨w.heap.size+1+1+1+1+1+1+1+1+1+1,0,ν⟩) 1 1]) (by simp[results,Tryz.results94,go_sem]) rfl ?_
 refine⟨_,_,w.heap.size+1+1+1+1+1+1,_,w.heap.size+1+1+1+1+1+1+1+1,rfl,⟨?_,?_,?_,?_,?_,by omega,by omega,by omega,by omega,by omega⟩,?_⟩
 ·repeat first|exact Bk.cD (by simp) _ _|refine Bk.alloc ?_ _
 ·repeat first|exact Bk.cD (by simp) _ _|refine Bk.alloc ?_ _
 ·repeat first|exact Bk.cD (by simp) _ _|refine Bk.alloc ?_ _
 ·repeat first|exact Bk.cD (by simp) _ _|refine Bk.alloc ?_ _
 ·repeat first|exact Bk.cD (by simp) _ _|refine Bk.alloc ?_ _
 ·repeat first|exact ώ _ _|refine ţ ?_ (by simp;try omega) _
def bg:an:=⟨1,[⟨Nu,⟨4,5⟩,0⟩,⟨Nv,⟨3,3⟩,1⟩,⟨Nt,⟨2,3⟩,0⟩],[⟨Kp,8,[⟨3,3⟩]⟩,⟨Kq,6,[]⟩],[⟨[0,2],⟨7,7⟩⟩]⟩
def fM:List Cut:=[⟨1,0⟩,⟨0,0⟩,⟨0,4⟩]
def EM{sz e:Nat}{R:α->List υ->Prop}{xs:List α}{vz:List (List υ)}(hb:Bk w g e cs)(hg:g<B)(au:xs≠ [])(hlen:vz.length=xs.length)(hx:xs.length<=1000)
 (hR:∀(i:Nat) (x:α) (c:List υ),xs[i]?=φ x->vz[i]?=φ c->R x c/\c.length=sz)(hc:∀(i:Nat) (c:List υ),vz[i]?=φ c->∀(j:Nat) (u:υ),c[j]?=φ u->cs[i * sz+j]?=φ u)(RF:xs.length<=c)(rZ:c<=1000):Row w B sz R (ζ (φ ⟨g,0,ν⟩) xs.length c) xs:=by
 refine⟨_,c,rfl,RF,by unfold ϕ;omega,λ_=>⟨⟨g,0,ν⟩,rfl,hg,λi x hi=>?_⟩⟩
 have BP:i<xs.length:=(ϩ.1 hi).1
 obtain⟨c,YC⟩:∃c,vz[i]?=φ c:=⟨vz[i]'(by omega),Ä _⟩
 obtain⟨h1,h2⟩:=hR i x c hi YC;refine⟨c,h1,h2,λj u hu=>?_⟩
 have:=hc i c YC j u hu;rw[uG];unfold World.cell?;rw[show w.heap[(⟨g,i * sz+j,ν⟩:ϖ).block]?=φ (.cells cs e) from hb]
 simpa using this
def rq{base gp gb gk gt gl:Nat}(h:C7 w base gp gb gk gt gl):bq w w.heap.size bg (ζ (φ ⟨gp,0,ν⟩) 3 3) (ζ (φ ⟨gb,0,ν⟩) 2 2) (ζ (φ ⟨gt,0,ν⟩) 1 1):=by
 have hk:Row w w.heap.size 2 Span.R (ζ (φ ⟨gk,0,ν⟩) 1 1) [⟨3,3⟩]:=EM (xs:=[(⟨3,3⟩:Span)]) (sz:=2) (R:=Span.R) (vz:=[[ξ κ 3,ξ κ 3]]) h.k h.k.lt (by simp) rfl (by simp) (λi x c hx hc=>by
  match i with
  |0=>cases hx;cases hc;exact⟨rfl,rfl⟩
  |i+1=>simp at hx) (λi c hc j u hu=>by
  match i with
  |0=>
   cases hc;match j with
   |0=>exact hu
   |1=>exact hu
   |j+2=>simp at hu
  |i+1=>simp at hc) (c:=1) (by simp) (by omega)
 have hl:Row w w.heap.size 1 cH (ζ (φ ⟨gl,0,ν⟩) 2 2) [0,2]:=EM (xs:=[(0:Int),2]) (sz:=1) (R:=cH) (vz:=[[ξ κ 0],[ξ κ 2]]) h.l h.l.lt (by simp) rfl (by simp) (λi x c hx hc=>by
  match i with
  |0=>cases hx;cases hc;exact⟨rfl,rfl⟩
  |1=>cases hx;cases hc;exact⟨rfl,rfl⟩
  |i+2=>simp at hx) (λi c hc j u hu=>by
  match i with
  |0=>
   cases hc;match j with
   |0=>exact hu
   |j+1=>simp at hu
  |1=>
   cases hc;match j with
   |0=>exact hu
   |j+1=>simp at hu
  |i+2=>simp at hc) (c:=2) (by simp) (by omega)
 refine⟨?_,?_,?_⟩
 ·refine EM (xs:=bg.pieces) (sz:=4) (R:=Piece.R) (vz:=[[.string Nu,ξ κ 4,ξ κ 5,ξ κ 0],[.string Nv,ξ κ 3,ξ κ 3,ξ κ 1],[.string Nt,ξ κ 2,ξ κ 3,ξ κ 0]]) h.p h.p.lt (by simp[bg]) rfl (by simp[bg]) (λi x c hx hc=>?_) (λi c hc j u hu=>?_) (c:=3) (by simp[bg]) (by omega)
  ·match i with
   |0=>cases hx;cases hc;exact⟨⟨rfl,by decide⟩,rfl⟩
   |1=>cases hx;cases hc;exact⟨⟨rfl,by decide⟩,rfl⟩
   |2=>cases hx;cases hc;exact⟨⟨rfl,by decide⟩,rfl⟩
   |i+3=>simp[bg] at hx
  ·match i with
   |0=>
    cases hc;match j with
    |0=>exact hu
    |1=>exact hu
    |2=>exact hu
    |3=>exact hu
    |j+4=>simp at hu
   |1=>
    cases hc;match j with
    |0=>exact hu
    |1=>exact hu
    |2=>exact hu
    |3=>exact hu
    |j+4=>simp at hu
   |2=>
    cases hc;match j with
    |0=>exact hu
    |1=>exact hu
    |2=>exact hu
    |3=>exact hu
    |j+4=>simp at hu
   |i+3=>simp at hc
 ·refine EM (xs:=bg.aF) (sz:=3) (R:=aP.R w w.heap.size) (vz:=[[.string Kp,ξ κ 8,ζ (φ ⟨gk,0,ν⟩) 1 1],[.string Kq,ξ κ 6,ζ ν 0 0]]) h.b h.b.lt (by simp[bg]) rfl (by simp[bg]) (λi x c hx hc=>?_) (λi c hc j u hu=>?_) (c:=2) (by simp[bg]) (by omega)
  ·match i with
   |0=>cases hx;cases hc;exact⟨⟨_,rfl,by decide,hk⟩,rfl⟩
   |1=>cases hx;cases hc;exact⟨⟨_,rfl,by decide,Row.nil⟩,rfl⟩
   |i+2=>simp[bg] at hx
  ·match i with
   |0=>
    cases hc;match j with
    |0=>exact hu
    |1=>exact hu
    |2=>exact hu
    |j+3=>simp at hu
   |1=>
    cases hc;match j with
    |0=>exact hu
    |1=>exact hu
    |2=>exact hu
    |j+3=>simp at hu
   |i+2=>simp at hc
 ·refine EM (xs:=bg.aM) (sz:=3) (R:=Tape.R w w.heap.size) (vz:=[[ζ (φ ⟨gl,0,ν⟩) 2 2,ξ κ 7,ξ κ 7]]) h.t h.t.lt (by simp[bg]) rfl (by simp[bg]) (λi x c hx hc=>?_) (λi c hc j u hu=>?_) (c:=1) (by simp[bg]) (by omega)
  ·match i with
   |0=>cases hx;cases hc;exact⟨⟨_,rfl,hl⟩,rfl⟩
   |i+1=>simp[bg] at hx
  ·match i with
   |0=>
    cases hc;match j with
    |0=>exact hu
    |1=>exact hu
    |2=>exact hu
    |j+3=>simp at hu
   |i+1=>simp at hc
def agI(h:Bk w g 56 #[ξ κ 1,ξ κ 0,ξ κ 0,ξ κ 0,ξ κ 0,ξ κ 4]):Row w w.heap.size 2 Cut.R (ζ (φ ⟨g,0,ν⟩) 3 3) fM:=by
 refine EM (xs:=fM) (sz:=2) (R:=Cut.R) (vz:=[[ξ κ 1,ξ κ 0],[ξ κ 0,ξ κ 0],[ξ κ 0,ξ κ 4]]) h h.lt (by simp[fM]) rfl (by simp[fM]) (λi x c hx hc=>?_) (λi c hc j u hu=>?_) (c:=3) (by simp[fM]) (by omega)
 ·match i with
  |0=>cases hx;cases hc;exact⟨rfl,rfl⟩
  |1=>cases hx;cases hc;exact⟨rfl,rfl⟩
  |2=>cases hx;cases hc;exact⟨rfl,rfl⟩
  |i+3=>simp[fM] at hx
 ·match i with
  |0=>
   cases hc;match j with
   |0=>exact hu
   |1=>exact hu
   |j+2=>simp at hu
  |1=>
   cases hc;match j with
   |0=>exact hu
   |1=>exact hu
   |j+2=>simp at hu
  |2=>
   cases hc;match j with
   |0=>exact hu
   |1=>exact hu
   |j+2=>simp at hu
  |i+3=>simp at hc
def Span.vs(x:Span):List υ:=[ξ κ x.lo,ξ κ x.hi]
def o4(out:List Span)(x:Span):List Span:=match out.getLast? with
 |some y=>if y.hi+1=x.lo then out.dropLast++ [⟨y.lo,x.hi⟩] else out++ [x]
 |none=>out++ [x]
def ix(l:List Span):List Span:=l.foldl o4 []
def al9{l:List Span}{x:Span}(h:l[i]?=φ x):ix (l.take (i+1))=o4 (ix (l.take i)) x:=by
 unfold ix;rw[su h,List.foldl_append];rfl
def NK{base:Nat}{sz:Nat}(h:w.ownsRow base e sz (ζ (φ ⟨g,0,ν⟩) n cap) n xs)(hk:k<n * sz):(w.setCell ⟨g,k,ν⟩ u).ownsRow base e sz (ζ (φ ⟨g,0,ν⟩) n cap) n (xs.set k u):=by
 refine⟨by rw[List.length_set];exact h.1,.inr ?_⟩
 rcases h.2 with⟨h0,_⟩ | ⟨g',Di,cur,h1,h2,h3,h4,h5,h6,h7⟩
 ·cases h0
 ·cases h1
  refine⟨g,cap,cur.setIfInBounds k u,rfl,h2,?_,h4,h5,by simp[h6],?_⟩
  ·have:=Go.Sim.GQ (a:=⟨g,k,ν⟩) (v:=u) h3 rfl g
   simpa using this
  ·rw[<-h7]
   simp[List.take_set]
def acd(l:List Span):(l.flatMap Span.vs).length=l.length * 2:=by
 induction l with
 |nil=>rfl
 |cons a l ih=>simp[Span.vs,ih];omega
def amN{out:List Span}{y x:Span}(h: out.getLast? =φ y):(out.flatMap Span.vs).set ((out.length - 1) * 2+1) (ξ κ x.hi)=(out.dropLast++ [(⟨y.lo,x.hi⟩:Span)]).flatMap Span.vs:=by
 have au:out≠ []:=by rintro rfl;cases h
 have e:out=out.dropLast++ [y]:=by
  have:=Ah8 au;rw[Ah9 au] at h
  cases h;exact this.symm
 obtain⟨d,hd⟩:∃d,d=out.dropLast:=⟨_,rfl⟩
 rw[<-hd] at e |-
 subst e;rw[ĵ,ĵ,Ę];have hl:=acd d;have e2:(d.length+ [y].length - 1) * 2+1=(d.flatMap Span.vs).length+1:=by rw[hl];simp
 rw[e2,List.set_append,if_neg (by omega),Nat.add_sub_cancel_left]
 simp[Span.vs]
def amM{out:List Span}{y:Span}(h: out.getLast? =φ y):(out.flatMap Span.vs)[(out.length - 1) * 2+1]?=φ (ξ κ y.hi):=by
 have au:out≠ []:=by rintro rfl;cases h
 have e:out=out.dropLast++ [y]:=by
  have:=Ah8 au;rw[Ah9 au] at h
  cases h;exact this.symm
 obtain⟨d,hd⟩:∃d,d=out.dropLast:=⟨_,rfl⟩
 rw[<-hd] at e;subst e;rw[ĵ,Ę];have hl:=acd d;rw[Ÿ (by rw[hl];simp),hl]
 simp[Span.vs]
def aam:(prog.info? 37).map (λi=>(i.zero,i.size,i.bytes))=φ (φ (η #[ξ κ 0,ξ κ 0]),2,16):=by
 rw[v8];kernel_rfl
def xV(l:List Span):Prop:=∀x∈l,-1000<=x.lo/\x.lo<=1000/\ -1000<=x.hi/\x.hi<=1000
def amb{out:List Span}{x:Span}(h:xV out)(hx:xV [x]):xV (o4 out x):=by
 have hx:=hx x (by simp)
 unfold o4;split
 ·rename_i y hy
  have hy:=h y (Aia hy);split
  ·intro z hz
   rcases È.1 hz with hz|hz
   ·exact h z (List.dropLast_subset _ hz)
   ·simp at hz;subst hz;exact⟨hy.1,hy.2.1,hx.2.2⟩
  ·intro z hz
   rcases È.1 hz with hz|hz
   ·exact h z hz
   ·simp at hz;subst hz;exact hx
 ·intro z hz
  rcases È.1 hz with hz|hz
  ·exact h z hz
  ·simp at hz;subst hz;exact hx
def al7{l:List Span}(h:xV l):xV (ix l):=by
 have key:∀(l out:List Span),xV out->xV l->xV (l.foldl o4 out):=by
  intro l;induction l with
  |nil=>intro out h _;exact h
  |cons a l ih=>exactλout h k=>ih _ (amb h λz hz=>by simp at hz;subst hz;exact k z (by simp)) λz hz=>k z (by simp[hz])
 exact key l [] (λz hz=>by simp at hz) h
def ama(out:List Span)(x:Span):(o4 out x).length<=out.length+1:=by
 unfold o4;split
 ·split<;>simp<;>omega
 ·simp
def al6(l:List Span):(ix l).length<=l.length:=by
 have key:∀(l out:List Span),(l.foldl o4 out).length<=out.length+l.length:=by
  intro l;induction l with
  |nil=>intro out;simp
  |cons a l ih=>intro out;have:=ih (o4 out a);have:=ama out a;simp only[List.foldl_cons,Ď];omega
 have:=key l [];simpa [ix] using this
def KC{base:Nat}{sz:Nat}(h:w.ownsRow base e sz v n xs):∃A c,v=ζ A n c/\(0<n->∃g,A=φ ⟨g,0,ν⟩/\base<=g/\g<w.heap.size/\∃cur,w.heap[g]?=φ (.cells cur e (0,0)))/\n<=c/\c<=ϕ:=by
 rcases h.2 with⟨rfl,rfl⟩ | ⟨g,cap,cur,rfl,h2,h3,h4,h5,_⟩
 ·exact⟨ν,0,rfl,λh=>absurd h (by omega),ϊ _,Ϡ _⟩
 ·exact⟨_,_,rfl,λ_=>⟨g,rfl,h2,(Ϝ.1 h3).1,cur,h3⟩,h4,h5⟩
def TV{base:Nat}{sz:Nat}(h:w.ownsRow base e sz v n xs)(k:Nat):(w.drewN k).ownsRow base e sz v n xs:=h
def join{l:List Span}(hv:Row w B 2 Span.R v l)(hB:B<=w.heap.size)(Dz:l.length<=1000)(hs:xV l):
 ύ prog 133 #[v] w λe w'=>∃u,e=Ω u/\w'.ownsRow w.heap.size 37 2 u (ix l).length ((ix l).flatMap Span.vs)/\Γ w.heap.size w w':=by
 obtain⟨i0,di,dp,aS,bu⟩:=Ğ aam;obtain⟨A,n,c,rfl,hl,gY,dh,hr⟩:=hv.Φ;have hn:n<=1000:=by omega
 unfold ϕ at dh;have tz:=ψ hl;have H2:=ψ hr;have HS:=ψ hs;have HI:=ψ (Ϗ di (Ϗ dp (Ϗ aS bu)));clear hl hr hv Dz di dp aS bu hs;go_enter func133,Tryz.ntmps133;go_wp2;go_loopw [3,5,6,9] (λo p q k wr=>∃i:Nat,i<=n/\k=ξ κ i/\Hid (wr.ownsRow w.heap.size 37 2 o (ix (l.take i)).length ((ix (l.take i)).flatMap Span.vs))/\Γ w.heap.size w wr) (λ_ _ _ k _=>n - (ϙ k).toNat)
 case atStart=>exact⟨0,Ϡ _,rfl,ψ ⟨by simp[ix],.inl ⟨rfl,by simp[ix]⟩⟩,ώ _ _⟩
 case round=>
  obtain⟨i,hi,rfl,aK,hb⟩:=hrel;have HB:=ψ hb;have aL:=hb.size;by_cases aj:i<n
  ·obtain⟨ad,x,cs,rfl,aD,hx,rfl,-,aq⟩:=H2.e i aj
   have st:Δ B w wr:=Δ.aN hb hB;have h0:=cA aq st aD rfl;have h1:=bH aq st aD 0 rfl;have q0:(ad.add (i * 2)).block<wr.heap.size:=by rw[cq];omega
   have HX:=ψ hx;have hxs:=HS.e x (ϡ hx);have Y2:=al7 (l:=l.take i) λz hz=>HS.e z (List.mem_of_mem_take hz)
   have tI:(ix (l.take i)).length<=i:=ϣ (al6 _) (by simp;omega)
   have NX:=ψ (al9 hx);clear hb hx aq st;obtain⟨m,hm⟩:∃m,m=(ix (l.take i)).length:=⟨_,rfl⟩
   rw[<-hm] at aK tI;have HM:=ψ hm;clear hm;obtain⟨A9,c9,rfl,Mm,j8,RA⟩:=KC aK.e;unfold ϕ at RA;have HJS:=ψ Y2;clear Y2;rcases Nat.eq_zero_or_pos m with yx|yA
   ·subst yx
    clear Mm;have HO:=ψ aK.e;have vq:Hid (((o4 (ix (l.take i)) x).flatMap Span.vs=(ix (l.take i)).flatMap Span.vs++ [ξ κ x.lo,ξ κ x.hi])/\(o4 (ix (l.take i)) x).length=0+1):=ψ (by
     rw[ź HM.e.symm];exact⟨rfl,rfl⟩)
    clear aK;go_wp2;go_quiet (fail);go_wp2_with (first
     | (at_builtin
        refine Ī _ rfl (.tmp 36) (.tmp 38) 57 rfl w.heap.size 37 i0 (η #[ξ κ 0,ξ κ 0]) 2 16 (U Tryz.underlying57) HI.e.1 HI.e.2.1 HI.e.2.2.1 HI.e.2.2.2 rfl (by decide) _ _ _ rfl (ň (TV (ň HO.e _) nq) _) ⟨wr.heap.size+1,0,ν⟩ 1 1 [ξ κ x.lo,ξ κ x.hi] rfl rfl ?c1 ?c2 ?c3 ?c4 ?c5 ?_
        case c1=>(intro j u hu;match j,hu with|0,hu=>(simp at hu;subst hu;simp[go_sem,Ā]) |1,hu=>(simp at hu;subst hu;simp[go_sem,Ā]))
        case c2=>simp[Value.oneCell']
        case c3=>(simp only[ϕ];omega)
        case c4=>omega
        case c5=>(simp;omega)
        intro v' w1 cO fO _;have oo:=ψ cO;have om:=ψ fO;clear cO fO))
    go_roundw;case rel=>exact⟨i+1,by omega,by go_num,ψ (by rw[NX.e,vq.e.1,vq.e.2];exact oo.e),
     ((HB.e.trans (oU ((ώ _ _).alloc aL _) nq)).trans ((ώ _ _).alloc (by simp;omega) _)).grown om.e (by simp;omega) (λk hk=>kY HO.e k hk)⟩
    case measure=>simp[ϙ];omega
   ·obtain⟨k,rfl⟩:∃k,m=k+1:=⟨m - 1,by omega⟩
    obtain⟨g9,rfl,hg9,auL,cur,DT⟩:=Mm (by omega)
    clear yA;have Cg:ϗ.wrap (k:Int)=k:=by rw[IntWalk.i64_left];exact IntWalk.wrap64_in _ (by omega)
    obtain⟨y,hy⟩:∃y,(ix (l.take i)).getLast? =φ y:=by
     cases e:(ix (l.take i)).getLast? with
     |some y=>exact⟨y,rfl⟩
     |none=>
      rw[List.getLast?_eq_none_iff.1 e] at HM
      exact absurd HM.e (by simp)
    have hys:=HJS.e y (Aia hy);have g1: wr.cell? ⟨g9,k * 2+1,ν⟩=φ (ξ κ y.hi):=by
     have h1:=amM hy;rw[<-HM.e] at h1;have:=Kx aK.e _ _ h1;rwa[uG] at this
    have z1: wr.frozen? ⟨g9,k * 2+1,ν⟩=χ:=by rw[Go.Sim.Ds (a:=⟨g9,k * 2+1,ν⟩) DT];rfl
    have HY:=ψ hy;have g9l:g9<=wr.heap.size:=by omega
    have HO:=ψ aK.e;clear hy DT aK;by_cases heq:y.hi+1=x.lo
    ·have hd:(y.hi+1==x.lo)=θ:=by simpa using heq
     have vq:Hid (((o4 (ix (l.take i)) x).flatMap Span.vs=((ix (l.take i)).flatMap Span.vs).set (k * 2+1) (ξ κ x.hi))/\(o4 (ix (l.take i)) x).length=k+1):=ψ (by
      have e:o4 (ix (l.take i)) x=(ix (l.take i)).dropLast++ [⟨y.lo,x.hi⟩]:=by unfold o4;rw[HY.e];simp[heq]
      rw[e];refine⟨?_,by simp[<-HM.e]⟩
      rw[<-amN HY.e,<-HM.e];rfl)
     go_wp2;go_quiet (fail);go_wp2;go_roundw;case rel=>exact⟨i+1,by omega,by go_num,ψ (by
          rw[NX.e,vq.e.1,vq.e.2];exact NK (TV (ň HO.e _) nq) (by omega)),
      (HB.e.trans (oU ((ώ _ _).alloc aL _) nq)).setCell (by simp;omega) _⟩
     case measure=>simp[ϙ];omega
    ·have hd:(y.hi+1==x.lo)=χ:=by simpa using heq
     have vq:Hid (((o4 (ix (l.take i)) x).flatMap Span.vs=(ix (l.take i)).flatMap Span.vs++ [ξ κ x.lo,ξ κ x.hi])/\(o4 (ix (l.take i)) x).length=k+1+1):=ψ (by
      have e:o4 (ix (l.take i)) x=ix (l.take i)++ [x]:=by unfold o4;rw[HY.e];simp[heq]
      rw[e];exact⟨by simp[Span.vs],by simp[<-HM.e]⟩)
     go_wp2;go_quiet (fail);go_wp2_with (first
      | (at_builtin
         refine Ī _ rfl (.tmp 36) (.tmp 38) 57 rfl w.heap.size 37 i0 (η #[ξ κ 0,ξ κ 0]) 2 16 (U Tryz.underlying57) HI.e.1 HI.e.2.1 HI.e.2.2.1 HI.e.2.2.2 rfl (by decide) _ _ _ rfl (ň (TV (ň HO.e _) nq) _) ⟨wr.heap.size+1,0,ν⟩ 1 1 [ξ κ x.lo,ξ κ x.hi] rfl rfl ?c1 ?c2 ?c3 ?c4 ?c5 ?_
         case c1=>(intro j u hu;match j,hu with|0,hu=>(simp at hu;subst hu;simp[go_sem,Ā]) |1,hu=>(simp at hu;subst hu;simp[go_sem,Ā]))
         case c2=>simp[Value.oneCell']
         case c3=>(simp only[ϕ];omega)
         case c4=>omega
         case c5=>(simp;omega)
         intro v' w1 cO fO _;have oo:=ψ cO;have om:=ψ fO;clear cO fO))
     go_roundw;case rel=>exact⟨i+1,by omega,by go_num,ψ (by rw[NX.e,vq.e.1,vq.e.2];exact oo.e),
      ((HB.e.trans (oU ((ώ _ _).alloc aL _) nq)).trans ((ώ _ _).alloc (by simp;omega) _)).grown om.e (by simp;omega) (λk hk=>kY HO.e k hk)⟩
     case measure=>simp[ϙ];omega
  ·obtain rfl:i=n:=by omega
   go_wp2;go_ret;refine⟨_,rfl,?_,hb⟩
   have:=aK.e;rwa[ę (ÿ tz.e)] at this
def oW(x:aP)(n:Nat):List Span:=((Ϯ n).filter λi:Nat=>decide (cQ x.aU (i:Int) i=0)).map λi:Nat=>⟨(i:Int),i⟩
def ia(x:aP):List Span:=ix (oW x x.aw.toNat)
def XY(x:aP)(n:Nat):oW x (n+1)=oW x n++(if cQ x.aU (n:Int) n=0 then [⟨(n:Int),n⟩] else []):=by
 unfold oW;rw[Ś,List.filter_append,Ŧ];congr 1;by_cases h:cQ x.aU (n:Int) n=0<;>simp[h]
def XX(x:aP)(n:Nat):(oW x n).length<=n:=by
 unfold oW;rw[Ġ];exact ϣ (Agd _ _) (by simp)
def aiz(x:aP)(hn:n<=1000):xV (oW x n):=by
 intro y hy;unfold oW at hy;obtain⟨i,hi,rfl⟩:=Ĭ.1 hy;have:=ť.1 (List.mem_filter.1 hi).1;simp only;omega
def Xb(hB:B<=w.heap.size)(ai:bq w B b pv bv tv)(h0:dg b=0)(hx:b.aF[k]?=φ x):
 ύ prog 47 #[η #[ξ κ b.ab,pv,bv,tv],ξ κ k] w λe w'=>∃v,e=Ω (μ #[v,ξ κ 0])/\w'.ownsRow w.heap.size 37 2 v (ia x).length ((ia x).flatMap Span.vs)/\Γ w.heap.size w w':=by
 obtain⟨i0,di,dp,aS,bu⟩:=Ğ aam;have HI:=ψ (Ϗ di (Ϗ dp (Ϗ aS bu)));have hv:=oc h0;have By:=hv.bm x (ϡ hx);have bV:=ψ ai;have H0:=ψ h0;obtain⟨A1,n1,c1,rfl,-⟩:=ai.pieces.Φ;obtain⟨A2,n2,c2,rfl,e2,h2,ie,r2⟩:=ai.aF.Φ;obtain⟨A3,n3,c3,rfl,-⟩:=ai.aM.Φ;unfold ϕ at ie;have hk:k<n2:=by have:=(ϩ.1 hx).1;omega
 obtain⟨cI,x',qf,rfl,nu,oI,⟨kv,rfl,Zy,fp⟩,-,gW⟩:=r2 k hk;obtain rfl:x'=x:=by rw[oI] at hx;exact Ϟ hx
 obtain⟨A4,n4,c4,rfl,-⟩:=fp.Φ;have st:=Δ.refl (B:=B) w;have b0:=cA gW st nu rfl;have b1:=bH gW st nu 0 rfl;have b2:=bH gW st nu 1 rfl;have HC:=ψ (Ϗ b0 (Ϗ b1 b2));have zy:=ψ fp;have PL:Hid (1<=x'.aw/\x'.aw<=40):=ψ By.aw;have JX:(if cf k 0 ((n2:Int) - 1) then(0:Int) else 6)=0:=by rw[if_pos (by unfold cf;simp;omega)]
 have HT:=ψ JX;have zv:Hid ((cI.add (k * 3)).block<w.heap.size):=ψ (by rw[cq];omega)
 clear ai e2 r2 hx oI gW fp di dp aS bu b0 b1 b2 st hv h0 JX By;go_enter func47,Tryz.ntmps47;go_wp2_with (first
  | (go_at_call 68;refine(yb (bV.e.still ((Δ.refl w).alloc hB _)) (by simp;omega) H0.e).mono ?_;rintro e w1 ⟨rfl,ag⟩
     have kb:Bk w1 w.heap.size 26 #[ξ κ b.ab,ζ A1 n1 c1,ζ (φ cI) n2 c2,ζ A3 n3 c3]:=(Bk.new w _ _).below ag (by simp)
     have b2: w1.cell? ⟨w.heap.size,2,ν⟩=φ (ζ (φ cI) n2 c2):=kb.cell 2;have aS:w.heap.size<w1.heap.size:=kb.lt;have bu:w.heap.size<=w1.heap.size:=by omega
     have fF:=db (ώ _ _) ag (ϊ _);have a8:=ψ fF;have d0: w1.cell? (cI.add (k * 3))=φ (.string x'.name):=(fF.cell zv.e).trans HC.e.1;have d1: w1.cell? ⟨(cI.add (k * 3)).block,(cI.add (k * 3)).off+(0+1),ν⟩=φ (ξ κ x'.aw):=(fF.cell (p:=⟨(cI.add (k * 3)).block,(cI.add (k * 3)).off+(0+1),ν⟩) zv.e).trans HC.e.2.1;have d2: w1.cell? ⟨(cI.add (k * 3)).block,(cI.add (k * 3)).off+(1+1),ν⟩=φ (ζ A4 n4 c4):=(fF.cell (p:=⟨(cI.add (k * 3)).block,(cI.add (k * 3)).off+(1+1),ν⟩) zv.e).trans HC.e.2.2;have dz:(cI.add (k * 3)).block<w1.heap.size:=by have:=zv.e;omega
     clear kb ag fF)
  | (go_at_call 100;refine(there k n2 (by omega) w1 (by omega)).mono ?_;rintro e w2 ⟨rfl,rfl⟩
     rw[HT.e]))
 have vI:1<=x'.aw/\x'.aw<=40:=PL.e;obtain⟨N,hN⟩:∃N:Nat,x'.aw=N:=⟨x'.aw.toNat,by omega⟩
 rw[hN] at vI |-
 have HN:=ψ hN;clear hN d0 d1 d2;go_loopw [9,10,11,32] (λo p q u wr=>∃i:Nat,i<=N/\u=ξ κ i/\Hid (wr.ownsRow (w1.heap.size+1) 37 2 o (oW x' i).length ((oW x' i).flatMap Span.vs))/\Hid (Γ (w1.heap.size+1) (w1.alloc (Ξ #[.string x'.name,ξ κ N,ζ A4 n4 c4] 59)) wr)) (λ_ _ _ u _=>N - (ϙ u).toNat)
 case atStart=>exact⟨0,Ϡ _,rfl,ψ ⟨by simp[oW],.inl ⟨rfl,by simp[oW]⟩⟩,ψ (ώ _ _)⟩
 case round=>
  obtain⟨i,hi,rfl,aK,hb⟩:=hrel;have aL:w1.heap.size+1<=wr.heap.size:=by have:=hb.e.size;simpa using this
  have uv:Hid (Γ w1.heap.size w1 wr):=ψ (((ώ _ _).alloc (by omega) _).trans (hb.e.mono (by omega)))
  have kx:Bk wr w1.heap.size 59 #[.string x'.name,ξ κ N,ζ A4 n4 c4]:=(Bk.new w1 _ _).below hb.e (by omega)
  have k0:=kx.cell 0;have k1:=kx.cell 1;have k2:=kx.cell 2;have kl:w1.heap.size<wr.heap.size:=kx.lt;have Ni:w1.heap.size<=wr.heap.size:=by omega
  clear kx;by_cases aj:i<N
  ·have BP:i<40:=by omega
   have yn:=XX x' i;have NX:=ψ (XY x' i);have It:Hid (∀o,Row (wr.alloc o) w.heap.size 2 Span.R (ζ A4 n4 c4) x'.aU):=ψ λo=>zy.e.more hB|>.still ((Δ.aN (a8.e.trans (uv.e.mono (by omega))) (ϊ _)).alloc (by omega) o) λ_ _ h=>h
   obtain⟨m,hm⟩:∃m,m=(oW x' i).length:=⟨_,rfl⟩
   rw[<-hm] at aK yn;have HM:=ψ hm;clear hm;obtain⟨A9,c9,rfl,Mm,j8,RA⟩:=KC aK.e;clear Mm;unfold ϕ at RA;by_cases Ad:cQ x'.aU (i:Int) i=0
   ·have hd:(cQ x'.aU (i:Int) i==0)=θ:=by simpa using Ad
    have vq:Hid (oW x' (i+1)=oW x' i++ [⟨(i:Int),i⟩]):=ψ (by rw[NX.e,if_pos Ad])
    clear Ad;go_wp2_with (first
     | (go_at_call 132;refine(met (It.e _) (by simp;omega)).mono ?_;rintro e w2 ⟨rfl,ak⟩
        have bu:wr.heap.size<w2.heap.size:=by have:=ak.size;simp at this;omega
        have avp:wr.heap.size<=w2.heap.size:=by omega
        have ks:Bk w2 wr.heap.size 37 #[ξ κ i,ξ κ i]:=(Bk.new wr _ _).below ak (by simp)
        have s0:=ks.cell 0;have s1:=ks.cell 1;have xR:Hid (w2.ownsRow (w1.heap.size+1) 37 2 (ζ A9 m c9) m ((oW x' i).flatMap Span.vs)):=ψ (xz (ň aK.e _) ak (ϊ _));have fR:=ψ (db hb.e ak aL);clear ak ks)
     | (at_builtin
        refine Ī _ rfl (.tmp 42) (.tmp 44) 57 rfl (w1.heap.size+1) 37 i0 (η #[ξ κ 0,ξ κ 0]) 2 16 (U Tryz.underlying57) HI.e.1 HI.e.2.1 HI.e.2.2.1 HI.e.2.2.2 rfl (by decide) _ _ _ rfl (ň xR.e _) ⟨w2.heap.size,0,ν⟩ 1 1 [ξ κ i,ξ κ i] rfl rfl ?c1 ?c2 ?c3 ?c4 ?c5 ?_
        case c1=>(intro j u hu;match j,hu with|0,hu=>(simp at hu;subst hu;simp[go_sem,Ā]) |1,hu=>(simp at hu;subst hu;simp[go_sem,Ā]))
        case c2=>simp[Value.oneCell']
        case c3=>(simp only[ϕ];omega)
        case c4=>omega
        case c5=>(simp;omega)
        intro v' w3 cO fO _;have AW:=ψ cO;have oR:=ψ fO;clear cO fO))
    go_roundw;case rel=>exact⟨i+1,by omega,by go_num,ψ (by rw[vq.e,ĵ,Ę,<-HM.e];exact AW.e),
     ψ ((fR.e.trans ((ώ _ _).alloc (by omega) _)).grown oR.e (by simp;omega) (λk hk=>kY xR.e k hk))⟩
    case measure=>simp[ϙ];omega
   ·have hd:(cQ x'.aU (i:Int) i==0)=χ:=by simpa using Ad
    have vq:Hid (oW x' (i+1)=oW x' i):=ψ (by rw[NX.e,if_neg Ad,Ť])
    clear Ad;go_wp2_with (first
     | (go_at_call 132;refine(met (It.e _) (by simp;omega)).mono ?_;rintro e w2 ⟨rfl,ak⟩
        have xR:Hid (w2.ownsRow (w1.heap.size+1) 37 2 (ζ A9 m c9) m ((oW x' i).flatMap Span.vs)):=ψ (xz (ň aK.e _) ak (ϊ _));have fR:=ψ (db hb.e ak aL);clear ak))
    go_roundw;case rel=>exact⟨i+1,by omega,by go_num,ψ (by rw[vq.e,<-HM.e];exact xR.e),fR⟩
    case measure=>simp[ϙ];omega
  ·obtain rfl:i=N:=by omega
   have HRW:=ψ (tX (R:=Span.R) (f:=Span.vs) (l:=oW x' i) aK.e (λ_=>rfl) (λ_ _=>rfl))
   have M7:=aiz x' (n:=i) (by omega)
   have yu:=XX x' i;clear hi;go_wp2_with (first
    | (go_at_call 133;refine(join HRW.e (ϊ _) (by omega) M7).mono ?_;rintro e w2 ⟨u,rfl,se,ak⟩;have xR:=ψ se;have fR:=ψ ak;clear se ak))
   go_ret2
   refine⟨_,rfl,?_,?_⟩
   ·have:=xR.e.base (zG:=w.heap.size) (by omega)
    unfold ia;rw[HN.e];exact this
   ·exact a8.e.trans ((uv.e.mono (by omega)).trans (fR.e.mono (by omega)))
def vT(x:aP)(bears:Int)(N fr:Nat):Nat->Int->Int
 |0,m=>m
 |s+1,m=>if cQ x.aU fr ((N:Int) - (s+1:Nat))>bears then m else vT x bears N fr s (max m ((N:Int) - (s+1:Nat) - fr+1))
def yK(x:aP)(bears:Int)(N:Nat):Nat->Int
 |0=>0
 |fr+1=>vT x bears N fr (N - fr) (yK x bears N fr)
def nM(x:aP)(bears:Int):Int:=yK x bears x.aw.toNat x.aw.toNat
def ang(x:aP)(bears:Int)(N fr:Nat)(hN:N<=40)(hf:fr<=N):∀(s:Nat) (m:Int),s<=N - fr->0<=m->m<=40->0<=vT x bears N fr s m/\vT x bears N fr s m<=40:=by
 intro s;induction s with
 |zero=>intro m _ h0 h1;exact⟨h0,h1⟩
 |succ s ih=>
  intro m hs h0 h1;unfold vT;split
  ·exact⟨h0,h1⟩
  ·refine ih _ (by omega) ?_ ?_<;>omega
def ani(x:aP)(bears:Int)(N:Nat)(hN:N<=40):∀fr,fr<=N->0<=yK x bears N fr/\yK x bears N fr<=40:=by
 intro fr;induction fr with
 |zero=>intro _;exact⟨by unfold yK;omega,by unfold yK;omega⟩
 |succ fr ih=>
  intro h;have:=ih (by omega)
  exact ang x bears N fr hN (by omega) _ _ (ϊ _) this.1 this.2
def Tt{bears:Int}(hB:B<=w.heap.size)(ai:bq w B b pv bv tv)(h0:dg b=0)(hx:b.aF[k]?=φ x)(Rr:cf bears 0 2=θ):
 ύ prog 48 #[η #[ξ κ b.ab,pv,bv,tv],ξ κ k,ξ κ bears] w λe w'=>e=Ω (μ #[ξ κ (nM x bears),ξ κ 0])/\Γ w.heap.size w w':=by
 have hv:=oc h0;have By:=hv.bm x (ϡ hx);have bV:=ψ ai;have H0:=ψ h0;obtain⟨A1,n1,c1,rfl,-⟩:=ai.pieces.Φ;obtain⟨A2,n2,c2,rfl,e2,h2,ie,r2⟩:=ai.aF.Φ;obtain⟨A3,n3,c3,rfl,-⟩:=ai.aM.Φ;unfold ϕ at ie;have hk:k<n2:=by have:=(ϩ.1 hx).1;omega
 obtain⟨cI,x',qf,rfl,nu,oI,⟨kv,rfl,Zy,fp⟩,-,gW⟩:=r2 k hk;obtain rfl:x'=x:=by rw[oI] at hx;exact Ϟ hx
 obtain⟨A4,n4,c4,rfl,-⟩:=fp.Φ;have st:=Δ.refl (B:=B) w;have b0:=cA gW st nu rfl;have b1:=bH gW st nu 0 rfl;have b2:=bH gW st nu 1 rfl;have HC:=ψ (Ϗ b0 (Ϗ b1 b2));have zy:=ψ fp;have JX:(if cf k 0 ((n2:Int) - 1) then(0:Int) else 6)=0:=by rw[if_pos (by unfold cf;simp;omega)]
 have HT:=ψ JX;have zv:Hid ((cI.add (k * 3)).block<w.heap.size):=ψ (by rw[cq];omega)
 have PL:Hid (1<=x'.aw/\x'.aw<=40):=ψ By.aw;have Lm:=ψ Rr;clear ai e2 r2 hx oI gW fp b0 b1 b2 st hv h0 JX By Rr;go_enter func48,Tryz.ntmps48;go_wp2_with (first
  | (go_at_call 68;refine(yb (bV.e.still ((Δ.refl w).alloc hB _)) (by simp;omega) H0.e).mono ?_;rintro e w1 ⟨rfl,ag⟩
     have kb:Bk w1 w.heap.size 26 #[ξ κ b.ab,ζ A1 n1 c1,ζ (φ cI) n2 c2,ζ A3 n3 c3]:=(Bk.new w _ _).below ag (by simp)
     have b2: w1.cell? ⟨w.heap.size,2,ν⟩=φ (ζ (φ cI) n2 c2):=kb.cell 2;have aS:w.heap.size<w1.heap.size:=kb.lt;have bu:w.heap.size<=w1.heap.size:=by omega
     have fF:=db (ώ _ _) ag (ϊ _);have a8:=ψ fF;have d0: w1.cell? (cI.add (k * 3))=φ (.string x'.name):=(fF.cell zv.e).trans HC.e.1;have d1: w1.cell? ⟨(cI.add (k * 3)).block,(cI.add (k * 3)).off+(0+1),ν⟩=φ (ξ κ x'.aw):=(fF.cell (p:=⟨(cI.add (k * 3)).block,(cI.add (k * 3)).off+(0+1),ν⟩) zv.e).trans HC.e.2.1;have d2: w1.cell? ⟨(cI.add (k * 3)).block,(cI.add (k * 3)).off+(1+1),ν⟩=φ (ζ A4 n4 c4):=(fF.cell (p:=⟨(cI.add (k * 3)).block,(cI.add (k * 3)).off+(1+1),ν⟩) zv.e).trans HC.e.2.2;have dz:(cI.add (k * 3)).block<w1.heap.size:=by have:=zv.e;omega
     clear kb ag fF)
  | (go_at_call 100;refine(there k n2 (by omega) w1 (by omega)).mono ?_;rintro e w2 ⟨rfl,rfl⟩
     rw[HT.e])
  | (go_at_call 134;refine(inside _ _ _ w1).mono ?_;rintro e w2 ⟨rfl,rfl⟩;rw[Lm.e]))
 have vI:1<=x'.aw/\x'.aw<=40:=PL.e;obtain⟨N,hN⟩:∃N:Nat,x'.aw=N:=⟨x'.aw.toNat,by omega⟩
 rw[hN] at vI |-
 have HN:=ψ hN;clear hN d0 d1 d2;have qj:0<=bears/\bears<=2:=tQ Lm.e;go_loopw [11,12,13,37] (λm p q u wr=>∃i:Nat,i<=N/\u=ξ κ i/\m=ξ κ (yK x' bears N i)/\Hid (Γ (w1.heap.size+1) (w1.alloc (Ξ #[.string x'.name,ξ κ N,ζ A4 n4 c4] 59)) wr)) (λ_ _ _ u _=>N - (ϙ u).toNat)
 case atStart=>exact⟨0,Ϡ _,rfl,rfl,ψ (ώ _ _)⟩
 case round=>
  obtain⟨wo,rfl⟩:∃wo:Ψ,wo=wr:=⟨_,rfl⟩
  obtain⟨i,hi,rfl,rfl,hb⟩:=hrel;by_cases aj:i<N
  ·go_wp2
   go_step3
   go_wp2
   go_step3
   go_wp2;have HBo:Hid (Γ w1.heap.size w1 wo):=ψ (((ώ _ _).alloc (by omega) _).trans (hb.e.mono (by omega)))
   have yx:=ani x' bears N (by have:=vI.2;omega) i hi
   go_loopw [11,13] (λm u wr=>∃(j:Nat) (q:Int),i<=j/\j<=N/\u=ξ κ j/\m=ξ κ q/\0<=q/\q<=40/\Hid (vT x' bears N i (N - j) q=yK x' bears N (i+1))/\Hid (Γ (w1.heap.size+1) (w1.alloc (Ξ #[.string x'.name,ξ κ N,ζ A4 n4 c4] 59)) wr)) (λ_ u _=>N - (ϙ u).toNat)
   case atStart=>exact⟨i,_,ϊ _,hi,rfl,rfl,yx.1,yx.2,ψ rfl,hb⟩
   case round=>
    obtain⟨j,q,BO,hj,rfl,rfl,ZI,Af,oZ,F7⟩:=hrel;have aL:w1.heap.size+1<=wr.heap.size:=by have:=F7.e.size;simpa using this
    have uv:Hid (Γ w1.heap.size w1 wr):=ψ (((ώ _ _).alloc (by omega) _).trans (F7.e.mono (by omega)))
    have kx:Bk wr w1.heap.size 59 #[.string x'.name,ξ κ N,ζ A4 n4 c4]:=(Bk.new w1 _ _).below F7.e (by omega)
    have k0:=kx.cell 0;have k1:=kx.cell 1;have k2:=kx.cell 2;have kl:w1.heap.size<wr.heap.size:=kx.lt;have Ni:w1.heap.size<=wr.heap.size:=by omega
    clear kx;by_cases tI:j<N
    ·have It:Hid (Row wr w.heap.size 2 Span.R (ζ A4 n4 c4) x'.aU):=ψ (zy.e.more hB|>.still (Δ.aN (a8.e.trans (uv.e.mono (by omega))) (ϊ _)) λ_ _ h=>h)
     obtain⟨M,hM⟩:∃M,M=cQ x'.aU (i:Int) j:=⟨_,rfl⟩
     have HM:=ψ hM;clear hM;by_cases Ga:M>bears
     ·go_wp2_with (first
       | (go_at_call 132;refine(met It.e (by omega)).mono ?_;rintro e w2 ⟨rfl,ak⟩;rw[<-HM.e];have fR:=ψ (chain F7.e ak aL);clear ak))
      rw[Exit.noGoto_normal];go_wp2;go_roundw;case rel=>exact⟨i+1,by omega,by go_num,by
       congr 1;rw[<-oZ.e];obtain⟨d,hd⟩:∃d,N - j=d+1:=⟨N - j - 1,by omega⟩
       rw[hd];unfold vT;have e:(N:Int) - ((d+1:Nat):Int)=j:=by omega
       rw[e,<-HM.e,if_pos Ga],fR⟩
      case measure=>simp[ϙ];omega
     ·go_wp2_with (first
       | (go_at_call 132;refine(met It.e (by omega)).mono ?_;rintro e w2 ⟨rfl,ak⟩;rw[<-HM.e];have fR:=ψ (chain F7.e ak aL);clear ak))
      go_roundw;case rel=>exact⟨j+1,max q (j - i+1),by omega,by omega,by go_num,by go_num,by omega,by omega,ψ (by
       rw[<-oZ.e];obtain⟨d,hd⟩:∃d,N - j=d+1:=⟨N - j - 1,by omega⟩
       rw[hd,show N - (j+1)=d by omega]
       conv=>rhs;unfold vT
       have e:(N:Int) - ((d+1:Nat):Int)=j:=by omega
       rw[e,<-HM.e,if_neg (by omega)]),fR⟩
      case measure=>simp[ϙ];omega
    ·obtain rfl:j=N:=by omega
     go_wp2;rw[Exit.noGoto_normal];go_wp2;go_roundw;case rel=>exact⟨i+1,by omega,by go_num,by
      congr 1;rw[<-oZ.e,Nat.sub_self];rfl,F7⟩
     case measure=>simp[ϙ];omega
  ·obtain rfl:i=N:=by omega
   go_wp2
   go_ret2
   refine⟨NV ?_ rfl,?_⟩
   ·unfold nM;rw[HN.e];rfl
   ·exact a8.e.trans (((((ώ _ _).alloc (by omega) _).trans (hb.e.mono (by omega)))).mono (by omega))
def mT(l:List Int):al:=⟨l[0]?.getD 0,l[1]?.getD 0,l[2]?.getD 0⟩
def ab8:(prog.info? 3).map (λi=>i.size)=φ 1:=by rw[v8];kernel_rfl
def agA(l:List Int)(h3:l.length<=3):(((#[ξ κ 0,ξ κ 0,ξ κ 0]:Array υ).toList.take 0++l.map (ξ κ)++(#[ξ κ 0,ξ κ 0,ξ κ 0]:Array υ).toList.drop (0+l.length)).toArray:Array υ)=#[ξ κ (mT l).a,ξ κ (mT l).b,ξ κ (mT l).c]:=by
 rcases l with _| ⟨a,_| ⟨b,_| ⟨c,_| ⟨d,l⟩⟩⟩⟩
 ·simp[mT]
 ·simp[mT]
 ·simp[mT]
 ·simp[mT]
 ·simp at h3
def agz{l:List Int}{A:Option ϖ}(hv:Row w B 1 cH (ζ A n c) l)(hB:B<=w.heap.size)(h3:l.length<=3){s:Nat}(hs:s=w.heap.size)
 (hW:W=(w.alloc (Ξ #[ξ κ 0,ξ κ 0,ξ κ 0] 128)).alloc (Ξ #[ξ κ 0,ξ κ 0,ξ κ 0] 128)):
 ∃W',(Builtin.copy_ #[33,33] 3 #[ζ (φ ⟨s+1,0,ν⟩) 3 3,ζ A n c]).run prog W=.ok (goInt n) W'/\Bk W' s 128 #[ξ κ 0,ξ κ 0,ξ κ 0]/\Bk W' (s+1) 128 #[ξ κ (mT l).a,ξ κ (mT l).b,ξ κ (mT l).c]/\Γ w.heap.size w W':=by
 obtain⟨A',n',c',e,hl,gY,dh,hr⟩:=hv.Φ;cases e;have wY:Γ w.heap.size w W:=by rw[hW];exact((ώ _ _).alloc (ϊ _) _).alloc (by simp) _
 have k0:Bk W s 128 #[ξ κ 0,ξ κ 0,ξ κ 0]:=by rw[hW,hs];exact(Bk.new w _ _).alloc _
 have k1:Bk W (s+1) 128 #[ξ κ 0,ξ κ 0,ξ κ 0]:=by rw[hW,hs];exact Bk.cD (by simp) _ _
 rcases Nat.eq_zero_or_pos n with h0|hp
 ·subst h0
  have:l=[]:=ź hl;subst this;exact⟨W,run_copy_none W 33 33 3 3 _ _ 3 3 0 c (U Tryz.underlying33) ab8 (by simp),k0,k1,wY⟩
 ·obtain⟨ad,_,_,rfl,Yu,_⟩:=hr 0 hp
  have ak9:∀(j:Nat) (v:υ),(l.map (ξ κ))[j]?=φ v-> W.cell? (ad.add j)=φ v:=by
   intro j v hj;rw[Aid] at hj
   obtain⟨x,hx,rfl⟩:=Option.map_eq_some_iff.1 hj;obtain⟨Fp,x',cs,e,aD,oI,rfl,-,aq⟩:=hr j (by have:=(ϩ.1 hx).1;omega)
   cases e;rw[hx] at oI;cases oI
   have:=aq 0 _ rfl;rw[Nat.mul_one,Nat.add_zero] at this;exact(wY.cell (by rw[cq];omega)).trans this
  have bt:=run_copy_row (P:=prog) W 33 33 3 3 (s+1) 0 3 3 ad n c #[ξ κ 0,ξ κ 0,ξ κ 0] 128 (l.map (ξ κ)) (U Tryz.underlying33) ab8 k1 (by rw[Ġ,hl];exact(Aij (by omega)).symm) ak9 (by simp;omega) (λv hv=>by
   obtain⟨x,_,rfl⟩:=Ĭ.1 hv;rfl)
  refine⟨_,by rw[bt,Ġ,hl],?_,?_,?_⟩
  ·exact(setRow_other _ _ _ _ (by omega)).trans k0
  ·refine(setRow_heap _ _ _ _ _ _ k1).trans ?_
   rw[<-hl];rw[agA l h3]
  ·exact below_setRow wY (by omega) _
def am1{l:List Int}(hv:Row w B 1 cH v l)(hB:B<=w.heap.size)(h3:l.length<=3):
 ύ prog 128 #[v] w λe w'=>e=Ω (η #[ξ κ (mT l).a,ξ κ (mT l).b,ξ κ (mT l).c])/\Γ w.heap.size w w':=by
 obtain⟨A,n,c,rfl,-⟩:=hv.Φ;obtain⟨W',vE,k0,k1,hb⟩:=agz (w:=w) hv hB h3 rfl rfl;have r0:=k1.cell 0;have r1:=k1.cell 1;have r2:=k1.cell 2;have s0:=k0.cell 0;have s1:=k0.cell 1;have s2:=k0.cell 2;have z0:=k0.frozen 0;have z1:=k0.frozen 1;have z2:=k0.frozen 2;have l0:=k0.lt;have l1:=k1.lt;have l0':w.heap.size<=W'.heap.size:=by omega
 have Ev:w.heap.size+1<=W'.heap.size:=by omega
 have HB:=ψ hb;have HK:=ψ k0;clear hv hb k0 k1;go_enter func128,Tryz.ntmps128;go_wp2;have k3:=((HK.e.set 0 (ξ κ (mT l).a)).set 1 (ξ κ (mT l).b)).set 2 (ξ κ (mT l).c);have t0:=k3.cell 0;have t1:=k3.cell 1;have t2:=k3.cell 2;simp at t0 t1 t2;have mC:=((HB.e.setCell (p:=⟨w.heap.size,0,ν⟩) (ϊ _) (ξ κ (mT l).a)).setCell (p:=⟨w.heap.size,1,ν⟩) (ϊ _) (ξ κ (mT l).b)).setCell (p:=⟨w.heap.size,2,ν⟩) (ϊ _) (ξ κ (mT l).c);refine ă (v:=η #[ξ κ (mT l).a,ξ κ (mT l).b,ξ κ (mT l).c]) (by simp[results,Tryz.results128,go_sem,t0,t1,t2]) rfl ⟨rfl,mC⟩
def aqr(w:Ψ)(a b:Int)(e:TypeId):Row (w.alloc (Ξ #[ξ κ a,ξ κ b] e)) (w.heap.size+1) 1 cH (ζ (φ ⟨w.heap.size,0,ν⟩) 2 2) [a,b]:=
 EM (xs:=[a,b]) (sz:=1) (R:=cH) (vz:=[[ξ κ a],[ξ κ b]]) (Bk.new w _ _) (by omega) (by simp) rfl (by simp) (λi x c hx hc=>by
  match i with
  |0=>cases hx;cases hc;exact⟨rfl,rfl⟩
  |1=>cases hx;cases hc;exact⟨rfl,rfl⟩
  |i+2=>simp at hx) (λi c hc j u hu=>by
  match i with
  |0=>
   cases hc;match j with
   |0=>exact hu
   |j+1=>simp at hu
  |1=>
   cases hc;match j with
   |0=>exact hu
   |j+1=>simp at hu
  |i+2=>simp at hc) (c:=2) (by simp) (by omega)
def anj{l:List Int}(h:xx b l=0):l.length=b.pieces.length/\∀n∈l,1<=n/\n<=40:=by
 unfold xx at h;split at h
 ·contradiction
 ·rename_i h1
  split at h
  ·contradiction
  ·rename_i h2
   refine⟨by simpa using h1,λn hn=>?_⟩
   have h2:l.any (λn=> !cf n 1 40)=χ:=by simpa using h2
   have:=List.any_eq_false.1 h2 n hn;exact tQ (by simpa using this)
def am3{l:List Int}(h:∀n∈l,1<=n/\n<=40):(mT l).Ok:=by
 have key:∀i:Nat,0<=(l[i]?.getD 0:Int)/\(l[i]?.getD 0:Int)<=1000:=by
  intro i;cases e:l[i]? with
  |none=>exact⟨by simp,by simp⟩
  |some x=>
   have:=h x (ϡ e);simp only[Option.getD_some];omega
 intro i;have k0:=key 0;have k1:=key 1;have k2:=key 2;unfold al.at mT;match i with
 |0=>exact k0
 |1=>exact k1
 |i+2=>exact k2
def fW(w:Ψ)(s:Int)(p q r:υ):Ψ:=w.alloc (Ϥ #[ξ κ s,p,q,r] 117)
def ah3(w:Ψ)(s:Int)(p q r:υ):Γ w.heap.size w (fW w s p q r):=(ώ _ _).alloc (ϊ _) _
def XM{l:List Int}{qQ:List Cut}{cv:υ}(hB:B<=w.heap.size)(ai:bq w B b pv bv tv)(hl:Row w B 1 cH lv l)(hc:Row w B 2 Cut.R cv qQ)(h0:dg b=0)(h:scan (λ_ s=>s) [] [xx b l,px b qQ]=0):
 ύ prog 43 #[η #[ξ κ b.ab,pv,bv,tv],lv,cv] w λe w'=>e=Ω (μ #[.bool (ib b (mT l) qQ),ξ κ 0])/\Γ w.heap.size w w':=by
 have bV:=ψ ai;have HL:=ψ hl;have HC:=ψ hc;have H0:=ψ h0;obtain⟨A1,n1,c1,rfl,-⟩:=ai.pieces.Φ;obtain⟨A2,n2,c2,rfl,-⟩:=ai.aF.Φ;obtain⟨A3,n3,c3,rfl,-⟩:=ai.aM.Φ;obtain⟨A4,n4,c4,rfl,-⟩:=hl.Φ;obtain⟨A5,n5,c5,rfl,-⟩:=hc.Φ;obtain⟨s1,dn⟩:∃s,s=xx b l:=⟨_,rfl⟩
 obtain⟨s2,fA⟩:∃s,s=px b qQ:=⟨_,rfl⟩
 rw[<-dn,<-fA] at h;obtain⟨S,hS⟩:∃S,S=scan (λ_ s=>s) [] [s1,s2]:=⟨_,rfl⟩
 rw[<-hS] at h;have HS:=ψ (Ϗ hS (Ϗ dn fA));have hd:(S !=0)=χ:=by simp[h]
 clear ai hl hc h0 hS dn fA;go_enter func43,Tryz.ntmps43;go_wp2_with (first
  | (go_at_call 68;refine(yb (bV.e.still ((Δ.refl w).alloc hB _)) (by simp;omega) H0.e).mono ?_;rintro e w1 ⟨rfl,ag⟩
     have kb:Bk w1 w.heap.size 26 #[ξ κ b.ab,ζ A1 n1 c1,ζ A2 n2 c2,ζ A3 n3 c3]:=(Bk.new w _ _).below ag (by simp)
     have b0:=kb.cell 0;have b1:=kb.cell 1;have b2:=kb.cell 2;have b3:=kb.cell 3;have a8:=ψ (db (ώ _ _) ag (ϊ _));clear kb ag))
 have HW:=ψ (ah3 w1 b.ab (ζ A1 n1 c1) (ζ A2 n2 c2) (ζ A3 n3 c3));have kw:Bk (fW w1 b.ab (ζ A1 n1 c1) (ζ A2 n2 c2) (ζ A3 n3 c3)) w1.heap.size 117 #[ξ κ b.ab,ζ A1 n1 c1,ζ A2 n2 c2,ζ A3 n3 c3]:=Bk.new w1 _ _;have k0:=kw.cell 0;have k1:=kw.cell 1;have k2:=kw.cell 2;have k3:=kw.cell 3;have HZ:=ψ kw.lt;change Code.wp _ _ _ _ (fW w1 b.ab (ζ A1 n1 c1) (ζ A2 n2 c2) (ζ A3 n3 c3));clear kw b0 b1 b2 b3;generalize fW w1 b.ab (ζ A1 n1 c1) (ζ A2 n2 c2) (ζ A3 n3 c3)=W3 at HW k0 k1 k2 k3 HZ |-
 have vo:Hid (Γ (w1.heap.size+1) W3 W3.drew):=ψ (oT (ώ _ _));have hle:B<=w1.heap.size:=by have:=a8.e.size;omega
 have CL:Hid (∀w',Γ (w1.heap.size+1) W3 w'->ύ prog 127 #[η #[ξ κ b.ab,ζ A1 n1 c1,ζ A2 n2 c2,ζ A3 n3 c3],ζ A4 n4 c4] w' λe bB=>e=Ω (ξ κ s1)/\Γ (w1.heap.size+1) W3 bB):=ψ λw' hw=>by
  have st:Δ B w w':=(Δ.aN a8.e hB).trans ((Δ.aN HW.e hle).trans (Δ.aN hw (by omega)))
  have aL:=hw.size;have:=HZ.e;refine(anf (B:=B) (bV.e.still st) (HL.e.still st λ_ _ h=>h) (by omega)).mono ?_
  rintro e bB ⟨rfl,hb⟩;exact⟨bj HS.e.2.1.symm,hw.trans (hb.mono (by omega))⟩
 have CC:Hid (∀w',Γ (w1.heap.size+1) W3 w'->ύ prog 109 #[η #[ξ κ b.ab,ζ A1 n1 c1,ζ A2 n2 c2,ζ A3 n3 c3],ζ A5 n5 c5] w' λe bB=>e=Ω (ξ κ s2)/\Γ (w1.heap.size+1) W3 bB):=ψ λw' hw=>by
  have st:Δ B w w':=(Δ.aN a8.e hB).trans ((Δ.aN HW.e hle).trans (Δ.aN hw (by omega)))
  have aL:=hw.size;have:=HZ.e;refine(QC (B:=B) (bV.e.still st) (HC.e.still st λ_ _ h=>h) (by omega)).mono ?_
  rintro e bB ⟨rfl,hb⟩;exact⟨bj HS.e.2.2.symm,hw.trans (hb.mono (by omega))⟩
 have CE:∀ {w':Ψ} {j:Nat} {v:υ},Γ (w1.heap.size+1) W3 w'-> W3.cell? ⟨w1.heap.size,j,ν⟩=φ v-> w'.cell? ⟨w1.heap.size,j,ν⟩=φ v:=λhb hv=>(hb.cell (Nat.lt_succ_self _)).trans hv
 have AL:∀ {w':Ψ},Γ (w1.heap.size+1) W3 w'->∀o,Γ (w1.heap.size+1) W3 (w'.alloc o):=λhb o=>hb.alloc (by have:=hb.size;have:=HZ.e;omega) o
 go_region_held3 (λw'=> w'.cell? ⟨w1.heap.size,0,ν⟩=φ (ξ κ b.ab)/\ w'.cell? ⟨w1.heap.size,1,ν⟩=φ (ζ A1 n1 c1)/\ w'.cell? ⟨w1.heap.size,2,ν⟩=φ (ζ A2 n2 c2)/\ w'.cell? ⟨w1.heap.size,3,ν⟩=φ (ζ A3 n3 c3)/\Hid (Γ (w1.heap.size+1) W3 w'))
  (first|exact⟨k0,k1,k2,k3,vo⟩ |exact⟨CE vp.e k0,CE vp.e k1,CE vp.e k2,CE vp.e k3,vp⟩ |exact⟨CE tx.e k0,CE tx.e k1,CE tx.e k2,CE tx.e k3,tx⟩ |exact⟨CE (AL vp.e _) k0,CE (AL vp.e _) k1,CE (AL vp.e _) k2,CE (AL vp.e _) k3,ψ (AL vp.e _)⟩ |exact⟨CE (AL tx.e _) k0,CE (AL tx.e _) k1,CE (AL tx.e _) k2,CE (AL tx.e _) k3,ψ (AL tx.e _)⟩)
  (first
    | (go_at_call 127
       refine(CL.e _ ?hx).mono ?_
       case hx=>first|exact vp.e|exact vo.e
       rintro e w4 ⟨rfl,cx⟩;have tx:=ψ cx;clear cx)
    | (go_at_call 109
       refine(CC.e _ ?hx).mono ?_
       case hx=>first|exact tx.e|exact vo.e
       rintro e w5 ⟨rfl,mF⟩;have vp:=ψ mF;clear mF)
    | (go_at_call 126
       refine(first (aqr _ _ _ _)).mono ?_
       rintro e w6 ⟨rfl,rfl⟩;rw[<-HS.e.1]))
 go_wp2;have Af:xx b l=0/\px b qQ=0:=by
  have h:=HS.e.1;have hz:(scan (λ_ s=>s) [] [s1,s2]:Int)=0:=by
   have DJ:S=0:=by simpa using hd
   rw[<-h,DJ]
  unfold scan at hz;split at hz
  ·contradiction
  ·rename_i h1
   unfold scan at hz;split at hz
   ·contradiction
   ·rename_i h2
    exact⟨by rw[<-HS.e.2.1];simpa using h1,by rw[<-HS.e.2.2];simpa using h2⟩
 have cE:=L6 (oc H0.e) Af.2;have oZ:=anj Af.1;have Sd:=am3 oZ.2;have hv:=oc H0.e;have oF:=hv.np.2;have Gb:l.length<=3:=by rw[oZ.1];exact oF
 obtain⟨W5,Rl⟩:∃W5,W5=w5.alloc (Ϥ #[ϛ ϗ s1,ϛ ϗ s2] 30):=⟨_,rfl⟩
 have mF:Γ (w1.heap.size+1) W3 W5:=by rw[Rl];exact AL vp.e _
 rw[<-Rl];have sC:=ψ mF;have j0:=CE mF k0;have j1:=CE mF k1;have j2:=CE mF k2;have j3:=CE mF k3;have HJ:Hid (Γ (w1.heap.size+1) W3 W5.drew):=ψ (oT mF);obtain⟨L,hL⟩:∃L,L=mT l:=⟨_,rfl⟩
 rw[<-hL] at Sd;have xQ:=ψ hL;have CLn:Hid (∀w',Γ (w1.heap.size+1) W3 w'->ύ prog 128 #[ζ A4 n4 c4] w' λe bB=>e=Ω (η #[ξ κ L.a,ξ κ L.b,ξ κ L.c])/\Γ (w1.heap.size+1) W3 bB):=ψ λw' hw=>by
  have st:Δ B w w':=(Δ.aN a8.e hB).trans ((Δ.aN HW.e hle).trans (Δ.aN hw (by omega)))
  have aL:=hw.size;have:=HZ.e;refine(am1 (B:=B) (HL.e.still st λ_ _ h=>h) (by omega) Gb).mono ?_
  rintro e bB ⟨rfl,hb⟩;rw[<-xQ.e];exact⟨rfl,hw.trans (hb.mono (by omega))⟩
 have CD:Hid (∀w',Γ (w1.heap.size+1) W3 w'->ύ prog 110 #[η #[ξ κ b.ab,ζ A1 n1 c1,ζ A2 n2 c2,ζ A3 n3 c3],η #[ξ κ L.a,ξ κ L.b,ξ κ L.c],ζ A5 n5 c5] w' λe bB=>e=Ω (.bool (ib b L qQ))/\Γ (w1.heap.size+1) W3 bB):=ψ λw' hw=>by
  have st:Δ B w w':=(Δ.aN a8.e hB).trans ((Δ.aN HW.e hle).trans (Δ.aN hw (by omega)))
  have aL:=hw.size;have:=HZ.e;refine(QF (B:=B) (bV.e.still st) (HC.e.still st λ_ _ h=>h) (by omega) cE.len cE.three cE.qQ Sd cE.ab).mono ?_
  rintro e bB ⟨rfl,hb⟩;exact⟨rfl,hw.trans (hb.mono (by omega))⟩
 have KK:=ψ (Ϗ k0 (Ϗ k1 (Ϗ k2 k3)));clear cE oZ Sd hv oF Gb Rl mF k0 k1 k2 k3 Af hL;go_region_held3 (λw'=> w'.cell? ⟨w1.heap.size,0,ν⟩=φ (ξ κ b.ab)/\ w'.cell? ⟨w1.heap.size,1,ν⟩=φ (ζ A1 n1 c1)/\ w'.cell? ⟨w1.heap.size,2,ν⟩=φ (ζ A2 n2 c2)/\ w'.cell? ⟨w1.heap.size,3,ν⟩=φ (ζ A3 n3 c3)/\Hid (Γ (w1.heap.size+1) W3 w'))
  (first|exact⟨j0,j1,j2,j3,HJ⟩ |exact⟨i0,i1,i2,i3,HI⟩ |exact⟨CE HN.e KK.e.1,CE HN.e KK.e.2.1,CE HN.e KK.e.2.2.1,CE HN.e KK.e.2.2.2,HN⟩)
  (first
    | (go_at_call 128
       refine(CLn.e _ ?hx).mono ?_
       case hx=>exact HJ.e
       rintro e w7 ⟨rfl,tG⟩;have i0:=CE tG KK.e.1;have i1:=CE tG KK.e.2.1;have i2:=CE tG KK.e.2.2.1;have i3:=CE tG KK.e.2.2.2;have HI:=ψ tG;clear tG)
    | (go_at_call 110
       refine(CD.e _ ?hx).mono ?_
       case hx=>exact HI.e
       rintro e w8 ⟨rfl,F6⟩;have HN:=ψ F6;clear F6))
 go_wp2
 go_ret2
 exact⟨by rw[xQ.e];rfl,a8.e.trans ((HW.e.mono (by have:=a8.e.size;omega)).trans (HN.e.mono (by have:=a8.e.size;omega)))⟩
def bq.more{w:Ψ}{B B':Nat}{b:an}{pv bv tv:υ}(h:bq w B b pv bv tv)(hB:B<=B'):bq w B' b pv bv tv:=
 ⟨h.pieces.more hB,(h.aF.more hB).still (Δ.refl w) λ_ _ ⟨kv,e1,e2,e3⟩=>⟨kv,e1,e2,e3.more hB⟩,(h.aM.more hB).still (Δ.refl w) λ_ _ ⟨pv,e1,e3⟩=>⟨pv,e1,e3.more hB⟩⟩
def Wp{l:List Cut}(hB:B<=w.heap.size)(ai:bq w B b pv bv tv)(hl:Row w B 2 Cut.R lv l)(hg:Bk w g 27 #[lv]):zl b pv bv tv w 113 #[π (φ ⟨g,0,ν⟩)] (px b l):=by
 have bV:=ψ ai;have HL:=ψ hl;refine⟨call113,λ_ W hW=>?_⟩
 have ry:=hg.lt;obtain⟨A,n,c,rfl,-⟩:=hl.Φ;have g0: W.cell? ⟨g,0,ν⟩=φ (ζ A n c):=(hg.below hW ry).cell 0;have hz:g<W.heap.size:=by have:=hW.size;omega
 have hz':g<=W.heap.size:=by omega
 have sW:Δ B w W:=Δ.aN hW hB;have Yk:B<=W.heap.size:=by have:=hW.size;omega
 obtain⟨A1,n1,c1,rfl,-⟩:=ai.pieces.Φ;obtain⟨A2,n2,c2,rfl,-⟩:=ai.aF.Φ;obtain⟨A3,n3,c3,rfl,-⟩:=ai.aM.Φ;have call:=QC (w:=W.alloc (Ξ #[ξ κ b.ab,ζ A1 n1 c1,ζ A2 n2 c2,ζ A3 n3 c3] 117)) (B:=B) (bV.e.still (sW.alloc Yk _)) (HL.e.still (sW.alloc Yk _) λ_ _ h=>h) (by simp;omega)
 have aE:=ψ call;clear ai hl hW hg sW call;refine app1 ?_
 go_enter func113,Tryz.ntmps113;go_wp2_with (first
  | (go_at_call 109;refine aE.e.mono ?_;rintro e w1 ⟨rfl,ag⟩))
 go_ret;exact⟨bj rfl,db (ώ _ _) ag (ϊ _)⟩
def KZ(b:an)(G:al)(l:List Cut)(out:List Int)(i:Nat):List Int:=match l[i]? with
 |some c=>out.set c.bm.toNat (min (out[c.bm.toNat]?.getD 0) ((pQ b c.bm.toNat:Int) - c.from_ - G.at i))
 |none=>out
def te(b:an)(l:List Cut)(n:Nat):List Int:=(Ϯ n).foldl (KZ b (cw (aH b)) l) (b.aF.map (·.aw))
def arN(b:an)(G:al)(l:List Cut)(out:List Int)(i:Nat):(KZ b G l out i).length=out.length:=by
 unfold KZ;split<;>simp
def acf(b:an)(l:List Cut)(n:Nat):te b l (n+1)=KZ b (cw (aH b)) l (te b l n) n:=by
 unfold te;rw[Ś,List.foldl_append];rfl
def ace(b:an)(l:List Cut)(n:Nat):(te b l n).length=b.aF.length:=by
 induction n with
 |zero=>simp[te]
 |succ n ih=>rw[acf,arN,ih]
def ami{w3 wq:Ψ}(h:w3.heap.size<wq.heap.size)(hg:g<w3.heap.size):g<wq.heap.size:=by omega
def GU(b:an)(l:List Cut):List Int:=te b l l.length
def arP{l:List Cut}(hB:B<=w.heap.size)(ai:bq w B b pv bv tv)(hl:Row w B 2 Cut.R lv l)(h:cG b (px b l)=0)(JV:K2 b (aH b) l=θ):
 ύ prog 31 #[η #[ξ κ b.ab,pv,bv,tv],lv] w λe w'=>∃v,e=Ω (μ #[v,ξ κ 0])/\w'.ownsRow w.heap.size 3 1 v (GU b l).length ((GU b l).map (ξ κ))/\Γ w.heap.size w w':=by
 have st:Δ B w ((w.alloc (Ξ #[ξ κ b.ab,pv,bv,tv] 26)).alloc (Ξ #[lv] 27)):=((Δ.refl w).alloc hB _).alloc (by simp;omega) _
 have aE:=ψ (EI (w:=((w.alloc (Ξ #[ξ κ b.ab,pv,bv,tv] 26)).alloc (Ξ #[lv] 27))) (B:=B) (by simp;omega) (ai.still st) (Wp (by simp;omega) (ai.still st) (hl.still st λ_ _ h=>h) (Bk.cD (g:=w.heap.size+1) (by simp) _ _)) h)
 have hz:=vU h;have hv:=oc hz.1;have OK:=ψ (Ϗ (L6 hv hz.2.1) (Bb hv));have bV:=ψ ai;have xQ:=ψ hl;have HV:=ψ hv;have sc:b.aF.length<=3:=hv.nb;have PG:=ψ JV;obtain⟨i0,di,dp,aS,bu⟩:=Ğ S3;have cP:=ψ (Ϗ di (Ϗ dp (Ϗ aS bu)));obtain⟨A1,n1,c1,rfl,-⟩:=ai.pieces.Φ;obtain⟨A2,n2,c2,rfl,e2,h2,ie,r2⟩:=ai.aF.Φ;obtain⟨A3,n3,c3,rfl,-⟩:=ai.aM.Φ;obtain⟨A,n,c,rfl,e5,h5,Ml,r5⟩:=hl.Φ;have R2:=ψ r2;have R5:=ψ r5;have C4:=ψ (Ϗ e2 e5);unfold ϕ at ie Ml;have Zu:n2<=3:=by omega
 clear ai hl st hz hv h di dp aS bu r2 r5 e2 e5 JV sc;go_enter func31,Tryz.ntmps31;go_wp2_with (first
  | (go_at_call 98;refine aE.e.mono ?_;rintro e w1 ⟨sv,rfl,aK,ag⟩
     obtain⟨A9,n9,c9,rfl,dj,tK,j8,o3⟩:=aK.row.Φ;have HO:=ψ aK;have kb:Hid (Bk w1 w.heap.size 26 #[ξ κ b.ab,ζ A1 n1 c1,ζ A2 n2 c2,ζ A3 n3 c3]):=ψ (((Bk.new w _ _).alloc _).below ag (by simp;omega))
     have kl:Hid (Bk w1 (w.heap.size+1) 27 #[ζ A n c]):=ψ ((Bk.cD (by simp) _ _).below ag (by simp))
     have aS:w.heap.size+2<=w1.heap.size:=by have:=ag.size;simpa using this
     have alz:w.heap.size+1<w1.heap.size:=by omega
     have alA:w.heap.size+1<=w1.heap.size:=by omega
     have l0:=kl.e.cell 0;have fF:Γ w.heap.size w w1:=((((ώ _ _).alloc (ϊ _) _).alloc (by simp) _).trans (ag.mono (by simp;omega)))
     have a8:=ψ fF;have PR:Hid (ύ prog 114 #[η #[ξ κ b.ab,ζ A1 n1 c1,ζ A2 n2 c2,ζ A3 n3 c3,ζ A9 n9 c9],ζ A n c] (w1.alloc (Ξ #[ξ κ b.ab,ζ A1 n1 c1,ζ A2 n2 c2,ζ A3 n3 c3,ζ A9 n9 c9] 122)) λe w'=>e=Ω (.bool θ)/\Γ (w1.heap.size+1) (w1.alloc (Ξ #[ξ κ b.ab,ζ A1 n1 c1,ζ A2 n2 c2,ζ A3 n3 c3,ζ A9 n9 c9] 122)) w'):=ψ (by
      have AB:Δ B w (w1.alloc (Ξ #[ξ κ b.ab,ζ A1 n1 c1,ζ A2 n2 c2,ζ A3 n3 c3,ζ A9 n9 c9] 122)):=(Δ.aN fF hB).alloc (by omega) _
      refine(acv (B:=w1.heap.size) (ps:=aH b) (b:=b) (l:=l) ((bV.e.still AB).more (by omega)) (aK.row.still ((Δ.refl w1).alloc (ϊ _) _) λ_ _ h=>h) ((xQ.e.still AB λ_ _ h=>h).more (by omega)) (by simp) OK.e.1 OK.e.2).mono ?_
      rintro e w' ⟨rfl,hb⟩;rw[PG.e];exact⟨rfl,hb.mono (by simp)⟩)
     clear ag aK dj o3 fF)
  | (go_at_call 114
     refine PR.e.mono ?_
     rintro e w2 ⟨rfl,ak⟩;have kf:Bk w2 w1.heap.size 122 #[ξ κ b.ab,ζ A1 n1 c1,ζ A2 n2 c2,ζ A3 n3 c3,ζ A9 n9 c9]:=(Bk.new w1 _ _).below ak (by omega)
     have KF:=ψ kf;have DQ:Γ w1.heap.size w1 w2:=((ώ _ _).alloc (by omega) _).trans (ak.mono (by omega))
     have fR:=ψ DQ;have bu:w1.heap.size+1<=w2.heap.size:=kf.lt;have sT:=kb.e.below DQ (by omega)
     have b2: w2.cell? ⟨w.heap.size,2,ν⟩=φ (ζ A2 n2 c2):=sT.cell 2;have pN:w.heap.size<w2.heap.size:=by omega
     have aab:w.heap.size<=w2.heap.size:=by omega
     clear kf sT ak DQ l0))
 go_loopw [8,10,32] (λo p u wr=>∃i:Nat,i<=n2/\u=ξ κ i/\Hid (wr.ownsRow w2.heap.size 3 1 o i ((b.aF.take i).map λx=>ξ κ x.aw))/\Hid (Γ w2.heap.size w2 wr)) (λ_ _ u _=>n2 - (ϙ u).toNat)
 case atStart=>exact⟨0,Ϡ _,rfl,ψ ⟨by simp,.inl ⟨rfl,rfl⟩⟩,ψ (ώ _ _)⟩
 case round=>
  obtain⟨i,hi,rfl,Lt,hb⟩:=hrel;have aL:=hb.e.size;have st:Δ B w wr:=(Δ.aN a8.e hB).trans (Δ.aN (fR.e.trans (hb.e.mono (by omega))) (by omega))
  by_cases aj:i<n2
  ·obtain⟨ad,x,cs,rfl,aD,hx,⟨kv,rfl,dk,fp⟩,-,aq⟩:=R2.e i aj
   obtain⟨A6,n6,c6,rfl,-⟩:=fp.Φ;have g0:=cA aq st aD rfl;have g1:=bH aq st aD 0 rfl;have g2:=bH aq st aD 1 rfl;have Bx:(ad.add (i * 3)).block<wr.heap.size:=by rw[cq];omega
   have HX:=ψ hx;clear hx aq fp st;go_wp2_with (first
    | (at_builtin
       refine Ī _ rfl (.tmp 36) (.tmp 39) 33 rfl w2.heap.size 3 i0 (ξ κ 0) 1 8 (U Tryz.underlying33) cP.e.1 cP.e.2.1 cP.e.2.2.1 cP.e.2.2.2 rfl (by decide) _ i _ rfl ((Lt.e.alloc _).alloc _) ⟨wr.heap.size+1,0,ν⟩ 1 1 [ξ κ x.aw] rfl rfl ?c1 ?c2 ?c3 ?c4 ?c5 ?_
       case c1=>(intro j u hu;match j,hu with|0,hu=>(simp at hu;subst hu;simp[go_sem,Ā]))
       case c2=>simp[Value.oneCell']
       case c3=>(simp only[ϕ];omega)
       case c4=>omega
       case c5=>(simp;omega)
       intro v' w3 cO fO _;have oo:=ψ cO;have om:=ψ fO;clear cO fO))
   go_roundw;case rel=>exact⟨i+1,by omega,by go_num,ψ (by rw[su HX.e,Ŧ];exact oo.e),
    ψ ((hb.e.trans (((ώ _ _).alloc aL _).alloc (by simp;omega) _)).grown om.e (by simp;omega) (λk hk=>kY Lt.e k hk))⟩
   case measure=>simp[ϙ];omega
  ·obtain rfl:i=n2:=by omega
   have BT:((b.aF.take i).map λx=>ξ κ x.aw)=(te b l 0).map (ξ κ):=by
    rw[ę (ÿ C4.e.1)];simp[te]
   have HO0:Hid (wr.ownsRow w2.heap.size 3 1 u8 i ((te b l 0).map (ξ κ))):=ψ (BT▸Lt.e);have AS:Hid (Γ w1.heap.size w1 wr):=ψ (fR.e.trans (hb.e.mono (by omega)))
   have GC:Bk wr w1.heap.size 122 #[ξ κ b.ab,ζ A1 n1 c1,ζ A2 i c2,ζ A3 n3 c3,ζ A9 n9 c9]:=KF.e.below hb.e (by omega)
   have f0:=GC.cell 0;have f1:=GC.cell 1;have f2:=GC.cell 2;have f3:=GC.cell 3;have f4:=GC.cell 4;have GR:=ψ (Yc (w:=wr) (B:=w1.heap.size) (s:=b.ab) (ps:=aH b) (pv:=ζ A1 n1 c1) (bv:=ζ A2 i c2) (tv:=ζ A3 n3 c3) (HO.e.row.still (Δ.aN AS.e (ϊ _)) λ_ _ h=>h) (by omega) ⟨_,_,_,rfl⟩ ⟨_,_,_,rfl⟩ ⟨_,_,_,rfl⟩)
   obtain⟨G,hG⟩:∃G,G=cw (aH b):=⟨_,rfl⟩
   rw[<-hG] at GR;unfold al.cs at GR;have HG:=ψ hG;clear hG BT Lt GC;go_wp2_with (first
    | (go_at_call 115
       refine GR.e.mono ?_
       rintro e w3 ⟨rfl,bM⟩;have Rp:Γ w2.heap.size w2 w3:=hb.e.trans (bM.mono (by omega))
       have Pj:=ψ Rp;have klr:Bk w3 (w.heap.size+1) 27 #[ζ A n c]:=kl.e.below (fR.e.trans (Rp.mono (by omega))) (by omega)
       have l0:=klr.cell 0;have xt:wr.heap.size<=w3.heap.size:=bM.size;have hz5:w.heap.size+1<w3.heap.size:=by omega
       have avq:w.heap.size+1<=w3.heap.size:=by omega
       have AW:Hid (w3.ownsRow w2.heap.size 3 1 u8 i ((te b l 0).map (ξ κ))):=ψ (xz HO0.e bM (ϊ _));clear bM Rp klr f0 f1 f2 f3 f4))
   obtain⟨A8,c8,rfl,hA8,hc8,ajK⟩:=KC AW.e;unfold ϕ at ajK;go_loopw [12,13,46] (λp q u wq=>∃j:Nat,j<=n/\u=ξ κ j/\Hid (wq.ownsRow w2.heap.size 3 1 (ζ A8 i c8) i ((te b l j).map (ξ κ)))/\Hid (Γ w2.heap.size w2 wq)/\Hid (Bk wq w3.heap.size 128 #[ξ κ G.a,ξ κ G.b,ξ κ G.c])) (λ_ _ u _=>n - (ϙ u).toNat)
   case atStart=>exact⟨0,Ϡ _,rfl,ψ (AW.e.alloc _),ψ (Pj.e.alloc (by have:=Pj.e.size;omega) _),ψ (Bk.new w3 _ _)⟩
   case round=>
    obtain⟨wq,rfl⟩:∃wq:Ψ,wq=wr:=⟨_,rfl⟩
    obtain⟨j,hj,rfl,Ls,Jk,MI⟩:=hrel;have avl:=Jk.e.size;have MM:=MI.e.lt;by_cases aj:j<n
    ·obtain⟨ad,x,cs,rfl,aD,hx,rfl,-,aq⟩:=R5.e j aj
     obtain⟨bd,fr⟩:=x;have NG:=OK.e.1.qQ j _ hx;obtain⟨k,hk,cM⟩:=NG.bm;obtain rfl:bd=(k:Int):=hk;have bY:0<=fr/\fr<=40:=NG.from_;have xf:k<i:=by have:=C4.e.1;omega
     have Jz:j<3:=by have:=OK.e.1.len;have:=OK.e.1.three;have:=C4.e.2;omega
     have Y0:(j:Int)<3:=by omega
     obtain⟨g8,rfl,RX,akd,auh,ajW⟩:=hA8 (by omega)
     obtain⟨Wh,xb,csb,eb,Yu,SV,⟨kvb,rfl,ave,aku⟩,-,YB⟩:=R2.e k xf;subst eb;have auX:(te b l j).length=i:=by rw[ace];exact C4.e.1
     obtain⟨ov,B6⟩:∃ov,(te b l j)[k]?=φ ov:=⟨_,Ä (by omega)⟩
     have st:Δ B w wq:=(Δ.aN a8.e hB).trans (Δ.aN (fR.e.trans (Jk.e.mono (by omega))) (by omega))
     have h0:=cA aq st aD rfl;have h1:=bH aq st aD 0 rfl;have q1:=bH YB st Yu 0 rfl;have o1: wq.cell? ⟨g8,k,ν⟩=φ (ξ κ ov):=by
      have:=Kx Ls.e k (ξ κ ov) (by rw[Aid,B6];rfl)
      rwa[uG] at this
     have z1: wq.frozen? ⟨g8,k,ν⟩=χ:=by
      obtain⟨_,_,e,h,_⟩:=KC Ls.e;obtain⟨g,e2,_,_,cur,hc⟩:=h (by omega)
      cases e;cases e2;rw[Go.Sim.Ds (a:=⟨g8,k,ν⟩) hc];rfl
     have kbq:=kb.e.below (fR.e.trans (Jk.e.mono (by omega))) (by omega)
     have b2: wq.cell? ⟨w.heap.size,2,ν⟩=φ (ζ (φ Wh) i c2):=kbq.cell 2;have gj: wq.cell? ⟨w3.heap.size,j,ν⟩=φ (ξ κ (G.at j)):=(MI.e.cell j).trans (al.Bo (n:=G) Jz);have Zq:pQ b k=xb.aw.toNat:=by unfold pQ;rw[SV]
     have Gx:=(HV.e.bm xb (ϡ SV)).aw;have hGa:=(Yd (aH b) OK.e.2) j;rw[<-HG.e] at hGa;have NX:Hid (te b l (j+1)=(te b l j).set k (min ov (xb.aw - fr - G.at j))):=ψ (by
      rw[acf];unfold KZ;rw[hx,<-HG.e];simp only[Int.toNat_natCast,B6,Option.getD_some,Zq];rw[Int.toNat_of_nonneg (by omega)])
     have y0:g8<wq.heap.size:=by have:=Pj.e.size;exact ami (w3:=w3) MI.e.lt akd
     have y1:w.heap.size<wq.heap.size:=by omega
     have y2:w.heap.size<=wq.heap.size:=by omega
     have y3:w3.heap.size<=wq.heap.size:=by omega
     have y4:(Wh.add (k * 3)).block<wq.heap.size:=by rw[cq];omega
     have y5:(ad.add (j * 2)).block<wq.heap.size:=by rw[cq];omega
     have y6:g8<=wq.heap.size:=by omega
     have auV:(k:Int)<i:=by omega
     clear hx aq NG SV YB aku B6 kbq st ajW Zq;go_wp2;refine Cx 24 (by kernel_rfl) (by kernel_rfl) ?_
     simp only[ù,ú,ý,ĉ];repeat still_step
     refine wpStill_nil ?_
     go_wp2;go_roundw;case rel=>exact⟨j+1,by omega,by go_num,ψ (by
      rw[NX.e,List.map_set];exact(NK (u:=ξ κ (min ov (xb.aw - fr - G.at j))) Ls.e (by omega)).alloc _),
      ψ (oT ((Jk.e.setCell (p:=⟨g8,k,ν⟩) RX _).alloc (by simp[î];omega) _)),ψ (Bk.alloc (MI.e.fS (by simp;omega) _) _)⟩
     case measure=>simp[ϙ];omega
    ·obtain rfl:j=n:=by omega
     go_wp2
     go_ret2
     refine⟨_,rfl,?_,?_⟩
     ·have yu:(GU b l).length=i:=by unfold GU;rw[ace];exact C4.e.1
      rw[yu];unfold GU;rw[C4.e.2];exact Ls.e.base (by omega)
     ·exact a8.e.trans ((fR.e.mono (by omega)).trans (Jk.e.mono (by omega)))
def arO{l:List Cut}(hB:B<=w.heap.size)(ai:bq w B b pv bv tv)(hl:Row w B 2 Cut.R lv l)(h:cG b (px b l)=0)(JV:K2 b (aH b) l=χ):
 ύ prog 31 #[η #[ξ κ b.ab,pv,bv,tv],lv] w λe w'=>e=Ω (μ #[ζ ν 0 0,ξ κ 8])/\Γ w.heap.size w w':=by
 have st:Δ B w ((w.alloc (Ξ #[ξ κ b.ab,pv,bv,tv] 26)).alloc (Ξ #[lv] 27)):=((Δ.refl w).alloc hB _).alloc (by simp;omega) _
 have aE:=ψ (EI (w:=((w.alloc (Ξ #[ξ κ b.ab,pv,bv,tv] 26)).alloc (Ξ #[lv] 27))) (B:=B) (by simp;omega) (ai.still st) (Wp (by simp;omega) (ai.still st) (hl.still st λ_ _ h=>h) (Bk.cD (g:=w.heap.size+1) (by simp) _ _)) h)
 have hz:=vU h;have hv:=oc hz.1;have OK:=ψ (Ϗ (L6 hv hz.2.1) (Bb hv));have bV:=ψ ai;have xQ:=ψ hl;have HV:=ψ hv;have sc:b.aF.length<=3:=hv.nb;have PG:=ψ JV;obtain⟨A1,n1,c1,rfl,-⟩:=ai.pieces.Φ;obtain⟨A2,n2,c2,rfl,e2,h2,ie,r2⟩:=ai.aF.Φ;obtain⟨A3,n3,c3,rfl,-⟩:=ai.aM.Φ;obtain⟨A,n,c,rfl,e5,h5,Ml,r5⟩:=hl.Φ;have R2:=ψ r2;have R5:=ψ r5;have C4:=ψ (Ϗ e2 e5);unfold ϕ at ie Ml;have Zu:n2<=3:=by omega
 clear ai hl st hz hv h r2 r5 e2 e5 JV sc;go_enter func31,Tryz.ntmps31;go_wp2_with (first
  | (go_at_call 98;refine aE.e.mono ?_;rintro e w1 ⟨sv,rfl,aK,ag⟩
     obtain⟨A9,n9,c9,rfl,dj,tK,j8,o3⟩:=aK.row.Φ;have HO:=ψ aK;have kb:Hid (Bk w1 w.heap.size 26 #[ξ κ b.ab,ζ A1 n1 c1,ζ A2 n2 c2,ζ A3 n3 c3]):=ψ (((Bk.new w _ _).alloc _).below ag (by simp;omega))
     have kl:Hid (Bk w1 (w.heap.size+1) 27 #[ζ A n c]):=ψ ((Bk.cD (by simp) _ _).below ag (by simp))
     have aS:w.heap.size+2<=w1.heap.size:=by have:=ag.size;simpa using this
     have alz:w.heap.size+1<w1.heap.size:=by omega
     have alA:w.heap.size+1<=w1.heap.size:=by omega
     have l0:=kl.e.cell 0;have fF:Γ w.heap.size w w1:=((((ώ _ _).alloc (ϊ _) _).alloc (by simp) _).trans (ag.mono (by simp;omega)))
     have a8:=ψ fF;have PR:Hid (ύ prog 114 #[η #[ξ κ b.ab,ζ A1 n1 c1,ζ A2 n2 c2,ζ A3 n3 c3,ζ A9 n9 c9],ζ A n c] (w1.alloc (Ξ #[ξ κ b.ab,ζ A1 n1 c1,ζ A2 n2 c2,ζ A3 n3 c3,ζ A9 n9 c9] 122)) λe w'=>e=Ω (.bool χ)/\Γ (w1.heap.size+1) (w1.alloc (Ξ #[ξ κ b.ab,ζ A1 n1 c1,ζ A2 n2 c2,ζ A3 n3 c3,ζ A9 n9 c9] 122)) w'):=ψ (by
      have AB:Δ B w (w1.alloc (Ξ #[ξ κ b.ab,ζ A1 n1 c1,ζ A2 n2 c2,ζ A3 n3 c3,ζ A9 n9 c9] 122)):=(Δ.aN fF hB).alloc (by omega) _
      refine(acv (B:=w1.heap.size) (ps:=aH b) (b:=b) (l:=l) ((bV.e.still AB).more (by omega)) (aK.row.still ((Δ.refl w1).alloc (ϊ _) _) λ_ _ h=>h) ((xQ.e.still AB λ_ _ h=>h).more (by omega)) (by simp) OK.e.1 OK.e.2).mono ?_
      rintro e w' ⟨rfl,hb⟩;rw[PG.e];exact⟨rfl,hb.mono (by simp)⟩)
     clear ag aK dj o3 fF)
  | (go_at_call 114
     refine PR.e.mono ?_
     rintro e w2 ⟨rfl,ak⟩;have kf:Bk w2 w1.heap.size 122 #[ξ κ b.ab,ζ A1 n1 c1,ζ A2 n2 c2,ζ A3 n3 c3,ζ A9 n9 c9]:=(Bk.new w1 _ _).below ak (by omega)
     have KF:=ψ kf;have DQ:Γ w1.heap.size w1 w2:=((ώ _ _).alloc (by omega) _).trans (ak.mono (by omega))
     have fR:=ψ DQ;have bu:w1.heap.size+1<=w2.heap.size:=kf.lt;have sT:=kb.e.below DQ (by omega)
     have b2: w2.cell? ⟨w.heap.size,2,ν⟩=φ (ζ A2 n2 c2):=sT.cell 2;have pN:w.heap.size<w2.heap.size:=by omega
     have aab:w.heap.size<=w2.heap.size:=by omega
     clear kf sT ak DQ l0))
 go_ret2
 exact⟨rfl,a8.e.trans (fR.e.mono (by omega))⟩
end Go.Tw
namespace Go.Tw
open Go
def rC(m n:Nat):Array Bool:=((Ϯ n).map λi=>Nat.blt i m).toArray
def aaM(m n:Nat):(rC m n).setIfInBounds m θ=rC (m+1) n:=by
 apply ĸ;intro i;unfold rC;by_cases hi:i<n
 ·by_cases h:m=i
  ·subst h
   simp[hi,Aik]
  ·have e:(Nat.blt i m)=(Nat.blt i (m+1)):=by
    rw[Bool.eq_iff_iff,Aik,Aik];omega
   simp[hi,h,e]
 ·simp[hi]
def ana(n:Nat):Array.replicate n χ=rC 0 n:=by
 apply ĸ;intro i;unfold rC;by_cases hi:i<n
 ·have e:Nat.blt i 0=χ:=by
   rw[Ag7,ne_eq,Aik];omega
  simp[hi,e]
 ·simp[hi]
def N5(md:Region.Mode)(ops:Array Oper)(n:Nat):Nat->Nat->Bool
 |0,_=>θ
 |k+1,m=>Region.free md ops (rC m n) m && ((Region.ready md ops (rC m n)).contains m && N5 md ops n k (m+1))
def sD(P:Program)(ops:Array Oper)(S:Ψ->Prop):Nat->Nat->Act->(Act->Prop)->Prop
 |0,_,a,K=>K a
 |k+1,m,a,K=>∃o v,ops[m]?=φ o/\YieldsIf P ops S o v a/\sD P ops S k (m+1) (a.put o.dst v) K
section
variable {P:Program}{md:Region.Mode}{ops:Array Oper}{Q:Exit->Act->Ψ->Prop}{S:Ψ->Prop}{w:Ψ}{a:Act}{K:Act->Prop}{k m n f:Nat}{o:Oper}{v:υ}
def ZO(hs:Region.noSelect ops=θ)(hQ:∀c a a' w,Q (.panic c) a w->Q (.panic c) a' w)(hS:S w)(f n:Nat):
 ∀(k m:Nat) (a:Act),N5 md ops n k m=θ->sD P ops S k m a (λa=>ř P md ops Q S f (rC (m+k) n) a w)->ř P md ops Q S (f+k) (rC m n) a w
 |0,_,_,_,h=>h
 |k+1,m,a,hf,h=>by
  obtain⟨o,v,ho,hy,h⟩:=h;unfold N5 at hf;simp only[Ϫ] at hf;refine wpAnyH_take ho hs hf.1 hf.2.1 (λc a w h=>hQ c _ _ w h) hy hS ?_
  rw[aaM];refine ZO hs hQ hS f n k (m+1) _ hf.2.2 ?_
  rw[show m+1+k=m+(k+1) by omega]
  exact h
def bt(k f:Nat)(hg:g=f+k)(hr:(Region.noSelect ops && N5 md ops n k m)=θ)(hS:S w)
 (h:sD P ops S k m a (λa=>ř P md ops (NoPanic Q) S f (rC (m+k) n) a w)):ř P md ops (NoPanic Q) S g (rC m n) a w:=by
 rw[Ϫ] at hr;subst hg;exact ZO hr.1 (λ_ _ _ _ h=>h) hS f n k m a hr.2 h
def Ah(d:Option Nat)(ho:ops[m]?=φ o)(hd:(o.dst==d)=θ)(hw:Ê o (yielded ops a.tmps)=θ)(hy:∀w,S w->(execOp a.eval o).run P w=.ok (.value v) w)(h:sD P ops S k (m+1) (a.put d v) K):
 sD P ops S (k+1) m a K:=⟨o,v,ho,.inl ⟨hw,hy⟩,by rw[eq_of_beq hd];exact h⟩
def MY(d:Option Nat)(ho:ops[m]?=φ o)(hd:(o.dst==d)=θ)(hw:Ê o (yielded ops a.tmps)=χ)(h:sD P ops S k (m+1) (a.put d ω) K):sD P ops S (k+1) m a K:=
 ⟨o,ω,ho,.inr ⟨hw,rfl⟩,by rw[eq_of_beq hd];exact h⟩
def vM(b:Nat)(ho:ops[m]?=φ o)(hd:(o.dst==φ (b+m))=θ)(hw:Ê o (yielded ops a.tmps)=θ)(hy:∀w,S w->(execOp a.eval o).run P w=.ok (.value v) w)(h:sD P ops S k (m+1) (a.put (φ (b+m)) v) K):
 sD P ops S (k+1) m a K:=Ah _ ho hd hw hy h
def SC(b:Nat)(ho:ops[m]?=φ o)(hd:(o.dst==φ (b+m))=θ)(hw:Ê o (yielded ops a.tmps)=χ)(h:sD P ops S k (m+1) (a.put (φ (b+m)) ω) K):sD P ops S (k+1) m a K:=MY _ ho hd hw h
def Ee(h:K a):sD P ops S 0 m a K:=h
def SA{J:Act->Prop}(j:Nat):∀(i m:Nat) {l:Nat} (_:l=j+i) {a:Act} (_:sD P ops S i m a J) (_:∀a,J a->sD P ops S j (m+i) a K),sD P ops S l m a K
 |0,m,_,hl,_,h1,h2=>by
  subst hl;exact h2 _ h1
 |i+1,m,_,hl,_,h1,h2=>by
  subst hl;obtain⟨o,v,ho,hy,h⟩:=h1;refine⟨o,v,ho,hy,SA j i (m+1) rfl h λa ha=>?_⟩
  rw[show m+1+i=m+(i+1) by omega]
  exact h2 a ha
def ajL(ho:ops[m]?=φ o)(hr:(Region.ready md ops (rC m n)==[m])=θ)(hw:Ê o (yielded ops a.tmps)=θ)
 (h:∀(K':Act->Ψ->Prop) (Q':Exit->Act->Ψ->Prop),Shut (∀a w,S w->(S w->ř P md ops Q S f (rC (m+1) n) a w)->K' a w)->Oper.wp P o a w K' Q'):ř P md ops Q S (f+1) (rC m n) a w:=by
 refine wpAnyH_ready (eq_of_beq hr) (by simp) (AllReadyH.cons ho (λK' hK=>?_) AllReadyH.nil)
 rw[if_pos hw];refine h K' Q ?_
 rw[<-aaM];exact hK
def hstart{id:Nat}(n:Nat)(hn:ops.size=n)(hm:P.follows .mixedOrders=θ)(hS:S w.drew)(h:S w.drew->ř P .any ops (NoPanic Q) S n (rC 0 n) a w.drew):(Code.region id ops θ).wp P Q a w:=by
 subst hn;refine wp_region_noPanic (wp_region_held_drew hm hS λh'=>?_)
 rw[ana];exact h h'
def Jp(hr:(Region.ready md ops (rC m n)==[])=θ)(h:Q .normal a w):ř P md ops (NoPanic Q) S f (rC m n) a w:=wpAnyH_done (eq_of_beq hr) (NoPanic.normal h) f
end
end Go.Tw
namespace Go.Tw
variable [Go.Tw.aJ]
open Go Go.Proofs Go.RowKit
def vi(w:Ψ)(g n:Nat)(xs:List Int):Prop:=
 ∃D:DataW Nat,w.ownsMap prog 3 (plainElem prog 3) g n D/\Maps.IsMap D/\∀x:Int,rR x->D.atKey (.int .i64 x) (.lit (.int .i64 0))=.lit (.int .i64 (xs.count x:Nat))
def Oy:prog.underlying 3=φ (.int .i64):=(U Tryz.underlying3).trans rfl
def acM:prog.underlying 174=φ (.map 3 3):=(U Tryz.underlying174).trans rfl
def Tk(h:rR a):keyOf prog 3 (.int .i64 a)=φ (.int .i64 a):=Maps.keyOf_int_mk Oy (G2 h)
def atM(W:Ψ):(zeroValue 3).run prog W=.ok (.int .i64 0) W:=by rw[UN];kernel_rfl
def Tm:Maps.Keyed prog 3:=Maps.int_keyed Oy
def vi.kept{w w':Ψ}{g n:Nat}{xs:List Int}{row:Option Nat}(h:vi w g n xs)(hg:w.grownBy w' row)(au:φ g≠row):vi w' g n xs:=by
 obtain⟨D,h1,h2,h3⟩:=h;exact⟨D,h1.kept hg au,h2,h3⟩
def vi.lt{w:Ψ}{g n:Nat}{xs:List Int}(h:vi w g n xs):g<w.heap.size:=by obtain⟨D,h1,_⟩:=h;exact h1.lt
def vi.made(w:Ψ):vi (w.alloc (.map #[] 0)) w.heap.size 0 []:=
 ⟨.map [],World.ownsMap_made w prog 3 _,⟨_,rfl⟩,λx _=>rfl⟩
def ac3{o:Oper}{a:Act}{Q:Exit->Act->Ψ->Prop}(hg:o.guard=ν)(m x:Ç)(ae:o.op=Op.lookup 174 m x χ)
 (g n:Nat)(xs:List Int)(k:Int)(hk:rR k)(hm:a.eval m=.map (φ g))(hx:a.eval x=.int .i64 k)(h:vi w g n xs)
 (hK:ó prog ops Q rest (a.put o.dst (.int .i64 (xs.count k:Nat))) w):ó prog ops Q (o::rest) a w:=by
 obtain⟨D,h1,h2,h3⟩:=h;refine wpList_lookup_own_int w hg m x 174 ae 3 3 .i64 Tm acM Oy (atM w) g n D hm h1 _ _ hx (Tk hk) ?_
 intro c rY _;rw[h3 k hk] at rY;injection rY with rY;injection rY with _ rY
 rw[<-rY];exact hK
def atz{o:Oper}{a:Act}{Q:Exit->Act->Ψ->Prop}(hg:o.guard=ν)(m x v:Ç)(ae:o.op=Op.mapUpdate 174 m x v)
 (g n:Nat)(xs:List Int)(k:Int)(hk:rR k)(hn:n<ϕ)(hc:xs.count k+1<=ϕ)(hm:a.eval m=.map (φ g))(hx:a.eval x=.int .i64 k)(hv:a.eval v=.int .i64 ((xs.count k:Nat)+1))(h:vi w g n xs)
 (hK:∀w',vi w' g (n+1) (xs++ [k])->w.grownBy w' (φ g)->ó prog ops Q rest (a.put o.dst ω) w'):ó prog ops Q (o::rest) a w:=by
 obtain⟨D,h1,h2,h3⟩:=h;unfold ϕ at hc;refine wpList_mapUpdate_own w hg m x v 174 ae 3 3 Tm acM _ g n D hm h1 hn _ _ _ hx hv (Tk hk) (.lit (.int .i64 ((xs.count k:Nat)+1))) [] (plainElem_int Oy (G2 ⟨by omega,by omega⟩)) ?_
 intro w' Gt gX;refine hK w' ⟨_,Gt,Gt.isMap,λy hy=>?_⟩ gX
 by_cases e:y=k
 ·subst e
  rw[Maps.atKey_put_same h2 (Tm.key (Tk hk)),List.count_append];simp
 ·rw[Maps.atKey_put_other (by intro h;injection h with _ h;exact e h),h3 y hy,List.count_append]
  simp[List.count_cons,Ne.symm e,e]
def aty{o:Oper}{a:Act}{Q:Exit->Act->Ψ->Prop}(hg:o.guard=ν)(t:TypeId)(ae:o.op=Op.makeMap t ν)
 (hK:ó prog ops Q rest (a.put o.dst (.map (φ w.heap.size))) (w.alloc (.map #[] 0))):ó prog ops Q (o::rest) a w:=by
 refine wpList_plain hg λK' I8=>?_
 unfold Oper.wp;have bt:=RowKit.run_makeMap (P:=prog) t w;simp[execOp,ae,bt,Ţ];exact I8 _ _ hK
def afE{wp:Ψ}{x:al}{v:Int}(hg:(wp.alloc (Ξ #[.int .i64 x.a,.int .i64 x.b,.int .i64 x.c] 128)).grownBy w2 (φ g))(aj:g<wp.heap.size)(hk:k<3)(hv:v=x.at k):
 w2.cell? ⟨wp.heap.size,k,ν⟩=φ (.int .i64 v):=by
 have h:Bk w2 wp.heap.size 128 #[.int .i64 x.a,.int .i64 x.b,.int .i64 x.c]:=(Bk.new wp _ _).grown hg (by simp;omega)
 rw[hv];exact(h.cell k).trans (al.Bo (n:=x) hk)
def so(xs:List Int):Nat->Int
 |0=>0
 |j+1=>max (so xs j) ((xs.take (j+1)).count (xs.getD j 0):Nat)
def ou(b:an):Nat->Int×Int
 |0=>(-1,(aH b).length)
 |k+1=>let m:=so ((aH b).map (·.at k)) (aH b).length;if m<(ou b k).2 then(k,m) else ou b k
def IC(b:an):Int×Int:=ou b b.pieces.length
def TF(xs:List Int):∀j,0<=so xs j/\so xs j<=j
 |0=>by simp[so]
 |j+1=>by
  have:=TF xs j;have h1:((xs.take (j+1)).count (xs.getD j 0))<=j+1:=ϣ Aie (by simp;omega)
  unfold so;omega
def Wn(b:an):∀k,-1<=(ou b k).1/\(ou b k).1<=k/\0<=(ou b k).2/\(ou b k).2<=(aH b).length
 |0=>by simp[ou]
 |k+1=>by
  have h:=Wn b k;have h2:=TF ((aH b).map (·.at k)) (aH b).length
  unfold ou;simp only;split
  ·refine⟨?_,?_,?_,?_⟩<;>simp only<;>omega
  ·refine⟨?_,?_,?_,?_⟩<;>omega
def Wo{m p l:Int}(h:p=(ou b k).1/\l=(ou b k).2)(hm:m=so ((aH b).map (·.at k)) (aH b).length)(aj:m<l):ou b (k+1)=((k:Int),m):=by
 show(if so ((aH b).map (·.at k)) (aH b).length<(ou b k).2 then((k:Int),so ((aH b).map (·.at k)) (aH b).length) else ou b k)=_
 rw[<-hm,<-h.2,if_pos aj]
def Wm{m p l:Int}(h:p=(ou b k).1/\l=(ou b k).2)(hm:m=so ((aH b).map (·.at k)) (aH b).length)(aj:¬m<l):ou b (k+1)=(p,l):=by
 show(if so ((aH b).map (·.at k)) (aH b).length<(ou b k).2 then((k:Int),so ((aH b).map (·.at k)) (aH b).length) else ou b k)=_
 rw[<-hm,<-h.2,if_neg aj,h.1,h.2]
def aqo{c:Int}{s:υ}(h:a=a')(h':c=c'):Ending.returned (μ #[ξ κ a,ξ κ c,s])=Ω (μ #[ξ κ a',ξ κ c',s]):=by rw[h,h']
def am4{L:al}(h:L.Ok)(hk:k<3):rR (L.at k):=by
 have:=h k;unfold rR;omega
def aeN(hB:B<=w.heap.size)(ai:bq w B b pv bv tv)(h:cG b 0=0):
 ύ prog 61 #[η #[ξ κ b.ab,pv,bv,tv]] w λe w'=>e=Ω (μ #[ξ κ (IC b).1,ξ κ (IC b).2,ξ κ 0])/\Γ w.heap.size w w':=by
 have st:Δ B w (w.alloc (Ξ #[ξ κ b.ab,pv,bv,tv] 26)):=(Δ.refl w).alloc hB _;have aE:=ψ (EI (w:=(w.alloc (Ξ #[ξ κ b.ab,pv,bv,tv] 26))) (B:=B) (by simp;omega) (ai.still st) (LJ (ai.still st)) h)
 have hz:=vU h;have hv:=oc hz.1;have aky:=IB hv;have OKS:=ψ (Bb hv);obtain⟨A1,n1,c1,rfl,e1,h1,jx,-⟩:=ai.pieces.Φ;obtain⟨A2,n2,c2,rfl,-⟩:=ai.aF.Φ;obtain⟨A3,n3,c3,rfl,-⟩:=ai.aM.Φ;have sc:n1<=3:=by have:=hv.np;omega
 have E1:=ψ e1;unfold ϕ at jx;clear ai st hz hv h e1;go_enter func61,Tryz.ntmps61;go_wp2_with (first
  | (go_at_call 98;refine aE.e.mono ?_;rintro e w1 ⟨sv,rfl,aK,ag⟩
     obtain⟨A9,n9,c9,rfl,dj,tK,j8,o3⟩:=aK.row.Φ;have rO:=ψ o3;have wG:=ψ dj;have kk:Hid (Bk w1 w.heap.size 26 #[ξ κ b.ab,ζ A1 n1 c1,ζ A2 n2 c2,ζ A3 n3 c3]):=ψ ((Bk.new w _ _).below ag (by simp))
     have aS:w.heap.size+1<=w1.heap.size:=by have:=ag.size;simpa using this
     have akK:n9<=27:=by omega
     have a8:Hid (Γ w.heap.size w w1):=ψ ((((ώ _ _).alloc (ϊ _) _)).trans (ag.mono (by simp)));clear ag aK dj o3))
 have hB0:w.heap.size<w1.heap.size:=by omega
 have Pt:Hid (n9=(aH b).length):=ψ wG.e.symm;have q4:(w1.alloc (Ξ #[ξ κ b.ab,ζ A1 n1 c1,ζ A2 n2 c2,ζ A3 n3 c3,ζ A9 n9 c9] 122)).cell? ⟨w1.heap.size,4,ν⟩=φ (ζ A9 n9 c9):=(Bk.new _ _ _).cell 4;have q1:(w1.alloc (Ξ #[ξ κ b.ab,ζ A1 n1 c1,ζ A2 n2 c2,ζ A3 n3 c3,ζ A9 n9 c9] 122)).cell? ⟨w.heap.size,1,ν⟩=φ (ζ A1 n1 c1):=(kk.e.alloc _).cell 1;go_region
 go_wp2;clear q4 q1;go_loopw [2,3,25] (λu2 u3 u wr=>∃k:Nat,k<=n1/\u=ξ κ k/\u2=ξ κ (ou b k).1/\u3=ξ κ (ou b k).2/\Hid (Γ (w1.heap.size+1) (w1.alloc (Ξ #[ξ κ b.ab,ζ A1 n1 c1,ζ A2 n2 c2,ζ A3 n3 c3,ζ A9 n9 c9] 122)).drew wr)) (λ_ _ u _=>n1 - (ϙ u).toNat)
 case atStart=>exact⟨0,Ϡ _,rfl,rfl,by rw[Pt.e];rfl,ψ (ώ _ _)⟩
 case round=>
  obtain⟨wo,rfl⟩:∃wo:Ψ,wo=wr:=⟨_,rfl⟩
  obtain⟨k,hk,rfl,rfl,rfl,hb⟩:=hrel;have bL:=Wn b k;obtain⟨pk,Gj⟩:∃pk,pk=(ou b k).1:=⟨_,rfl⟩
  obtain⟨lk,MM⟩:∃lk,lk=(ou b k).2:=⟨_,rfl⟩
  rw[<-Gj,<-MM] at bL |-
  have Fa:=ψ (Ϗ Gj MM);clear Gj MM;have qT:w1.heap.size+1<=wo.heap.size:=by have:=hb.e.size;simpa using this
  have kb:Bk wo w1.heap.size 122 #[ξ κ b.ab,ζ A1 n1 c1,ζ A2 n2 c2,ζ A3 n3 c3,ζ A9 n9 c9]:=Bk.below (w:=(w1.alloc (Ξ #[ξ κ b.ab,ζ A1 n1 c1,ζ A2 n2 c2,ζ A3 n3 c3,ζ A9 n9 c9] 122)).drew) (Bk.new w1 _ _) hb.e (by simp)
  have kb4:(wo.alloc (.map #[] 0)).cell? ⟨w1.heap.size,4,ν⟩=φ (ζ A9 n9 c9):=(kb.alloc _).cell 4;have xt:w1.heap.size<wo.heap.size:=by omega
  have hz5:w1.heap.size<=wo.heap.size:=by omega
  clear kb;by_cases aj:k<n1
  ·have pA:k<3:=by omega
   have akl:(k:Int)<3:=by omega
   go_wp2_with (first| (refine aty rfl 174 rfl ?_))
   go_loopw [8,32] (λu8 u wr=>∃j:Nat,j<=n9/\u=ξ κ j/\u8=ξ κ (so ((aH b).map (·.at k)) j)/\Hid (vi wr wo.heap.size j (((aH b).map (·.at k)).take j))/\Hid (Γ wo.heap.size wo wr)) (λ_ u _=>n9 - (ϙ u).toNat)
   case atStart=>exact⟨0,Ϡ _,rfl,rfl,ψ (vi.made wo),ψ ((ώ _ _).alloc (ϊ _) _)⟩
   case round=>
    obtain⟨wp,rfl⟩:∃wp:Ψ,wp=wr:=⟨_,rfl⟩
    obtain⟨j,hj,rfl,rfl,HC,ak⟩:=hrel;have hm:=TF ((aH b).map (·.at k)) j
    obtain⟨mj,Si⟩:∃mj,mj=so ((aH b).map (·.at k)) j:=⟨_,rfl⟩
    rw[<-Si] at hm |-
    have VM:=ψ Si;clear Si;have hzp:wo.heap.size<wp.heap.size:=HC.e.lt;by_cases hjt:j<n9
    ·obtain⟨ad,x,cs,rn,aD,hx,rfl,-,aq⟩:=rO.e j hjt
     subst rn;have uN:Γ w1.heap.size w1 (w1.alloc (Ξ #[ξ κ b.ab,ζ A1 n1 c1,ζ A2 n2 c2,ζ A3 n3 c3,ζ (φ ad) n9 c9] 122)).drew:=oT ((ώ w1.heap.size w1).alloc (ϊ _) _);have Yx:Γ w1.heap.size w1 wp:=(uN.trans (hb.e.mono (Nat.le_succ _))).trans (ak.e.mono (by omega))
     have uv:Hid (Γ w1.heap.size w1 wp):=ψ Yx;clear uN Yx;have st:Δ w1.heap.size w1 wp:=Δ.aN uv.e (ϊ _);have g0:=cA aq st aD rfl;have g1:=bH aq st aD 0 rfl;have g2:=bH aq st aD 1 rfl;have Bx:(ad.add (j * 3)).block<wp.heap.size:=by rw[cq];omega
     have HX:=ψ hx;obtain⟨v,hv⟩:∃v,v=x.at k:=⟨_,rfl⟩
     have M7:rR v:=by rw[hv];exact am4 (OKS.e x (ϡ hx)) pA
     have SM:=ψ M7;have gk:(wp.alloc (Ξ #[ξ κ x.a,ξ κ x.b,ξ κ x.c] 128)).cell? ⟨wp.heap.size,k,ν⟩=φ (ξ κ v):=by rw[hv];exact(Bk.new wp _ _).cell k|>.trans (al.Bo (n:=x) pA)
     have HV:=ψ hv;have YG:((aH b).map (·.at k)).take (j+1)=((aH b).map (·.at k)).take j++ [v]:=by
      rw[List.take_add_one,Aid,hx];simp[hv]
     have MH:((aH b).map (·.at k)).getD j 0=v:=by
      rw[List.getD_eq_getElem?_getD,Aid,hx];simp[hv]
     have Po:=ψ (Ϗ YG MH);obtain⟨cn,RK⟩:∃cn,cn=(((aH b).map (·.at k)).take j).count v:=⟨_,rfl⟩
     have auD:cn<=j:=by rw[RK];exact ϣ Aie (by simp;omega)
     have El:ϗ.wrap ((cn:Int)+1)=(cn:Int)+1:=by rw[IntWalk.i64_left];exact IntWalk.wrap64_in _ (by omega)
     have Pn:=ψ RK;have au9:n9<ϕ:=by unfold ϕ;omega
     clear hx aq st M7 hv YG MH RK;go_wp2_with (first
      | (at_lookup;refine ac3 rfl (.tmp 36) (.tmp 39) rfl wo.heap.size j _ v SM.e rfl rfl (HC.e.kept (ϯ wp _ ν) nofun) ?_;rw[<-Pn.e])
      | (at_mapUpdate;refine atz rfl (.tmp 36) (.tmp 39) (.tmp 41) rfl wo.heap.size j _ v SM.e (by omega) ?hc rfl rfl (by rw[<-Pn.e];try rfl) (HC.e.kept (ϯ wp _ ν) nofun) ?_
         case hc=>(rw[<-Pn.e];unfold ϕ;omega)
         rw[<-Po.e.1];intro w2 gW tH;have C8:=ψ gW;have gk2: w2.cell? ⟨wp.heap.size,k,ν⟩=φ (ξ κ v):=afE tH hzp pA HV.e;have HG2:=ψ tH;clear gW tH)
      | (at_lookup;refine ac3 rfl (.tmp 43) (.tmp 46) rfl wo.heap.size (j+1) _ v SM.e rfl rfl C8.e ?_))
     go_roundw;case rel=>exact⟨j+1,by omega,by go_num,by
      rw[VM.e];conv=>rhs;unfold so
      rw[Po.e.1,Po.e.2],C8,
      ψ ((ak.e.trans ((ώ wo.heap.size wp).alloc (by omega) _)).grown HG2.e (by simp;omega) (λq hq=>by injection hq with hq;omega))⟩
     case measure=>simp[ϙ];omega
    ·obtain rfl:j=n9:=by omega
     have MO:mj=so ((aH b).map (·.at k)) (aH b).length:=by rw[VM.e,<-wG.e]
     have By:Hid (Γ (w1.heap.size+1) (w1.alloc (Ξ #[ξ κ b.ab,ζ A1 n1 c1,ζ A2 n2 c2,ζ A3 n3 c3,ζ A9 j c9] 122)).drew wp):=ψ (hb.e.trans (ak.e.mono qT));have Lr:=ψ MO;clear MO;by_cases ML:mj<lk
     ·go_wp2
      go_roundw;case rel=>exact⟨k+1,by omega,by go_num,by
       rw[Wo Fa.e Lr.e ML],by
       rw[Wo Fa.e Lr.e ML],By⟩
      case measure=>simp[ϙ];omega
     ·go_wp2
      go_roundw;case rel=>exact⟨k+1,by omega,by go_num,by
       rw[Wm Fa.e Lr.e ML],by
       rw[Wm Fa.e Lr.e ML],By⟩
      case measure=>simp[ϙ];omega
  ·obtain rfl:k=n1:=by omega
   go_wp2
   go_ret3
   refine⟨aqo ?_ ?_,?_⟩
   ·rw[Fa.e.1];unfold IC;rw[E1.e]
   ·rw[Fa.e.2];unfold IC;rw[E1.e]
   ·exact a8.e.trans ((oT ((ώ w1.heap.size w1).alloc (ϊ _) _)).trans (hb.e.mono (Nat.le_succ _)) |>.mono (by omega))
def XP{α:Type}{f:α->List υ}{sz:Nat}(hf:∀x,(f x).length=sz):∀(l:List α) (j:Nat) (u:υ),(l.flatMap f)[j]?=φ u->∃i x r,l[i]?=φ x/\(f x)[r]?=φ u/\j=i * sz+r
 | [],j,u,h=>by simp at h
 |a::l,j,u,h=>by
  rw[ğ] at h;by_cases hj:j<(f a).length
  ·rw[Ahy hj] at h
   exact⟨0,a,j,rfl,h,by omega⟩
  ·rw[Ÿ (by omega),hf] at h
   obtain⟨i,x,r,h1,h2,h3⟩:=XP hf l _ u h;rw[hf] at hj;exact⟨i+1,x,r,by simpa using h1,h2,by rw[Ż];omega⟩
def FN{α:Type}{f:α->List υ}{sz:Nat}(hf:∀x,(f x).length=sz):∀(l:List α),(l.flatMap f).length=l.length * sz
 | []=>by simp
 |a::l=>by rw[ğ,Ę,hf,FN hf l,Ď,Ż];omega
def I1{f:α->List υ}(l:List α)(hf:∀x∈l,∀u∈f x,u.oneCell'=θ):∀u∈l.flatMap f,u.oneCell'=θ:=by
 intro u hu;obtain⟨x,h,hx⟩:=Ah0.1 hu;exact hf x h u hx
def Row.cells{α:Type}{w:Ψ}{B sz:Nat}{f:α->List υ}{ad:ϖ}{c:Nat}{l:List α}(h:Row w B sz (λx cs=>cs=f x) (ζ (φ ad) l.length c) l)(hf:∀x,(f x).length=sz):
 (∀j u,(l.flatMap f)[j]?=φ u-> w.cell? (ad.add j)=φ u)/\(l≠ []->ad.block<B):=by
 obtain⟨A,c',hv,h1,h2,h3⟩:=h;injection hv with hA
 refine⟨λj u hu=>?_,λau=>?_⟩
 ·obtain⟨i,x,r,e1,e2,e3⟩:=XP hf l j u hu
  obtain⟨Fp,yk,_,hc⟩:=h3 (by intro e;rw[e] at e1;simp at e1)
  obtain⟨cs,rfl,_,aq⟩:=hc i x e1;rw[yk] at hA;injection hA with hA
  subst hA;rw[e3];exact aq r u e2
 ·obtain⟨Fp,yk,hb,_⟩:=h3 au
  rw[yk] at hA;injection hA with hA
  subst hA;exact hb
def alZ:(prog.info? 72).map (λi=>(i.zero,i.size,i.bytes))=φ (φ (η #[.string {data:=#[]},ξ κ 0,ξ κ 0,ξ κ 0]),4,40):=by
 rw[v8];kernel_rfl
def agd(hl:news.length=n * 4)(hc:∀j u,news[j]?=φ u-> w.cell? (ad.add j)=φ u)(h1:∀u∈news,u.oneCell'=θ)(hn:n<=1000000)(aD:news≠ []->ad.block<w.heap.size):
 ύ prog 155 #[ζ (φ ad) n c] w λe w'=>∃v,e=Ω v/\w'.ownsRow w.heap.size 72 4 v n news/\Γ w.heap.size w w':=by
 obtain⟨i0,di,dp,aS,bu⟩:=Ğ alZ;have cP:=ψ (Ϗ di (Ϗ dp (Ϗ aS bu)));have HC:Hid (∀j u,news[j]?=φ u->(w.alloc (Ξ #[] 72)).cell? (ad.add j)=φ u):=ψ (λj u hu=>(Ĉ w _ _ (by rw[cq];exact aD (by intro e;rw[e] at hu;simp at hu))).trans (hc j u hu))
 have HL:=ψ (Ϗ hl h1);have HO:Hid ((w.alloc (Ξ #[] 72)).ownsRow w.heap.size 72 4 (ζ (φ ⟨w.heap.size,0,ν⟩) 0 0) 0 []):=ψ ⟨rfl,.inr ⟨w.heap.size,0,#[],rfl,ϊ _,š w _,ϊ _,by unfold ϕ;omega,rfl,rfl⟩⟩
 clear hl hc h1 di dp aS bu aD;have q:∀(w:Ψ) (a:Option ϖ) (n c n' c':Nat),(binOp .eql 22 (ζ a n c) (ζ ν n' c')).run prog w=.ok (.bool a.isNone) w:=λw a n c n' c'=>ī w _ _ a n c n' c' (U Tryz.underlying22)
 go_enter func155,Tryz.ntmps155;go_wp2_with (first
  | (at_builtin
     refine Ī _ rfl (.tmp 5) (.tmp 6) 22 rfl w.heap.size 72 i0 (η #[.string {data:=#[]},ξ κ 0,ξ κ 0,ξ κ 0]) 4 40 (U Tryz.underlying22) cP.e.1 cP.e.2.1 cP.e.2.2.1 cP.e.2.2.2 rfl (by decide) _ 0 _ rfl HO.e ad n c news rfl HL.e.1 HC.e HL.e.2 ?c3 ?c4 ?c5 ?_
     case c3=>(simp only[ϕ];omega)
     case c4=>omega
     case c5=>simp
     intro v' w1 cO fO _;have oo:=ψ cO;have om:=ψ fO;clear cO fO))
 go_ret;refine⟨_,rfl,by have:=oo.e;rwa[Ũ,þ] at this,((ώ _ _).alloc (ϊ _) _).grown om.e (by simp) (λk hk=>kY HO.e k hk)⟩
def agc(n c:Nat)(w:Ψ):ύ prog 155 #[ζ ν n c] w λe w'=>e=Ω (ζ ν 0 0)/\w=w':=by
 have q:∀(w:Ψ) (a:Option ϖ) (n c n' c':Nat),(binOp .eql 22 (ζ a n c) (ζ ν n' c')).run prog w=.ok (.bool a.isNone) w:=λw a n c n' c'=>ī w _ _ a n c n' c' (U Tryz.underlying22)
 go_enter func155,Tryz.ntmps155;go_wp2;go_ret;exact⟨rfl,rfl⟩
def agb{f:α->List υ}{l:List α}(h:Row w B 4 (λx cs=>cs=f x) v l)(hB:B<=w.heap.size)(hf:∀x,(f x).length=4)(h1:∀x∈l,∀u∈f x,u.oneCell'=θ)(hn:l.length<=1000000):
 ύ prog 155 #[v] w λe w'=>∃v',e=Ω v'/\w'.ownsRow w.heap.size 72 4 v' l.length (l.flatMap f)/\Γ w.heap.size w w':=by
 obtain⟨A,c,rfl,-⟩:=id h;cases A with
 |none=>
  have hl:l=[]:=by
   obtain⟨A,c',hv,h1,h2,h3⟩:=h;injection hv with hA
   refine Ø λau=>?_
   obtain⟨ad,ha,_⟩:=h3 au;rw[ha] at hA;cases hA
  subst hl;refine(agc _ _ w).mono ?_
  rintro e w' ⟨rfl,rfl⟩;exact⟨_,rfl,⟨rfl,.inl ⟨rfl,rfl⟩⟩,ώ _ _⟩
 |some ad=>
  have hc:=h.cells hf;exact agd (FN hf l) hc.1 (I1 l h1) hn (λau=>by
   have:=hc.2 (by intro e;rw[e] at au;simp at au);omega)
def aap:(prog.info? 59).map (λi=>(i.zero,i.size,i.bytes))=φ (φ (η #[.string {data:=#[]},ξ κ 0,ζ ν 0 0]),3,48):=by
 rw[v8];kernel_rfl
def af6(hl:news.length=n * 3)(hc:∀j u,news[j]?=φ u-> w.cell? (ad.add j)=φ u)(h1:∀u∈news,u.oneCell'=θ)(hn:n<=1000000)(aD:news≠ []->ad.block<w.heap.size):
 ύ prog 135 #[ζ (φ ad) n c] w λe w'=>∃v,e=Ω v/\w'.ownsRow w.heap.size 59 3 v n news/\Γ w.heap.size w w':=by
 obtain⟨i0,di,dp,aS,bu⟩:=Ğ aap;have cP:=ψ (Ϗ di (Ϗ dp (Ϗ aS bu)));have HC:Hid (∀j u,news[j]?=φ u->(w.alloc (Ξ #[] 59)).cell? (ad.add j)=φ u):=ψ (λj u hu=>(Ĉ w _ _ (by rw[cq];exact aD (by intro e;rw[e] at hu;simp at hu))).trans (hc j u hu))
 have HL:=ψ (Ϗ hl h1);have HO:Hid ((w.alloc (Ξ #[] 59)).ownsRow w.heap.size 59 3 (ζ (φ ⟨w.heap.size,0,ν⟩) 0 0) 0 []):=ψ ⟨rfl,.inr ⟨w.heap.size,0,#[],rfl,ϊ _,š w _,ϊ _,by unfold ϕ;omega,rfl,rfl⟩⟩
 clear hl hc h1 di dp aS bu aD;have q:∀(w:Ψ) (a:Option ϖ) (n c n' c':Nat),(binOp .eql 23 (ζ a n c) (ζ ν n' c')).run prog w=.ok (.bool a.isNone) w:=λw a n c n' c'=>ī w _ _ a n c n' c' (U Tryz.underlying23)
 go_enter func135,Tryz.ntmps135;go_wp2_with (first
  | (at_builtin
     refine Ī _ rfl (.tmp 5) (.tmp 6) 23 rfl w.heap.size 59 i0 (η #[.string {data:=#[]},ξ κ 0,ζ ν 0 0]) 3 48 (U Tryz.underlying23) cP.e.1 cP.e.2.1 cP.e.2.2.1 cP.e.2.2.2 rfl (by decide) _ 0 _ rfl HO.e ad n c news rfl HL.e.1 HC.e HL.e.2 ?c3 ?c4 ?c5 ?_
     case c3=>(simp only[ϕ];omega)
     case c4=>omega
     case c5=>simp
     intro v' w1 cO fO _;have oo:=ψ cO;have om:=ψ fO;clear cO fO))
 go_ret;refine⟨_,rfl,by have:=oo.e;rwa[Ũ,þ] at this,((ώ _ _).alloc (ϊ _) _).grown om.e (by simp) (λk hk=>kY HO.e k hk)⟩
def af5(n c:Nat)(w:Ψ):ύ prog 135 #[ζ ν n c] w λe w'=>e=Ω (ζ ν 0 0)/\w=w':=by
 have q:∀(w:Ψ) (a:Option ϖ) (n c n' c':Nat),(binOp .eql 23 (ζ a n c) (ζ ν n' c')).run prog w=.ok (.bool a.isNone) w:=λw a n c n' c'=>ī w _ _ a n c n' c' (U Tryz.underlying23)
 go_enter func135,Tryz.ntmps135;go_wp2;go_ret;exact⟨rfl,rfl⟩
def Xc{f:α->List υ}{l:List α}(h:Row w B 3 (λx cs=>cs=f x) v l)(hB:B<=w.heap.size)(hf:∀x,(f x).length=3)(h1:∀x∈l,∀u∈f x,u.oneCell'=θ)(hn:l.length<=1000000):
 ύ prog 135 #[v] w λe w'=>∃v',e=Ω v'/\w'.ownsRow w.heap.size 59 3 v' l.length (l.flatMap f)/\Γ w.heap.size w w':=by
 obtain⟨A,c,rfl,-⟩:=id h;cases A with
 |none=>
  have hl:l=[]:=by
   obtain⟨A,c',hv,h1,h2,h3⟩:=h;injection hv with hA
   refine Ø λau=>?_
   obtain⟨ad,ha,_⟩:=h3 au;rw[ha] at hA;cases hA
  subst hl;refine(af5 _ _ w).mono ?_
  rintro e w' ⟨rfl,rfl⟩;exact⟨_,rfl,⟨rfl,.inl ⟨rfl,rfl⟩⟩,ώ _ _⟩
 |some ad=>
  have hc:=h.cells hf;exact af6 (FN hf l) hc.1 (I1 l h1) hn (λau=>by
   have:=hc.2 (by intro e;rw[e] at au;simp at au);omega)
def S4:(prog.info? 95).map (λi=>(i.zero,i.size,i.bytes))=φ (φ (η #[ζ ν 0 0,ξ κ 0,ξ κ 0]),3,40):=by
 rw[v8];kernel_rfl
def agk(hl:news.length=n * 3)(hc:∀j u,news[j]?=φ u-> w.cell? (ad.add j)=φ u)(h1:∀u∈news,u.oneCell'=θ)(hn:n<=1000000)(aD:news≠ []->ad.block<w.heap.size):
 ύ prog 158 #[ζ (φ ad) n c] w λe w'=>∃v,e=Ω v/\w'.ownsRow w.heap.size 95 3 v n news/\Γ w.heap.size w w':=by
 obtain⟨i0,di,dp,aS,bu⟩:=Ğ S4;have cP:=ψ (Ϗ di (Ϗ dp (Ϗ aS bu)));have HC:Hid (∀j u,news[j]?=φ u->(w.alloc (Ξ #[] 95)).cell? (ad.add j)=φ u):=ψ (λj u hu=>(Ĉ w _ _ (by rw[cq];exact aD (by intro e;rw[e] at hu;simp at hu))).trans (hc j u hu))
 have HL:=ψ (Ϗ hl h1);have HO:Hid ((w.alloc (Ξ #[] 95)).ownsRow w.heap.size 95 3 (ζ (φ ⟨w.heap.size,0,ν⟩) 0 0) 0 []):=ψ ⟨rfl,.inr ⟨w.heap.size,0,#[],rfl,ϊ _,š w _,ϊ _,by unfold ϕ;omega,rfl,rfl⟩⟩
 clear hl hc h1 di dp aS bu aD;have q:∀(w:Ψ) (a:Option ϖ) (n c n' c':Nat),(binOp .eql 24 (ζ a n c) (ζ ν n' c')).run prog w=.ok (.bool a.isNone) w:=λw a n c n' c'=>ī w _ _ a n c n' c' (U Tryz.underlying24)
 go_enter func158,Tryz.ntmps158;go_wp2_with (first
  | (at_builtin
     refine Ī _ rfl (.tmp 5) (.tmp 6) 24 rfl w.heap.size 95 i0 (η #[ζ ν 0 0,ξ κ 0,ξ κ 0]) 3 40 (U Tryz.underlying24) cP.e.1 cP.e.2.1 cP.e.2.2.1 cP.e.2.2.2 rfl (by decide) _ 0 _ rfl HO.e ad n c news rfl HL.e.1 HC.e HL.e.2 ?c3 ?c4 ?c5 ?_
     case c3=>(simp only[ϕ];omega)
     case c4=>omega
     case c5=>simp
     intro v' w1 cO fO _;have oo:=ψ cO;have om:=ψ fO;clear cO fO))
 go_ret;refine⟨_,rfl,by have:=oo.e;rwa[Ũ,þ] at this,((ώ _ _).alloc (ϊ _) _).grown om.e (by simp) (λk hk=>kY HO.e k hk)⟩
def agj(n c:Nat)(w:Ψ):ύ prog 158 #[ζ ν n c] w λe w'=>e=Ω (ζ ν 0 0)/\w=w':=by
 have q:∀(w:Ψ) (a:Option ϖ) (n c n' c':Nat),(binOp .eql 24 (ζ a n c) (ζ ν n' c')).run prog w=.ok (.bool a.isNone) w:=λw a n c n' c'=>ī w _ _ a n c n' c' (U Tryz.underlying24)
 go_enter func158,Tryz.ntmps158;go_wp2;go_ret;exact⟨rfl,rfl⟩
def agi{f:α->List υ}{l:List α}(h:Row w B 3 (λx cs=>cs=f x) v l)(hB:B<=w.heap.size)(hf:∀x,(f x).length=3)(h1:∀x∈l,∀u∈f x,u.oneCell'=θ)(hn:l.length<=1000000):
 ύ prog 158 #[v] w λe w'=>∃v',e=Ω v'/\w'.ownsRow w.heap.size 95 3 v' l.length (l.flatMap f)/\Γ w.heap.size w w':=by
 obtain⟨A,c,rfl,-⟩:=id h;cases A with
 |none=>
  have hl:l=[]:=by
   obtain⟨A,c',hv,h1,h2,h3⟩:=h;injection hv with hA
   refine Ø λau=>?_
   obtain⟨ad,ha,_⟩:=h3 au;rw[ha] at hA;cases hA
  subst hl;refine(agj _ _ w).mono ?_
  rintro e w' ⟨rfl,rfl⟩;exact⟨_,rfl,⟨rfl,.inl ⟨rfl,rfl⟩⟩,ώ _ _⟩
 |some ad=>
  have hc:=h.cells hf;exact agk (FN hf l) hc.1 (I1 l h1) hn (λau=>by
   have:=hc.2 (by intro e;rw[e] at au;simp at au);omega)
def alX:(prog.info? 37).map (λi=>(i.zero,i.size,i.bytes))=φ (φ (η #[ξ κ 0,ξ κ 0]),2,16):=by
 rw[v8];kernel_rfl
def agh(hl:news.length=n * 2)(hc:∀j u,news[j]?=φ u-> w.cell? (ad.add j)=φ u)(h1:∀u∈news,u.oneCell'=θ)(hn:n<=1000000)(aD:news≠ []->ad.block<w.heap.size):
 ύ prog 179 #[ζ (φ ad) n c] w λe w'=>∃v,e=Ω v/\w'.ownsRow w.heap.size 37 2 v n news/\Γ w.heap.size w w':=by
 obtain⟨i0,di,dp,aS,bu⟩:=Ğ alX;have cP:=ψ (Ϗ di (Ϗ dp (Ϗ aS bu)));have HC:Hid (∀j u,news[j]?=φ u->(w.alloc (Ξ #[] 37)).cell? (ad.add j)=φ u):=ψ (λj u hu=>(Ĉ w _ _ (by rw[cq];exact aD (by intro e;rw[e] at hu;simp at hu))).trans (hc j u hu))
 have HL:=ψ (Ϗ hl h1);have HO:Hid ((w.alloc (Ξ #[] 37)).ownsRow w.heap.size 37 2 (ζ (φ ⟨w.heap.size,0,ν⟩) 0 0) 0 []):=ψ ⟨rfl,.inr ⟨w.heap.size,0,#[],rfl,ϊ _,š w _,ϊ _,by unfold ϕ;omega,rfl,rfl⟩⟩
 clear hl hc h1 di dp aS bu aD;have q:∀(w:Ψ) (a:Option ϖ) (n c n' c':Nat),(binOp .eql 57 (ζ a n c) (ζ ν n' c')).run prog w=.ok (.bool a.isNone) w:=λw a n c n' c'=>ī w _ _ a n c n' c' (U Tryz.underlying57)
 go_enter func179,Tryz.ntmps179;go_wp2_with (first
  | (at_builtin
     refine Ī _ rfl (.tmp 5) (.tmp 6) 57 rfl w.heap.size 37 i0 (η #[ξ κ 0,ξ κ 0]) 2 16 (U Tryz.underlying57) cP.e.1 cP.e.2.1 cP.e.2.2.1 cP.e.2.2.2 rfl (by decide) _ 0 _ rfl HO.e ad n c news rfl HL.e.1 HC.e HL.e.2 ?c3 ?c4 ?c5 ?_
     case c3=>(simp only[ϕ];omega)
     case c4=>omega
     case c5=>simp
     intro v' w1 cO fO _;have oo:=ψ cO;have om:=ψ fO;clear cO fO))
 go_ret;refine⟨_,rfl,by have:=oo.e;rwa[Ũ,þ] at this,((ώ _ _).alloc (ϊ _) _).grown om.e (by simp) (λk hk=>kY HO.e k hk)⟩
def agf(n c:Nat)(w:Ψ):ύ prog 179 #[ζ ν n c] w λe w'=>e=Ω (ζ ν 0 0)/\w=w':=by
 have q:∀(w:Ψ) (a:Option ϖ) (n c n' c':Nat),(binOp .eql 57 (ζ a n c) (ζ ν n' c')).run prog w=.ok (.bool a.isNone) w:=λw a n c n' c'=>ī w _ _ a n c n' c' (U Tryz.underlying57)
 go_enter func179,Tryz.ntmps179;go_wp2;go_ret;exact⟨rfl,rfl⟩
def age{f:α->List υ}{l:List α}(h:Row w B 2 (λx cs=>cs=f x) v l)(hB:B<=w.heap.size)(hf:∀x,(f x).length=2)(h1:∀x∈l,∀u∈f x,u.oneCell'=θ)(hn:l.length<=1000000):
 ύ prog 179 #[v] w λe w'=>∃v',e=Ω v'/\w'.ownsRow w.heap.size 37 2 v' l.length (l.flatMap f)/\Γ w.heap.size w w':=by
 obtain⟨A,c,rfl,-⟩:=id h;cases A with
 |none=>
  have hl:l=[]:=by
   obtain⟨A,c',hv,h1,h2,h3⟩:=h;injection hv with hA
   refine Ø λau=>?_
   obtain⟨ad,ha,_⟩:=h3 au;rw[ha] at hA;cases hA
  subst hl;refine(agf _ _ w).mono ?_
  rintro e w' ⟨rfl,rfl⟩;exact⟨_,rfl,⟨rfl,.inl ⟨rfl,rfl⟩⟩,ώ _ _⟩
 |some ad=>
  have hc:=h.cells hf;exact agh (FN hf l) hc.1 (I1 l h1) hn (λau=>by
   have:=hc.2 (by intro e;rw[e] at au;simp at au);omega)
def aao:(prog.info? 3).map (λi=>(i.zero,i.size,i.bytes))=φ (φ (ξ κ 0),1,8):=by
 rw[v8];kernel_rfl
def aga(hl:news.length=n * 1)(hc:∀j u,news[j]?=φ u-> w.cell? (ad.add j)=φ u)(h1:∀u∈news,u.oneCell'=θ)(hn:n<=1000000)(aD:news≠ []->ad.block<w.heap.size):
 ύ prog 180 #[ζ (φ ad) n c] w λe w'=>∃v,e=Ω v/\w'.ownsRow w.heap.size 3 1 v n news/\Γ w.heap.size w w':=by
 obtain⟨i0,di,dp,aS,bu⟩:=Ğ aao;have cP:=ψ (Ϗ di (Ϗ dp (Ϗ aS bu)));have HC:Hid (∀j u,news[j]?=φ u->(w.alloc (Ξ #[] 3)).cell? (ad.add j)=φ u):=ψ (λj u hu=>(Ĉ w _ _ (by rw[cq];exact aD (by intro e;rw[e] at hu;simp at hu))).trans (hc j u hu))
 have HL:=ψ (Ϗ hl h1);have HO:Hid ((w.alloc (Ξ #[] 3)).ownsRow w.heap.size 3 1 (ζ (φ ⟨w.heap.size,0,ν⟩) 0 0) 0 []):=ψ ⟨rfl,.inr ⟨w.heap.size,0,#[],rfl,ϊ _,š w _,ϊ _,by unfold ϕ;omega,rfl,rfl⟩⟩
 clear hl hc h1 di dp aS bu aD;have q:∀(w:Ψ) (a:Option ϖ) (n c n' c':Nat),(binOp .eql 33 (ζ a n c) (ζ ν n' c')).run prog w=.ok (.bool a.isNone) w:=λw a n c n' c'=>ī w _ _ a n c n' c' (U Tryz.underlying33)
 go_enter func180,Tryz.ntmps180;go_wp2_with (first
  | (at_builtin
     refine Ī _ rfl (.tmp 5) (.tmp 6) 33 rfl w.heap.size 3 i0 (ξ κ 0) 1 8 (U Tryz.underlying33) cP.e.1 cP.e.2.1 cP.e.2.2.1 cP.e.2.2.2 rfl (by decide) _ 0 _ rfl HO.e ad n c news rfl HL.e.1 HC.e HL.e.2 ?c3 ?c4 ?c5 ?_
     case c3=>(simp only[ϕ];omega)
     case c4=>omega
     case c5=>simp
     intro v' w1 cO fO _;have oo:=ψ cO;have om:=ψ fO;clear cO fO))
 go_ret;refine⟨_,rfl,by have:=oo.e;rwa[Ũ,þ] at this,((ώ _ _).alloc (ϊ _) _).grown om.e (by simp) (λk hk=>kY HO.e k hk)⟩
def af9(n c:Nat)(w:Ψ):ύ prog 180 #[ζ ν n c] w λe w'=>e=Ω (ζ ν 0 0)/\w=w':=by
 have q:∀(w:Ψ) (a:Option ϖ) (n c n' c':Nat),(binOp .eql 33 (ζ a n c) (ζ ν n' c')).run prog w=.ok (.bool a.isNone) w:=λw a n c n' c'=>ī w _ _ a n c n' c' (U Tryz.underlying33)
 go_enter func180,Tryz.ntmps180;go_wp2;go_ret;exact⟨rfl,rfl⟩
def af8{f:α->List υ}{l:List α}(h:Row w B 1 (λx cs=>cs=f x) v l)(hB:B<=w.heap.size)(hf:∀x,(f x).length=1)(h1:∀x∈l,∀u∈f x,u.oneCell'=θ)(hn:l.length<=1000000):
 ύ prog 180 #[v] w λe w'=>∃v',e=Ω v'/\w'.ownsRow w.heap.size 3 1 v' l.length (l.flatMap f)/\Γ w.heap.size w w':=by
 obtain⟨A,c,rfl,-⟩:=id h;cases A with
 |none=>
  have hl:l=[]:=by
   obtain⟨A,c',hv,h1,h2,h3⟩:=h;injection hv with hA
   refine Ø λau=>?_
   obtain⟨ad,ha,_⟩:=h3 au;rw[ha] at hA;cases hA
  subst hl;refine(af9 _ _ w).mono ?_
  rintro e w' ⟨rfl,rfl⟩;exact⟨_,rfl,⟨rfl,.inl ⟨rfl,rfl⟩⟩,ώ _ _⟩
 |some ad=>
  have hc:=h.cells hf;exact aga (FN hf l) hc.1 (I1 l h1) hn (λau=>by
   have:=hc.2 (by intro e;rw[e] at au;simp at au);omega)
def de(w:Ψ)(No:Nat->Prop)(sz:Nat)(R:α->List υ->Prop)(v:υ)(xs:List α):Prop:=
 ∃A c,v=ζ A xs.length c/\xs.length<=c/\c<=ϕ/\(xs≠ []->∃ad,A=φ ad/\ad.block<w.heap.size/\¬No ad.block/\
  ∀i x,xs[i]?=φ x->∃cs,R x cs/\cs.length=sz/\∀j u,cs[j]?=φ u-> w.cell? (ad.add (i * sz+j))=φ u)
section
variable {α:Type}{w w':Ψ}{No Lz:Nat->Prop}{B sz:Nat}{R:α->List υ->Prop}{v:υ}{xs:List α}
def de.grown{row:Option Nat}(h:de w No sz R v xs)(hg:w.grownBy w' row)(hr:∀k,row=φ k->No k):de w' No sz R v xs:=by
 obtain⟨A,c,hv,h1,h2,h3⟩:=h;refine⟨A,c,hv,h1,h2,λhx=>?_⟩
 obtain⟨ad,ha,hb,hn,hc⟩:=h3 hx;refine⟨ad,ha,ϟ hb hg.size,hn,λi x hi=>?_⟩
 obtain⟨cs,r,hl,aq⟩:=hc i x hi;refine⟨cs,r,hl,λj u hu=>?_⟩
 refine(ŷ (hg.block (ad.add (i * sz+j)).block (by rw[cq];exact hb) (λe=>hn ?_))).trans (aq j u hu)
 rw[cq] at e;exact hr _ e.symm
def Row.AK(h:Row w B sz R v xs)(hB:B<=w.heap.size)(hN:∀k,No k->B<=k):de w No sz R v xs:=by
 obtain⟨A,c,hv,h1,h2,h3⟩:=h;refine⟨A,c,hv,h1,h2,λhx=>?_⟩
 obtain⟨ad,ha,hb,hc⟩:=h3 hx;exact⟨ad,ha,by omega,λhk=>by have:=hN _ hk;omega,hc⟩
def Row.mem(h:Row w B sz R v xs):∀x∈xs,∃cs,R x cs:=λx hx=>by
 obtain⟨A,c,hv,h1,h2,h3⟩:=h;obtain⟨i,hi⟩:=Ź hx
 obtain⟨ad,ha,hb,hc⟩:=h3 (by intro e;subst e;simp at hi)
 obtain⟨cs,r,_⟩:=hc i x hi;exact⟨cs,r⟩
def de.row(h:de w No sz R v xs):Row w w.heap.size sz R v xs:=by
 obtain⟨A,c,hv,h1,h2,h3⟩:=h;refine⟨A,c,hv,h1,h2,λhx=>?_⟩
 obtain⟨ad,ha,hb,hn,hc⟩:=h3 hx;exact⟨ad,ha,hb,hc⟩
def de.below(h:de w No sz R v xs)(hb:Γ w.heap.size w w')(hN:∀k,Lz k->No k\/w.heap.size<=k):de w' Lz sz R v xs:=by
 obtain⟨A,c,hv,h1,h2,h3⟩:=h;refine⟨A,c,hv,h1,h2,λhx=>?_⟩
 obtain⟨ad,ha,hl,hn,hc⟩:=h3 hx;refine⟨ad,ha,ϟ hl hb.size,λhk=>?_,λi x hi=>?_⟩
 ·rcases hN _ hk with h|h
  ·exact hn h
  ·omega
 ·obtain⟨cs,r,uS,aq⟩:=hc i x hi
  exact⟨cs,r,uS,λj u hu=>(hb.cell (by rw[cq];exact hl)).trans (aq j u hu)⟩
def de.weaken(h:de w No sz R v xs)(hN:∀k,Lz k->No k):de w Lz sz R v xs:=h.below (ώ _ _) (λk hk=>Or.inl (hN k hk))
def de.Cp{base:Nat}{f:α->List υ}(h:w.ownsRow base e sz v xs.length (xs.flatMap f))(hf:∀x,(f x).length=sz)(hR:∀x∈xs,R x (f x))(hN:∀k,No k->k<base):de w No sz R v xs:=by
 obtain⟨A,c,hv,h1,h2,h3⟩:=tX (R:=R) h hf hR;refine⟨A,c,hv,h1,h2,λhx=>?_⟩
 obtain⟨ad,ha,hb,hc⟩:=h3 hx;refine⟨ad,ha,hb,λhk=>?_,hc⟩
 have:=kY h ad.block (by rw[hv,ha];rfl)
 have:=hN _ hk;omega
end
def NY{β:Type}[Inhabited β]{sz:Nat}{R:α->List υ->Prop}{R':α×β->List υ->Prop}{xs:List α}(h:Row w B sz R v xs)(hR:∀x cs,R x cs->∃k,R' (x,k) cs):
 ∃ps:List (α×β),ps.map Prod.fst=xs/\Row w B sz R' v ps:=by
 obtain⟨A,c,hv,h1,h2,h3⟩:=h;by_cases hx:xs=[]
 ·subst hx
  exact⟨[],rfl,A,c,hv,h1,h2,λh=>absurd rfl h⟩
 obtain⟨ad,ha,hb,hc⟩:=h3 hx;have hk:∀i,∃k:β,∀x,xs[i]?=φ x->∃cs,R' (x,k) cs/\cs.length=sz/\∀j u,cs[j]?=φ u-> w.cell? (ad.add (i * sz+j))=φ u:=λi=>by
  cases e:xs[i]? with
  |none=>exact⟨default,λx hx=>by cases hx⟩
  |some x=>
   obtain⟨cs,r,hl,aq⟩:=hc i x e;obtain⟨k,hk⟩:=hR x cs r;exact⟨k,λy hy=>by injection hy with hy;subst hy;exact⟨cs,hk,hl,aq⟩⟩
 obtain⟨K,hK⟩:=Classical.axiomOfChoice hk;refine⟨xs.mapIdx λi x=>(x,K i),?_,A,c,by simpa using hv,by simpa using h1,h2,λ_=>⟨ad,ha,hb,λi p hi=>?_⟩⟩
 ·apply List.ext_getElem?;intro i
  simp;cases xs[i]?<;>rfl
 ·simp only[List.getElem?_mapIdx] at hi
  cases e:xs[i]? with
  |none=>rw[e] at hi;cases hi
  |some x=>
   rw[e] at hi;simp at hi;subst hi
   exact hK i x e
instance:Inhabited υ:=⟨ζ ν 0 0⟩
def Cv(p:Piece):List υ:=[.string p.name,ξ κ p.len.lo,ξ κ p.len.hi,ξ κ p.bears]
def j5(p:aP×υ):List υ:=[.string p.1.name,ξ κ p.1.aw,p.2]
def iC(p:Tape×υ):List υ:=[p.2,ξ κ p.1.sum.lo,ξ κ p.1.sum.hi]
def rD{base:Nat}{sz:Nat}(h:w.ownsRow base e sz v n xs)(hp:∀k,v.ownBlock=φ k->p.block≠k):(w.setCell p u).ownsRow base e sz v n xs:=by
 refine⟨h.1,?_⟩
 rcases h.2 with h0| ⟨g,cap,cur,h1,h2,h3,h4⟩
 ·exact .inl h0
 ·exact .inr ⟨g,cap,cur,h1,h2,(Ú _ _ _ _ (by rw[h1] at hp;exact Ne.symm (hp g rfl))).trans h3,h4⟩
def Ky{base:Nat}{sz:Nat}{row:Option Nat}(h:w.ownsRow base e sz v n xs)(hg:w.grownBy w' row)(hp:∀k,v.ownBlock=φ k->row≠φ k):w'.ownsRow base e sz v n xs:=by
 refine⟨h.1,?_⟩
 rcases h.2 with h0| ⟨g,cap,cur,h1,h2,h3,h4⟩
 ·exact .inl h0
 ·exact .inr ⟨g,cap,cur,h1,h2,(hg.block g (Ϝ.1 h3).1 (by rw[h1] at hp;exact Ne.symm (hp g rfl))).trans h3,h4⟩
def Cu{base:Nat}{sz:Nat}(h:w.ownsRow base e sz v n xs)(k:Nat)(hk:v.ownBlock=φ k):k<w.heap.size:=by
 rcases h.2 with⟨h0,_⟩ | ⟨g,cap,cur,h1,h2,h3,h4⟩
 ·rw[h0] at hk;cases hk
 ·rw[h1] at hk;injection hk with hk;subst hk;exact(Ϝ.1 h3).1
def GK{base:Nat}{sz:Nat}{A:Option ϖ}(h:w.ownsRow base e sz (ζ A m c) n xs):m=n:=by
 rcases h.2 with⟨h0,h1⟩ | ⟨g,cap,cur,h1,h2,h3,h4⟩
 ·injection h0 with _ h0;omega
 ·injection h1
def abo{base:Nat}{sz:Nat}{A:Option ϖ}(h:w.ownsRow base e sz (ζ A m c) n xs):m<=c/\c<=2 ^ 63 - 1:=by
 rcases h.2 with⟨h0,h1⟩ | ⟨g,cap,cur,h1,h2,h3,h4,h5,_⟩
 ·injection h0 with _ h0 h2;omega
 ·injection h1 with _ h6 h7;unfold ϕ at h5;omega
def abr{base:Nat}{sz:Nat}{A:Option ϖ}(h:w.ownsRow base e sz (ζ A m c) n xs)(hm:0<m):∃g,A=φ ⟨g,0,ν⟩:=by
 rcases h.2 with⟨h0,h1⟩ | ⟨g,cap,cur,h1,_⟩
 ·injection h0 with _ h0;omega
 ·injection h1 with h1;exact⟨g,h1⟩
def Bs(w:Ψ)(p:ϖ)(u:υ):w.grownBy (w.setCell p u) (φ p.block):=
 ⟨rfl,rfl,rfl,by simp,λk _ hk=>Ú _ _ _ _ (by intro e;exact hk (by rw[e]))⟩
end Go.Tw
