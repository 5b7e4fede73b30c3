import Derived.Test.YtfifdjajcogccaaGreatDoorZ00
import Derived.Conc.CrowdComm
import Derived.Test.YtfifdjajcogccaaGreatDoorProg
import Derived.Deep.AppendLies
import Derived.Lib.Hide
import Derived.WalkSpells
import Derived.StillTailTactics
import Derived.Deep.RegionHeld3
import Derived.Shelf.Small.Bits
import Derived.Shelf.Small.Wraps
import Derived.Shelf.Sort.Plain
import Derived.Shelf.Slices.Clone
import Derived.Shelf.Slices.SearchI
import Derived.Shelf.Slices.Cells
import Derived.Shelf.Slices.In.SortNone
import Derived.Shelf.SlicesE.Clone
import Derived.Lib.OwnBridge
import Derived.RangeFuncCalls
set_option linter.all false
set_option maxHeartbeats 0
set_option maxRecDepth 100000
open And renaming intro -> Ϗ
open Array renaming getElem?_append_right -> Aek, getElem?_eq_some_iff -> ϛ, getElem?_eq_getElem -> õ, getElem?_setIfInBounds_ne -> ė, getElem?_map -> Đ, getElem?_eq_none -> Ė, size_setIfInBounds -> Ē, empty_append -> Aem, append_empty -> á, size_push -> Ż, getElem?_setIfInBounds -> Ù, getElem?_mapIdx -> Aeo, replicate_succ -> ŗ, replicate_zero -> Ř
open Classical renaming byContradiction -> Û
open Go renaming Goroutine -> ϐ, Trace -> Θ, stepG -> Ϙ, partners -> Ĝ, TypeId -> ό, maxLen -> ϑ, Calls -> ύ
open Go.Conc renaming touchAt -> Ú, touch_of -> ē, getElem?_append_cases -> ö, touchAt_of -> ĝ, scase -> ÿ, served -> ϧ, QuitsIn -> Ĥ, rcase -> â, recvd -> ð, parked -> Ó, woken -> Ā, getElem?_append_old -> Ae6, lt_size_of_getElem? -> Ae7, offersAt -> Ŧ, offersAt_of_not_blocked -> Ğ, offersAt_parked_recv -> Afa, offersAt_parked_send' -> Afb, offersAt_parked_recv' -> Afc, offersAt_parked_send -> ż, getElem?_stand -> ń, offersAt_ph -> Ņ, partners_nil -> Afg, crowd -> Ϫ, crowd_waits -> Afi, stepG_same -> Afj
open Go.Fence renaming wide -> ø
open Go.Instr renaming index -> ğ
open Go.IntKind renaming i64 -> ϙ
open Go.Lib renaming compact -> ĥ
open Go.MemAct renaming ofEvent -> ě, touch? -> ņ
open Go.MemOp renaming ofEvents -> ĩ
open Go.Obj renaming cells -> ϣ
open Go.Proofs.Tryz renaming prog -> ϋ
open Go.RowKit renaming intOf -> Ϭ, intOf -> ϗ
open Go.RowKit.Below renaming refl -> ώ, heap_setCell -> Ô
open Go.Sem renaming run_bind -> Afv, run_pure -> Afw
open Go.Trace renaming g? -> Õ
open Go.Value renaming int -> Ϝ
open Go.World renaming cell?_alloc_lt -> ù, cell?_alloc_mark -> ĵ
open List renaming mem_toArray -> ã, mem_singleton -> ā, mem_cons -> Ϧ, not_mem_nil -> Λ, length_cons -> Ă, length_append -> Ĉ, length_singleton -> Af7, mem_append -> ĉ, getElem?_eq_getElem -> Ã, getElem?_eq_some_iff -> Ϯ, findIdx?_eq_some_iff_getElem -> Agb, findIdx?_eq_none_iff -> Agc, length_filter_le -> Agd, length_take_le -> Age, take_of_length_le -> Ċ, mem_of_getElem? -> Ϩ, drop_of_length_le -> Agh, take_succ_cons -> ê, take_zero -> ë, drop_succ_cons -> ñ, drop_zero -> ò, range -> ε, size_toArray -> ř, length_nil -> Ś, push_toArray -> ś, append_toArray -> Ķ, nil_append -> ì, cons_append -> ķ, flatMap_append -> ă
open Nat renaming lt_of_lt_of_le -> ϟ, le_refl -> ϊ, le_trans -> ϡ, zero_le -> Ϡ, lt_succ_iff_lt_or_eq -> Æ, le_of_eq -> ú, mul_one -> Ī, lt_of_le_of_lt -> Agy, le_of_lt -> è, reduceAdd -> ĸ, reduceSub -> Ŝ
open Ne renaming symm -> ϸ
open Option renaming map_some -> é, map_eq_some_iff -> Č
open Option.some renaming inj -> Ϟ
open Bool renaming true -> θ, false -> χ
open Go renaming Value -> υ, undef -> ω, World -> Ψ
open Go.Ending renaming returned -> Ω
open Go.IntKind renaming i64 -> κ
open Go.Lib renaming hid -> ψ
open Go.RowKit renaming Below -> Γ, Below -> Γ
open Go.Value renaming slice -> ζ, pointer -> π, tuple -> μ, agg -> η, int -> ξ
open Option renaming some -> φ, none -> ν
variable{α:Type}{lb:Array υ}{main:Bool}{nm FX:ByteArray}{p ad:Go.Addr}{fn:Go.Func}{x y g:Go.Goroutine}{rec:Go.Loop}{x1 x2 x3 x4:Go.MemOp}{o:Go.Obj}{P:Go.Program}{M:Go.Sim.ay}{u:Go.Trace}{t:Go.TypeId}{a s lo hi:Int}{l zs:List Int}{aD:List Nat}{xs:List υ}{B i k f n K b c r m c' cap N j:Nat}{w aR w' W w1 wr v0 W':Ψ}{v pv bv tv z lv z' sv:υ}
noncomputable section
namespace Go.Sim
open Go Go.Conc
def sC(l:Loc)(b:Nat):Prop:=l=.obj b\/∃c:Addr,l=.cell c/\c.block=b
structure mB where
 M:ay
 g:ϐ
 w:Ψ
structure WT(cL cN:Nat)(w:Ψ)(t:Θ)(act:Nat->Option mB):Prop where
 keep:∀g j,act g=φ j->bR j.M j.w w
 nD:∀g g' j j',g≠g'->act g=φ j->act g'=φ j'->∀b,j.M.O b->¬j'.M.has b
 low:∀g j,act g=φ j->∀b,j.M.has b->b<w.heap.size/\b≠cL/\b≠cN
 tl:∀op∈t,op.act.low w.heap.size
 nd:qf t
 clean:∀said,¬Race said t
 perm:∀g j,act g=φ j->∀k a,Ú t k=φ a->∀b,sC a.loc b->(j.M.O b\/(j.M.R b/\a.write=θ))->Knows t g k
 hL:cL<w.heap.size
 hN:cN<w.heap.size
def ft(act:Nat->Option mB)(g:Nat)(x:Option mB):Nat->Option mB:=λi=>if i=g then x else act i
def fY(act:Nat->Option mB)(g:Nat)(x:Option mB):ft act g x g=x:=by simp[ft]
def ak(act:Nat->Option mB){g:Nat}(x:Option mB)(h:i≠g):ft act g x i=act i:=by simp[ft,h]
def QQ{e:Event}(h:yP M e){x:Touch}(hx:(ě e).touch? =φ x):∃b,sC x.loc b/\M.has b/\(x.write=θ->M.O b)/\x.kind=.plain:=by
 obtain⟨loc,wr,sy⟩:=e;rcases h with⟨b,e1,e2,e3,e4⟩ |e1| ⟨f,e1⟩
 ·simp only at e1 e2 e4
  subst e2;rcases e1 with e1| ⟨c,e1,e5⟩
  ·subst e1
   cases wr<;>(simp[ě,ņ] at hx;subst hx)
   ·exact⟨b,.inl rfl,e3,by simp,rfl⟩
   ·exact⟨b,.inl rfl,e3,λ_=>e4 rfl,rfl⟩
  ·subst e1
   cases wr<;>(simp[ě,ņ] at hx;subst hx)
   ·exact⟨b,.inr ⟨c,rfl,e5⟩,e3,by simp,rfl⟩
   ·exact⟨b,.inr ⟨c,rfl,e5⟩,e3,λ_=>e4 rfl,rfl⟩
 ·simp only at e1
  subst e1;cases wr<;>cases sy<;>simp[ě,ņ] at hx
 ·simp only at e1
  subst e1;cases wr<;>cases sy<;>simp[ě,ņ] at hx
def PE{l:Loc}{b':Nat}(h:sC l b)(k:sC l b'):b=b':=by
 rcases h with h| ⟨c,h,e⟩<;>rcases k with k| ⟨c',k,e'⟩
 ·rw[h] at k;exact Loc.obj.inj k
 ·rw[h] at k;cases k
 ·rw[h] at k;cases k
 ·rw[h] at k;cases k;exact e.symm.trans e'
def QR{t:Θ}(h:∀op∈t,op.act.low B){a:Touch}(ha:Ú t k=φ a)(hb:sC a.loc b):b<B:=by
 obtain⟨op,ag,cH⟩:=ē ha;have hl:=h op (mem_of_getElem? ag);obtain⟨g,fn,pos,act⟩:=op;simp only at cH hl;cases act with
 |access e=>
  simp only[ņ,Option.some.injEq] at cH;subst cH;rcases hb with hb| ⟨c,hb,e5⟩
  ·simp only at hb;rw[MemAct.low,hb] at hl;exact hl
  ·simp only at hb;rw[MemAct.low,hb] at hl;rw[<-e5];exact hl
 |mark m=>
  cases m<;>simp[ņ] at cH
  ·subst cH
   rcases hb with hb| ⟨c,hb,e5⟩
   ·cases hb
   ·simp only[Loc.cell.injEq] at hb;subst hb;rw[<-e5];exact hl
  ·subst cH
   rcases hb with hb| ⟨c,hb,e5⟩
   ·cases hb
   ·simp only[Loc.cell.injEq] at hb;subst hb;rw[<-e5];exact hl
 |_=>simp[ņ] at cH
section
variable {cL cN:Nat}{w:Ψ}{t:Θ}{act:Nat->Option mB}
def WT.at(h:WT cL cN w t act)(d:Nat):WT cL cN (w.at d) t act:=
 ⟨λg j e=>(h.keep g j e).trans (AA _ _ _),h.nD,h.low,h.tl,h.nd,h.clean,h.perm,h.hL,h.hN⟩
def WT.own(h:WT cL cN w t act){g:Nat}{j:mB}(hg:act g=φ j){es:Array Event}(hd:eZ j.M w w' es)(fn:FuncId)(pos:String):
 WT cL cN w' (t++ĩ g fn pos es) (ft act g (φ ⟨j.M.grow w w',x,w'⟩)):=by
 have VL:∀b,(j.M.grow w w').has b->b<w'.heap.size/\b≠cL/\b≠cN:=by
  intro b hb;have old:j.M.has b->b<w'.heap.size/\b≠cL/\b≠cN:=λhb=>by
   have:=h.low g j hg b hb;exact⟨ϟ this.1 hd.size,this.2⟩
  rcases hb with(hb|hb) |hb
  ·exact old (.inl hb)
  ·have:=h.hL;have:=h.hN
   exact⟨hb.2,by omega,by omega⟩
  ·exact old (.inr hb)
 have JA:∀op∈ĩ g fn pos es,∃e∈es,op={g,fn,pos,act:=.ofEvent e}:=λop ag=>Go.Conc.mem_ofEvents ag
 have split:∀ {k a},Ú (t++ĩ g fn pos es) k=φ a->(k<t.size/\Ú t k=φ a)\/∃e∈es,∃b,sC a.loc b/\(j.M.grow w w').has b/\(a.write=θ->(j.M.grow w w').O b)/\Knows (t++ĩ g fn pos es) g k:=by
  intro k a ha;obtain⟨op,ag,cH⟩:=ē ha;rcases ö ag with⟨hi,bL⟩ | ⟨_,dW⟩
  ·exact .inl ⟨hi,by rw[ĝ bL];exact cH⟩
  ·obtain⟨e,he,rfl⟩:=JA op dW
   obtain⟨b,b1,b2,b3,_⟩:=QQ (hd.ev e he) cH;exact .inr ⟨e,he,b,b1,b2,b3,knows_own ag⟩
 refine⟨λi ji hi=>?_,λi i' ji Ph aw hi bG b hb dv=>?_,λi ji hi b hb=>?_,λop ag=>?_,h.nd.app (PY hd.ev),λsaid=>?_,λi ji hi k a ha b hb hc=>?_,ϟ h.hL hd.size,ϟ h.hN hd.size⟩
 ·by_cases nL:i=g
  ·subst nL
   rw[fY] at hi;cases hi;exact bR.refl _ _
  ·rw[ak _ _ nL] at hi
   refine(h.keep i ji hi).trans ⟨hd.size,λb hb=>hd.kept b (h.low i ji hi b hb).1 λhO=>h.nD g i j ji (ϸ nL) hg hi b hO hb,hd.tape,hd.os,hd.e⟩
 ·by_cases nL:i=g
  ·subst nL
   rw[fY] at hi;cases hi;rw[ak _ _ (ϸ aw)] at bG;rcases hb with hb|hb
   ·exact h.nD i i' j Ph aw hg bG b hb dv
   ·have:=(h.low i' Ph bG b dv).1;omega
  ·rw[ak _ _ nL] at hi
   by_cases Vn:i'=g
   ·subst Vn
    rw[fY] at bG;cases bG;rcases dv with(dv|dv) |dv
    ·exact h.nD i i' ji j aw hi hg b hb (.inl dv)
    ·have:=(h.low i ji hi b (.inl hb)).1;omega
    ·exact h.nD i i' ji j aw hi hg b hb (.inr dv)
   ·rw[ak _ _ Vn] at bG
    exact h.nD i i' ji Ph aw hi bG b hb dv
 ·by_cases nL:i=g
  ·subst nL
   rw[fY] at hi;cases hi;exact VL b hb
  ·rw[ak _ _ nL] at hi
   have:=h.low i ji hi b hb;exact⟨ϟ this.1 hd.size,this.2⟩
 ·rcases Array.mem_append.1 ag with ag|ag
  ·exact MemAct.low_mono hd.size (h.tl op ag)
  ·obtain⟨e,he,rfl⟩:=JA op ag
   exact(MT (B:=w'.heap.size) (hd.ev e he) λb hb=>(VL b hb).1).2.2.2
 ·refine noRace_append (h.clean said) (λop ag=>by obtain⟨e,_,rfl⟩:=JA op ag;rfl) λk a ha op ag b hb hc=>?_
  obtain⟨e,he,rfl⟩:=JA op ag;obtain⟨c,c1,c2,c3,c4⟩:=QQ (hd.ev e he) hb;have ca:sC a.loc c:=by rw[hc.1];exact c1
  have ao:=QR h.tl ha ca;by_cases dk:b.write=θ
  ·rcases c3 dk with hO|hO
   ·exact h.perm g j hg k a ha c ca (.inl hO)
   ·omega
  ·have vc:a.write=θ:=hc.2.2.1.resolve_right dk
   rcases c2 with(hO|hO) |hR
   ·exact h.perm g j hg k a ha c ca (.inl hO)
   ·omega
   ·exact h.perm g j hg k a ha c ca (.inr ⟨hR,vc⟩)
 ·by_cases nL:i=g
  ·subst nL
   rw[fY] at hi;cases hi;rcases split ha with⟨_,xf⟩ | ⟨e,he,c,c1,c2,c3,c4⟩
   ·have ao:=QR h.tl xf hb
    refine(h.perm i j hg k a xf b hb ?_).app _
    rcases hc with(hc|hc) |hc
    ·exact .inl hc
    ·omega
    ·exact .inr hc
   ·exact c4
  ·rw[ak _ _ nL] at hi
   rcases split ha with⟨_,xf⟩ | ⟨e,he,c,c1,c2,c3,c4⟩
   ·exact(h.perm i ji hi k a xf b hb hc).app _
   ·exfalso
    obtain rfl:=PE hb c1;have qx:=h.low i ji hi b (hc.imp id (·.1))
    rcases hc with hc| ⟨hc,vc⟩
    ·rcases c2 with(c2|c2) |c2
     ·exact h.nD i g ji j nL hi hg b hc (.inl c2)
     ·omega
     ·exact h.nD i g ji j nL hi hg b hc (.inr c2)
    ·rcases c3 vc with c3|c3
     ·exact h.nD g i j ji (ϸ nL) hg hi b c3 (.inr hc)
     ·omega
def WT.mute(h:WT cL cN w t act)(hu:∀op∈u,op.act.touch? =ν/\op.act.low w.heap.size/\op.act≠ .mark .disable/\op.act≠ .mark .enable)(hs:w'.heap.size=w.heap.size)
 (hk:∀b,b≠cL->b≠cN->w'.heap[b]?=w.heap[b]?)(ht:w'.tape=w.tape)(ho:w'.os=w.os)(hp:w'.output=w.output):WT cL cN w' (t++u) act:=by
 have old:∀ {k a},Ú (t++u) k=φ a->Ú t k=φ a:=by
  intro k a ha;obtain⟨op,ag,cH⟩:=ē ha;rcases ö ag with⟨_,bL⟩ | ⟨_,dW⟩
  ·rw[ĝ bL];exact cH
  ·rw[(hu op dW).1] at cH;cases cH
 refine⟨λg j e=>(h.keep g j e).trans ⟨by rw[hs];exact ϊ _,λb hb=>hk b (h.low g j e b hb).2.1 (h.low g j e b hb).2.2,ht,ho,hp⟩,h.nD,λg j e b hb=>by rw[hs];exact h.low g j e b hb,λop ag=>?_,h.nd.app λop ag=>(hu op ag).2.2,λsaid=>?_,λg j e k a ha b hb hc=>(h.perm g j e k a (old ha) b hb hc).app u,by rw[hs];exact h.hL,by rw[hs];exact h.hN⟩
 ·rw[hs]
  rcases Array.mem_append.1 ag with ag|ag
  ·exact h.tl op ag
  ·exact(hu op ag).2.1
 ·
  have key:∀(l:List MemOp) (s:Θ),(∀op∈l,op.act.touch? =ν)->¬Race said s->¬Race said (s++l.toArray):=by
   intro l;induction l with
   |nil=>intro s _ hr;simpa using hr
   |cons x l ih=>
    intro s hl hr;have e:s++(x::l).toArray=(s++#[x])++l.toArray:=by apply Array.ext';simp
    rw[e];refine ih _ (λop ag=>hl op (by simp[ag])) (noRace_append (g:=x.g) hr (by simp) λk a ha op ag b hb hc=>?_)
    simp only[ã,ā] at ag;subst ag;rw[hl op (by simp)] at hb
    cases hb
  have:=key u.toList t (λop ag=>(hu op (by simpa using ag)).1) (h.clean said)
  simpa using this
def WT.drop(h:WT cL cN w t act)(g:Nat):WT cL cN w t (ft act g ν):=by
 have back:∀ {i j},ft act g ν i=φ j->act i=φ j:=by
  intro i j hi;by_cases e:i=g
  ·subst e;rw[fY] at hi;cases hi
  ·rwa[ak _ _ e] at hi
 exact⟨λi j e=>h.keep i j (back e),λi i' j j' aw e e'=>h.nD i i' j j' aw (back e) (back e'),λi j e=>h.low i j (back e),h.tl,h.nd,h.clean,λi j e=>h.perm i j (back e),h.hL,h.hN⟩
def WT.again(h:WT cL cN w t act){g:Nat}{j:mB}(hg:act g=φ j)(x:ϐ):WT cL cN w t (ft act g (φ ⟨j.M,x,w⟩)):=by
 have back:∀ {i j'},ft act g (φ ⟨j.M,x,w⟩) i=φ j'->∃WW,act i=φ WW/\j'.M=WW.M:=by
  intro i j' hi;by_cases e:i=g
  ·subst e;rw[fY] at hi;cases hi;exact⟨j,hg,rfl⟩
  ·rw[ak _ _ e] at hi;exact⟨j',hi,rfl⟩
 refine⟨λi j' hi=>?_,λi i' j1 j2 aw e e'=>?_,λi j' hi=>?_,h.tl,h.nd,h.clean,λi j' hi=>?_,h.hL,h.hN⟩
 ·by_cases e:i=g
  ·subst e;rw[fY] at hi;cases hi;exact bR.refl _ _
  ·rw[ak _ _ e] at hi;exact h.keep i j' hi
 ·obtain⟨a,a1,a2⟩:=back e
  obtain⟨b,b1,b2⟩:=back e';rw[a2,b2];exact h.nD i i' a b aw a1 b1
 ·obtain⟨a,a1,a2⟩:=back hi
  rw[a2];exact h.low i a a1
 ·obtain⟨a,a1,a2⟩:=back hi
  rw[a2];exact h.perm i a a1
def ay.shared(M:ay):ay:=⟨λ_=>False,M.has⟩
def WT.spawn(h:WT cL cN w t act){j:mB}(h0:act 0=φ j)(hc:act c=ν)(jS:c≠0){x y:MemOp}(hx:x.g=0/\x.act=.go c)(hy:y.g=c/\y.act=.start)(g' child:ϐ):
 WT cL cN w (t++#[x,y]) (ft (ft act 0 (φ ⟨j.M.shared,g',w⟩)) c (φ ⟨j.M.shared,child,w⟩)):=by
 have hm:=h.mute (u:=#[x,y]) (w':=w) (λop ag=>by
  simp only[ã,Ϧ,Λ,or_false] at ag;rcases ag with rfl|rfl
  ·rw[hx.2];exact⟨rfl,trivial,by simp,by simp⟩
  ·rw[hy.2];exact⟨rfl,trivial,by simp,by simp⟩) rfl (λ_ _ _=>rfl) rfl rfl rfl
 have back:∀ {i j'},ft (ft act 0 (φ ⟨j.M.shared,g',w⟩)) c (φ ⟨j.M.shared,child,w⟩) i=φ j'->((i=0\/i=c)/\j'.M=j.M.shared/\j'.w=w)\/(i≠0/\i≠c/\act i=φ j'):=by
  intro i j' hi;by_cases e:i=c
  ·subst e;rw[fY] at hi;cases hi;exact .inl ⟨.inr rfl,rfl,rfl⟩
  ·rw[ak _ _ e] at hi
   by_cases e0:i=0
   ·subst e0;rw[fY] at hi;cases hi;exact .inl ⟨.inl rfl,rfl,rfl⟩
   ·rw[ak _ _ e0] at hi;exact .inr ⟨e0,e,hi⟩
 have old:∀ {k a},Ú (t++#[x,y]) k=φ a->Ú t k=φ a:=by
  intro k a ha;obtain⟨op,ag,cH⟩:=ē ha;rcases ö ag with⟨_,bL⟩ | ⟨_,dW⟩
  ·rw[ĝ bL];exact cH
  ·simp only[ã,Ϧ,Λ,or_false] at dW
   rcases dW with rfl|rfl
   ·rw[hx.2] at cH;cases cH
   ·rw[hy.2] at cH;cases cH
 refine⟨λi j' hi=>?_,λi i' j1 j2 aw e e' b hb dv=>?_,λi j' hi b hb=>?_,hm.tl,hm.nd,hm.clean,λi j' hi k a ha b hb vf=>?_,h.hL,h.hN⟩
 ·rcases back hi with⟨_,a2,a3⟩ | ⟨_,_,a3⟩
  ·rw[a2,a3];exact bR.refl _ _
  ·exact h.keep i j' a3
 ·rcases back e with⟨_,a2,_⟩ | ⟨a1,_,a3⟩
  ·rw[a2] at hb;exact hb.elim
  ·rcases back e' with⟨_,b2,_⟩ | ⟨_,_,b3⟩
   ·rw[b2] at dv
    exact h.nD i 0 j1 j a1 a3 h0 b hb (dv.resolve_left id)
   ·exact h.nD i i' j1 j2 aw a3 b3 b hb dv
 ·rcases back hi with⟨_,a2,_⟩ | ⟨_,_,a3⟩
  ·rw[a2] at hb;exact h.low 0 j h0 b (hb.resolve_left id)
  ·exact h.low i j' a3 b hb
 ·rcases back hi with⟨a1,a2,_⟩ | ⟨_,_,a3⟩
  ·rw[a2] at vf
   rcases vf with vf| ⟨vf,vc⟩
   ·exact vf.elim
   ·have hk:Knows t 0 k:=by
      rcases vf with hO|hR
      ·exact h.perm 0 j h0 k a (old ha) b hb (.inl hO)
      ·exact h.perm 0 j h0 k a (old ha) b hb (.inr ⟨hR,vc⟩)
    rcases a1 with rfl|rfl
    ·exact hk.app _
    ·exact Go.ConcN.fork_knows hx hy (F0 h.nd 0) (F0 h.nd _) hk
  ·exact(h.perm i j' a3 k a (old ha) b hb vf).app _
end
def uM(t:Θ)(g h:Nat):Prop:=∀k a,Ú t k=φ a-> t.g? k=φ g->Knows t h k
def uM.app{t u:Θ}{g h:Nat}(k:uM t g h)(hu:∀op∈u,op.g=g-> op.act.touch? =ν):uM (t++u) g h:=by
 intro i a ha hg;obtain⟨op,ag,cH⟩:=ē ha;rcases ö ag with⟨hi,bL⟩ | ⟨_,dW⟩
 ·refine(k i a (by rw[ĝ bL];exact cH) ?_).app u
  simpa [Õ,ag,bL] using hg
 ·have e:op.g=g:=by simpa [Õ,ag] using hg
  rw[hu op dW e] at cH;cases cH
def uM.self(t:Θ)(g:Nat):uM t g g:=by
 intro i a ha hg;obtain⟨op,ag,_⟩:=ē ha;have e:op.g=g:=by simpa [Õ,ag] using hg
 have:=knows_own ag;rwa[e] at this
def ahb{t:Θ}(hn:qf t){a s:Nat}(h1:x1.g=a/\x1.act=.send c s)(h2:x2.g=b/\x2.act=.recv c r cap)(h3:x3.g=a/\x3.act=.sendDone c s)(h4:x4.g=b/\x4.act=.recvDone c s)
 (h:Knows t a k):Knows (t++#[x1,x2,x3,x4]) b k:=by
 have e1:(t++#[x1,x2,x3,x4])[t.size]?=φ x1:=by rw[Aek (ϊ _)];simp
 have e4:(t++#[x1,x2,x3,x4])[t.size+3]?=φ x4:=by rw[Aek (by omega)];simp
 have VU:qf (t++#[x1,x2,x3,x4]):=hn.app λop ag=>by
  simp only[ã,Ϧ,Λ,or_false] at ag;rcases ag with rfl|rfl|rfl|rfl
  ·rw[h1.2];simp
  ·rw[h2.2];simp
  ·rw[h3.2];simp
  ·rw[h4.2];simp
 have q1:HappensBefore (t++#[x1,x2,x3,x4]) k t.size:=h.hb_new (ϊ _) e1 h1.1;exact⟨t.size+3,x4,e4,h4.1,.inr (q1.trans (.single (.inr ⟨.handOver (c:=c) (k:=s) (by rw[act?_of e1,h1.2]) (by rw[act?_of e4,h4.2]),Jz VU e1,Jz VU e4⟩)))⟩
end Go.Sim
namespace Go.Sim
open Go Go.Conc
open Go.ConcN (sumTo upd sumTo_upd upd_ne upd_same sumTo_congr)
inductive Tree:Type
 |leaf:Tree
 |node (f:Ψ->Tree):Tree
def Tree.lt(a b:Tree):Prop:=∃f w,b=.node f/\a=f w
def Tree.acc(a:Tree):Acc Tree.lt a:=by
 induction a with
 |leaf=>exact⟨_,λy ⟨f,w,e,_⟩=>by cases e⟩
 |node f ih=>exact⟨_,λy ⟨f',w,e,e'⟩=>by cases e;rw[e'];exact ih w⟩
def Br(n:Nat)(f' f:Nat->Tree):Prop:=∃i,i<n/\Tree.lt (f' i) (f i)/\∀j,j≠i->f' j=f j
def YQ(n:Nat):∀f:Nat->Tree,Acc (Br n) f:=by
 induction n with
 |zero=>exactλf=>⟨_,λy ⟨i,hi,_⟩=>by omega⟩
 |succ n ih=>
  have key:∀x:Tree,Acc Tree.lt x->∀f:Nat->Tree,f n=x->Acc (Br (n+1)) f:=by
   intro x hx;induction hx with
   |intro x _ ihx=>
    intro f hf;have inner:∀f:Nat->Tree,Acc (Br n) f->f n=x->Acc (Br (n+1)) f:=by
     intro f ha;induction ha with
     |intro f _ ihf=>
      intro hf;refine⟨_,λf' ⟨i,hi,ao,ho⟩=>?_⟩
      by_cases dc:i=n
      ·subst dc
       exact ihx (f' i) (by rw[<-hf];exact ao) f' rfl
      ·exact ihf f' ⟨i,by omega,ao,ho⟩ ((ho n (λe=>dc e.symm)).trans hf)
    exact inner f (ih f) hf
  exactλf=>key (f n) (Tree.acc _) f rfl
inductive oD(P:Program)(main:Bool)(Stop:ay->ϐ->Ψ->Prop):Tree->ay->ϐ->Ψ->Prop
 |stop {T:Tree} {M:ay} {g:ϐ} {w:Ψ} (h:∀aa,bR M w aa->Stop M g aa):oD P main Stop T M g w
 |step {f:Ψ->Tree} {M:ay} {g:ϐ} {w:Ψ} (run:g.status=.running) (nx:Ψ->ϐ×Ψ×Array Event)
   (h:∀aa,bR M w aa->Ϙ P main g aa=.go (nx aa).1 (nx aa).2.1 (nx aa).2.2/\eZ M aa (nx aa).2.1 (nx aa).2.2)
   (hs:∀aa,bR M w aa->oD P main Stop (f aa) (M.grow aa (nx aa).2.1) (nx aa).1 (nx aa).2.1):oD P main Stop (.node f) M g w
def Walk.tree{Stop:ay->ϐ->Ψ->Prop}(h:Walk P main Stop M g w):∃T,oD P main Stop T M g w:=by
 induction h with
 |stop h=>exact⟨.leaf,.stop h⟩
 | @step M g w run nx h _ ih=>
   have ex:∀aa,∃T,bR M w aa->oD P main Stop T (M.grow aa (nx aa).2.1) (nx aa).1 (nx aa).2.1:=by
    intro aa;by_cases k:bR M w aa
    ·obtain⟨T,hT⟩:=ih aa k;exact⟨T,λ_=>hT⟩
    ·exact⟨.leaf,λx=>absurd x k⟩
   exact⟨.node λaa=>Classical.choose (ex aa),.step run nx h λaa k=>Classical.choose_spec (ex aa) k⟩
def oD.sK{Stop:ay->ϐ->Ψ->Prop}{T:Tree}(h:oD P main Stop T M g w):
 (∀aa,bR M w aa->Stop M g aa)\/(g.status=.running/\∀aa,bR M w aa->∃T' g' w' es,Tree.lt T' T/\Ϙ P main g aa=.go g' w' es/\eZ M aa w' es/\oD P main Stop T' (M.grow aa w') g' w'):=by
 cases h with
 |stop h=>exact .inl h
 |step run nx h hs=>exact .inr ⟨run,λaa k=>⟨_,_,_,_,⟨_,aa,rfl,rfl⟩,(h aa k).1,(h aa k).2,hs aa k⟩⟩
structure Pm where
 P:Program
 n:Nat
 N0:Nat
 cL:Nat
 cN:Nat
 cX:Nat->Bool
 val:Nat->υ
 End:List Nat->ay->ϐ->Ψ->Prop
def GC(X:Pm)(c:Nat)(v:υ)(Next:ay->ϐ->Ψ->Prop)(M:ay)(g:ϐ)(w:Ψ):Prop:=
 g.status=.running/\g.offers=ν/\(∃z,Ϙ X.P χ g w=.comm g #[ÿ c v z] θ .send w #[])/\Next M (ϧ g ω) w
def W2(X:Pm):ay->ϐ->Ψ->Prop:=GC X X.cL (.bool θ) (λ_ g _=>∃k,Ĥ X.P k g)
def W1(X:Pm)(i:Nat)(M:ay)(g:ϐ)(w:Ψ):Prop:=
 (X.cX i=θ/\GC X X.cN (X.val i) (λM g w=>Walk X.P χ (W2 X) M g w) M g w)\/(X.cX i=χ/\W2 X M g w)
def AtClose(X:Pm)(_:ay)(g:ϐ)(w:Ψ):Prop:=
 g.status=.running/\mayWake X.P g=θ/\∀s r,w.heap[X.cN]?=φ (.chan 0 #[] χ s r χ)->
  ∃cz k,Ϙ X.P χ g w=.go cz (w.shut X.cN s r χ) #[⟨.obj X.cN,χ,θ⟩,⟨.obj X.cN,θ,θ⟩]/\Ĥ X.P k cz
def rC(X:Pm):Nat->ay->ϐ->Ψ->Prop
 |0=>AtClose X
 |r+1=>λM g w=>g.status=.running/\g.offers=ν/\(∃z,Ϙ X.P χ g w=.comm g #[â X.cL z] θ (.recv χ) w #[])/\Walk X.P χ (rC X r) M (ϧ g (ð χ (.bool θ) θ)) w
def oB(X:Pm):Nat->List Nat->ay->ϐ->Ψ->Prop
 |0,aD=>λM g w=>g.status=.running/\g.offers=ν/\∃z,Ϙ X.P θ g w=.comm g #[â X.cN z] θ (.recv θ) w #[]/\X.End aD M (ϧ g (ð θ z χ)) w
 |f+1,aD=>λM g w=>g.status=.running/\g.offers=ν/\∃z,Ϙ X.P θ g w=.comm g #[â X.cN z] θ (.recv θ) w #[]/\X.End aD M (ϧ g (ð θ z χ)) w/\
   ∀i,i<X.n->X.cX i=θ->i ∉ aD->Walk X.P θ (oB X f (aD++ [i])) M (ϧ g (ð θ (X.val i) θ)) w
def oB.at{X:Pm}(h:oB X f aD M g w):g.status=.running/\g.offers=ν/\∃z,Ϙ X.P θ g w=.comm g #[â X.cN z] θ (.recv θ) w #[]/\X.End aD M (ϧ g (ð θ z χ)) w:=by
 cases f with
 |zero=>exact h
 |succ f=>obtain⟨a,b,z,c,d,_⟩:=h;exact⟨a,b,z,c,d⟩
def StopA(X:Pm):Nat->ay->ϐ->Ψ->Prop
 |0=>λM g w=>g.status=.running/\∃cz child,Ϙ X.P θ g w=.spawn cz child w #[]/\cz.status=.running/\child.status=.running/\Walk X.P χ (rC X X.n) M.shared child w/\Walk X.P θ (oB X X.n []) M.shared cz w
 |r+1=>λM g w=>g.status=.running/\∃cz child,Ϙ X.P θ g w=.spawn cz child w #[]/\cz.status=.running/\child.status=.running/\Walk X.P χ (W1 X (X.n - (r+1))) M.shared child w/\Walk X.P θ (StopA X r) M.shared cz w
inductive WS where
 |no|lj|jD|jj|jg|quit
 deriving DecidableEq
def WS.wt:WS->Nat
 | .no=>6| .lj=>5| .jD=>4| .jj=>3| .jg=>2| .quit=>0
def WS.il:WS->Bool
 | .jj| .jg| .quit=>θ
 |_=>χ
def WS.q(s:WS):Nat:=if s=.quit then 1 else 0
inductive MP where
 |spawn|walk(f:Nat)(aD:List Nat) |dp(f:Nat)(aD:List Nat)
inductive CP where
 |no|walk(r:Nat) |dp(r:Nat) |quit
def MP.wt(n:Nat):MP->Nat
 | .spawn=>2 * n+3| .walk f _=>2 * f+2| .dp f _=>2 * f+1
def CP.wt(n:Nat):CP->Nat
 | .no=>2 * n+8| .walk r=>2 * r+5| .dp r=>2 * r+4| .quit=>0
structure Gh where
 j:Nat
 st:Nat->WS
 mp:MP
 cp:CP
 act:Nat->Option mB
 q:Nat->Nat
 tr:Nat->Tree
def Gh.mu(X:Pm)(G:Gh):Nat:=G.mp.wt X.n+G.cp.wt X.n+sumTo X.n (λi=>(G.st i).wt)
def rB(x y:ϐ):Prop:=x.frame=y.frame/\x.callers=y.callers/\x.dying=y.dying/\x.status=.running
def gD(X:Pm)(G:Gh)(x:ϐ):Prop:=
 match G.mp with
 | .spawn=>∃M aR,G.act 0=φ ⟨M,x,aR⟩/\x.status=.running/\oD X.P θ (StopA X (X.n - G.j)) (G.tr 0) M x aR
 | .walk f aD=>∃M aR y,G.act 0=φ ⟨M,y,aR⟩/\rB x y/\oD X.P θ (oB X f aD) (G.tr 0) M y aR
 | .dp f aD=>∃M aR y z,G.act 0=φ ⟨M,y,aR⟩/\x=Ó y #[â X.cN z] (.recv θ)/\∀aa,bR M aR aa->oB X f aD M y aa
def WSit(X:Pm)(G:Gh)(i:Nat)(x:ϐ):Prop:=
 match G.st i with
 | .no=>False
 | .lj=>∃M aR,G.act (X.N0+i)=φ ⟨M,x,aR⟩/\x.status=.running/\oD X.P χ (W1 X i) (G.tr (X.N0+i)) M x aR
 | .jD=>∃M aR y z,G.act (X.N0+i)=φ ⟨M,y,aR⟩/\x=Ó y #[ÿ X.cN (X.val i) z] .send/\X.cX i=θ/\Walk X.P χ (W2 X) M (ϧ y ω) aR
 | .jj=>∃M aR,G.act (X.N0+i)=φ ⟨M,x,aR⟩/\x.status=.running/\oD X.P χ (W2 X) (G.tr (X.N0+i)) M x aR
 | .jg=>∃M aR y z,G.act (X.N0+i)=φ ⟨M,y,aR⟩/\x=Ó y #[ÿ X.cL (.bool θ) z] .send/\∃k,Ĥ X.P k (ϧ y ω)
 | .quit=>G.act (X.N0+i)=ν/\Ĥ X.P (G.q (X.N0+i)) x
def CSit(X:Pm)(G:Gh)(x:ϐ):Prop:=
 match G.cp with
 | .no=>False
 | .walk r=>∃M aR,G.act (X.N0+X.n)=φ ⟨M,x,aR⟩/\x.status=.running/\oD X.P χ (rC X r) (G.tr (X.N0+X.n)) M x aR
 | .dp r=>∃r' M aR y z,r=r'+1/\G.act (X.N0+X.n)=φ ⟨M,y,aR⟩/\x=Ó y #[â X.cL z] (.recv χ)/\Walk X.P χ (rC X r') M (ϧ y (ð χ (.bool θ) θ)) aR
 | .quit=>G.act (X.N0+X.n)=ν/\Ĥ X.P (G.q (X.N0+X.n)) x
def Gh.closed(G:Gh):Bool:=match G.cp with
 | .quit=>θ
 |_=>χ
def CP.ik:CP->Bool
 | .no=>θ
 |_=>χ
def oq(X:Pm)(G:Gh):Prop:=
 match G.cp with
 | .no=>sumTo X.n (λi=>(G.st i).q)=0
 | .walk r| .dp r=>r+sumTo X.n (λi=>(G.st i).q)=X.n
 | .quit=>sumTo X.n (λi=>(G.st i).q)=X.n
def ou(X:Pm)(G:Gh):Prop:=
 match G.mp with
 | .spawn=>∀i,i<X.n->X.cX i=θ->(G.st i).il=χ
 | .walk f aD| .dp f aD=>aD.Nodup/\f+aD.length=X.n/\∀i,i∈aD↔(i<X.n/\X.cX i=θ/\(G.st i).il=θ)
structure Base(wb w:Ψ):Prop where
 size:wb.heap.size<=w.heap.size
 tape:w.tape=wb.tape
 os:w.os=wb.os
 e:w.output=wb.output
structure FI(X:Pm)(wb:Ψ)(gs:Array ϐ)(w:Ψ)(t:Θ)(G:Gh):Prop where
 size:gs.size=X.N0+G.j+(if G.cp.ik then 0 else 1)
 n0:0<X.N0
 jn:G.j<=X.n
 jc:G.cp.ik=χ->G.j=X.n
 mc:(∃f aD,G.mp=.walk f aD\/G.mp=.dp f aD)↔G.cp.ik=χ
 vU:∀i,i<X.n->(G.st i=.no↔G.j<=i)
 main:∃x,gs[0]?=φ x/\gD X G x
 wk:∀i,i<G.j->∃x,gs[X.N0+i]?=φ x/\WSit X G i x
 cl:G.cp.ik=χ->∃x,gs[X.N0+X.n]?=φ x/\CSit X G x
 old:∀g x,0<g->g<X.N0->gs[g]?=φ x->Ĥ X.P (G.q g) x
 oX:∀g,0<g->g<X.N0->G.act g=ν
 nG:∀g,gs.size<=g->G.act g=ν
 cnt:oq X G
 aD:ou X G
 nV:(∃f aD,G.mp=.dp f aD)->∀i,i<X.n->G.st i≠ .jD
 yj:(∃r,G.cp=.dp r)->∀i,i<X.n->G.st i≠ .jg
 AN:(∃f aD,G.mp=.dp f aD)->G.closed=χ
 wt:WT X.cL X.cN w t G.act
 lU:∃s,w.heap[X.cL]?=φ (.chan 0 #[] χ s s χ)
 lX:∃s,w.heap[X.cN]?=φ (.chan 0 #[] G.closed s s χ)
 neq:X.cL≠X.cN
 base:Base wb w
 yk:∀k a,Ú t k=φ a->a.loc.isMemory=θ->∀g,t.g? k=φ g->g<X.N0->Knows t 0 k
 uW:∀k g,t.g? k=φ g->g<gs.size
 kq:∀i,i<X.n->G.st i=.quit->uM t (X.N0+i) (X.N0+X.n)
 AM:G.closed=χ->∀k a,Ú t k=φ a->a.loc≠ .obj X.cN
 DW:G.closed=θ->∃c z,t[c]?=φ z/\z.act=.close X.cN/\z.g=X.N0+X.n/\∀k a,Ú t k=φ a->∀g,t.g? k=φ g->X.N0<=g->Before t k c
def YZ(st:Nat->WS):∀n,sumTo n (λi=>(st i).q)<=n
 |0=>ϊ _
 |n+1=>by
  have:=YZ st n;simp only[sumTo];have:(st n).q<=1:=by unfold WS.q;split<;>omega
  omega
def QN(st:Nat->WS):∀n,sumTo n (λi=>(st i).q)=n->∀i,i<n->st i=.quit
 |0,_,i,hi=>by omega
 |n+1,h,i,hi=>by
  have h1:=YZ st n;have h2:(st n).q<=1:=by unfold WS.q;split<;>omega
  simp only[sumTo] at h;by_cases e:i=n
  ·subst e
   have:(st i).q=1:=by omega
   unfold WS.q at this;split at this
   ·assumption
   ·omega
  ·exact QN st n (by omega) i (by omega)
def apF(st:Nat->WS)(n:Nat)(h:sumTo n (λi=>(st i).q)<n):∃i,i<n/\st i≠ .quit:=by
 apply Û;intro hn;have eT:∀i,i<n->st i=.quit:=λi hi=>Û λhq=>hn ⟨i,hi,hq⟩
 have:sumTo n (λi=>(st i).q)=n:=by
  have key:∀m,m<=n->sumTo m (λi=>(st i).q)=m:=by
   intro m;induction m with
   |zero=>intro _;rfl
   |succ m ih=>
    intro hm;simp only[sumTo];rw[ih (by omega),eT m (by omega)]
    simp[WS.q]
  exact key n (ϊ _)
 omega
section
variable {X:Pm}{wb:Ψ}{gs:Array ϐ}{w:Ψ}{t:Θ}{G:Gh}
def CP.adV{G:Gh}(h:G.closed=θ):G.cp.ik=χ:=by
 unfold Gh.closed at h;unfold CP.ik;cases hc:G.cp<;>rw[hc] at h<;>simp_all
def FI.G2(h:FI X wb gs w t G)(hc:G.closed=θ):∀i,i<X.n->G.st i=.quit:=by
 have hq:=h.cnt;unfold oq at hq;unfold Gh.closed at hc;cases e:G.cp with
 |quit=>rw[e] at hq;exact QN _ _ hq
 |_=>rw[e] at hc;cases hc
def FI.tX(h:FI X wb gs w t G)(hk:k<gs.size):k=0\/(0<k/\k<X.N0)\/(∃i,i<G.j/\k=X.N0+i)\/(k=X.N0+X.n/\G.cp.ik=χ):=by
 have hs:=h.size;by_cases h0:k=0
 ·exact .inl h0
 by_cases h1:k<X.N0
 ·exact .inr (.inl ⟨by omega,h1⟩)
 by_cases h2:k<X.N0+G.j
 ·exact .inr (.inr (.inl ⟨k - X.N0,by omega,by omega⟩))
 ·right;right;right
  by_cases hc:G.cp.ik=θ
  ·rw[hc] at hs;simp at hs;omega
  ·have hc:G.cp.ik=χ:=by simpa using hc
   rw[hc] at hs;have:=h.jc hc;simp at hs;exact⟨by omega,hc⟩
def FI.Xr(h:FI X wb gs w t G)(hi:i<X.n)(hs:G.st i≠ .no):i<G.j:=by
 apply Û;intro hn;exact hs ((h.vU i hi).2 (by omega))
def FI.kinds(h:FI X wb gs w t G)(hy:gs[k]?=φ y):
 y.status=.running\/(∃n,Ĥ X.P n y)\/(∃g z,G.closed=χ/\y=Ó g #[â X.cN z] (.recv θ))\/(∃g z,y=Ó g #[â X.cL z] (.recv χ))\/
  (∃g v z,k≠0/\G.closed=χ/\y=Ó g #[ÿ X.cN v z] .send)\/∃g v z,k≠0/\y=Ó g #[ÿ X.cL v z] .send:=by
 rcases h.tX (ϛ.1 hy).1 with rfl| ⟨h1,h2⟩ | ⟨i,hi,rfl⟩ | ⟨rfl,hc⟩
 ·obtain⟨x,hx,hs⟩:=h.main
  rw[hy] at hx;obtain rfl:=Ϟ hx;unfold gD at hs;cases e:G.mp with
  |spawn=>rw[e] at hs;obtain⟨M,aR,_,hr,_⟩:=hs;exact .inl hr
  |walk f aD=>rw[e] at hs;obtain⟨M,aR,y',_,hr,_⟩:=hs;exact .inl hr.2.2.2
  |dp f aD=>rw[e] at hs;obtain⟨M,aR,y',z,_,hr,_⟩:=hs;exact .inr (.inr (.inl ⟨y',z,h.AN ⟨f,aD,e⟩,hr⟩))
 ·exact .inr (.inl ⟨_,h.old k y h1 h2 hy⟩)
 ·obtain⟨x,hx,hs⟩:=h.wk i hi
  rw[hy] at hx;obtain rfl:=Ϟ hx;have iA:X.N0+i≠0:=by have:=h.n0;omega
  have eV:∀s,G.st i=s->s≠ .quit->G.closed=χ:=by
   intro s e hs;apply Û;intro hc;have:=h.G2 (by simpa using hc) i (by have:=h.jn;omega)
   exact hs (e.symm.trans this)
  unfold WSit at hs;cases e:G.st i with
  |no=>rw[e] at hs;exact hs.elim
  |lj=>rw[e] at hs;obtain⟨M,aR,_,hr,_⟩:=hs;exact .inl hr
  |jD=>rw[e] at hs;obtain⟨M,aR,y',z,_,hr,_⟩:=hs;exact .inr (.inr (.inr (.inr (.inl ⟨y',_,z,iA,eV _ e (by simp),hr⟩))))
  |jj=>rw[e] at hs;obtain⟨M,aR,_,hr,_⟩:=hs;exact .inl hr
  |jg=>rw[e] at hs;obtain⟨M,aR,y',z,_,hr,_⟩:=hs;exact .inr (.inr (.inr (.inr (.inr ⟨y',_,z,iA,hr⟩))))
  |quit=>rw[e] at hs;exact .inr (.inl ⟨_,hs.2⟩)
 ·obtain⟨x,hx,hs⟩:=h.cl hc
  rw[hy] at hx;obtain rfl:=Ϟ hx;unfold CSit at hs;cases e:G.cp with
  |no=>rw[e] at hs;exact hs.elim
  |walk r=>rw[e] at hs;obtain⟨M,aR,_,hr,_⟩:=hs;exact .inl hr
  |dp r=>rw[e] at hs;obtain⟨r',M,aR,y',z,_,_,hr,_⟩:=hs;exact .inr (.inr (.inr (.inl ⟨y',z,hr⟩)))
  |quit=>rw[e] at hs;exact .inr (.inl ⟨_,hs.2⟩)
def FI.awake(h:FI X wb gs w t G):∀g∈gs,Conc.awake g:=by
 intro y hy;obtain⟨k,hk,rfl⟩:=Array.mem_iff_getElem.1 hy;rcases h.kinds (k:=k) (õ hk) with e| ⟨n,e⟩ | ⟨g,z,_,e⟩ | ⟨g,z,e⟩ | ⟨g,v,z,_,_,e⟩ | ⟨g,v,z,_,e⟩
 ·exact awake_of (.inl e)
 ·exact awake_of (e.status.elim .inl λx=>.inr (.inr x))
 all_goals rw[e];exact awake_of (.inr (.inl rfl))
def FI.woken(h:FI X wb gs w t G){k:Nat}{y:ϐ}(hy:gs[k]?=φ y){x x':ϐ}{w':Ψ}(hL:∃s,w'.heap[X.cL]?=φ (.chan 0 #[] χ s s χ))
 (hN:G.closed=χ->∃s,w'.heap[X.cN]?=φ (.chan 0 #[] χ s s χ)):Ā X.P x x' w' y=y:=by
 obtain⟨s,hL⟩:=hL;rcases h.kinds hy with e| ⟨n,e⟩ | ⟨g,z,hc,e⟩ | ⟨g,z,e⟩ | ⟨g,v,z,_,hc,e⟩ | ⟨g,v,z,_,e⟩
 ·exact woken_run e
 ·exact woken_quits e
 ·obtain⟨s',hN⟩:=hN hc
  rw[e];exact woken_recv_open _ _ hN
 ·rw[e];exact woken_recv_open _ _ hL
 ·obtain⟨s',hN⟩:=hN hc
  rw[e];exact woken_send_open _ _ hN
 ·rw[e];exact woken_send_open _ _ hL
def FI.ao6(h:FI X wb gs w t G):∃(k:Nat) (y:ϐ),gs[k]?=φ y/\y.status=.running:=by
 obtain⟨x,hx,hs⟩:=h.main;unfold gD at hs;cases e:G.mp with
 |spawn=>rw[e] at hs;obtain⟨M,aR,_,hr,_⟩:=hs;exact⟨0,x,hx,hr⟩
 |walk f aD=>rw[e] at hs;obtain⟨M,aR,y',_,hr,_⟩:=hs;exact⟨0,x,hx,hr.2.2.2⟩
 |dp f aD=>
  have eV:=h.AN ⟨f,aD,e⟩;have br:=h.mc.1 ⟨f,aD,.inr e⟩;obtain⟨y,hy,hc⟩:=h.cl br;have dA:=h.cnt;unfold CSit at hc;unfold oq at dA;cases ec:G.cp with
  |no=>rw[ec] at br;cases br
  |quit=>unfold Gh.closed at eV;rw[ec] at eV;cases eV
  |walk r=>rw[ec] at hc;obtain⟨M,aR,_,hr,_⟩:=hc;exact⟨_,y,hy,hr⟩
  |dp r=>
   rw[ec] at hc dA;obtain⟨r',M,aR,y',z,E5,_⟩:=hc;simp only at dA;obtain⟨i,hi,hq⟩:=apF G.st X.n (by omega)
   have hj:=h.jc br;obtain⟨x2,Cw,dN⟩:=h.wk i (by omega)
   unfold WSit at dN;cases es:G.st i with
   |no=>rw[es] at dN;exact dN.elim
   |lj=>rw[es] at dN;obtain⟨M,aR,_,hr,_⟩:=dN;exact⟨_,x2,Cw,hr⟩
   |jj=>rw[es] at dN;obtain⟨M,aR,_,hr,_⟩:=dN;exact⟨_,x2,Cw,hr⟩
   |jD=>exact absurd es (h.nV ⟨f,aD,e⟩ i hi)
   |jg=>exact absurd es (h.yj ⟨r,ec⟩ i hi)
   |quit=>exact absurd es hq
def FI.at(h:FI X wb gs w t G)(d:Nat):FI X wb gs (w.at d) t G:=
 ⟨h.size,h.n0,h.jn,h.jc,h.mc,h.vU,h.main,h.wk,h.cl,h.old,h.oX,h.nG,h.cnt,h.aD,h.nV,h.yj,h.AN,h.wt.at d,h.lU,h.lX,h.neq,⟨h.base.size,h.base.tape,h.base.os,h.base.e⟩,h.yk,h.uW,h.kq,h.AM,h.DW⟩
def Uy(h:FI X wb gs w t G){x':ϐ}(hL:∃s,w'.heap[X.cL]?=φ (.chan 0 #[] χ s s χ))
 (hN:G.closed=χ->∃s,w'.heap[X.cN]?=φ (.chan 0 #[] χ s s χ))(aw:i≠k):((gs.map (Ā X.P x x' w')).setIfInBounds k x')[i]?=gs[i]?:=by
 rw[ė (ϸ aw),Đ]
 cases e:gs[i]? with
 |none=>rfl
 |some y=>rw[é,h.woken e hL hN]
def Na{f:ϐ->ϐ}(hk:k<gs.size)(x':ϐ):((gs.map f).setIfInBounds k x')[k]?=φ x':=by
 simp[hk]
def Sr(X:Pm)(G:Gh)(k:Nat)(x:ϐ):Prop:=
 (k=0/\gD X G x)\/(∃i,i<G.j/\k=X.N0+i/\WSit X G i x)\/(k=X.N0+X.n/\G.cp.ik=χ/\CSit X G x)
def FI.own(h:FI X wb gs w t G){k:Nat}{x g':ϐ}{j:mB}{w':Ψ}{es:Array Event}(hk:gs[k]?=φ x)(pE:G.act k=φ j)(hd:eZ j.M w w' es)(T':Tree)(fn:FuncId)(pos:String)
 (rZ:Sr X {G with act:=ft G.act k (φ ⟨j.M.grow w w',g',w'⟩),tr:=upd G.tr k T'} k g'):
 FI X wb ((gs.map (Ā X.P x g' w')).setIfInBounds k g') w' (t++ĩ k fn pos es) {G with act:=ft G.act k (φ ⟨j.M.grow w w',g',w'⟩),tr:=upd G.tr k T'}:=by
 have ao:k<gs.size:=(ϛ.1 hk).1
 have Ix:∃s,w'.heap[X.cL]?=φ (.chan 0 #[] χ s s χ):=by
  obtain⟨s,e⟩:=h.lU;exact⟨s,by rw[hd.kept X.cL h.wt.hL λhO=>(h.wt.low k j pE _ (.inl hO)).2.1 rfl];exact e⟩
 have zN:∃s,w'.heap[X.cN]?=φ (.chan 0 #[] G.closed s s χ):=by
  obtain⟨s,e⟩:=h.lX;exact⟨s,by rw[hd.kept X.cN h.wt.hN λhO=>(h.wt.low k j pE _ (.inl hO)).2.2 rfl];exact e⟩
 have NQ:G.closed=χ->∃s,w'.heap[X.cN]?=φ (.chan 0 #[] χ s s χ):=λe=>by rw[e] at zN;exact zN
 have uV:∀ {i},i≠k->((gs.map (Ā X.P x g' w')).setIfInBounds k g')[i]?=gs[i]?:=λaw=>Uy h Ix NQ aw
 have zv:((gs.map (Ā X.P x g' w')).setIfInBounds k g')[k]?=φ g':=Na ao g';have aN:((gs.map (Ā X.P x g' w')).setIfInBounds k g').size=gs.size:=by simp
 have Ol:¬ (0<k/\k<X.N0):=λ⟨a,b⟩=>by rw[h.oX k a b] at pE;cases pE
 have V7:∀i,i<X.n->G.st i=.quit->X.N0+i≠k:=by
  intro i hi hq e;obtain⟨y,_,hs⟩:=h.wk i (h.Xr hi (by rw[hq];simp))
  unfold WSit at hs;rw[hq] at hs;rw[<-e,hs.1] at pE;cases pE
 have ops:∀op∈ĩ k fn pos es,∃e∈es,op={g:=k,fn,pos,act:=.ofEvent e}:=λop ag=>Go.Conc.mem_ofEvents ag
 have QT:∀ {i a},Ú (t++ĩ k fn pos es) i=φ a->(i<t.size/\Ú t i=φ a/\(t++ĩ k fn pos es).g? i= t.g? i)\/((t++ĩ k fn pos es).g? i=φ k/\∃b,sC a.loc b/\(j.M.grow w w').has b/\Knows (t++ĩ k fn pos es) k i):=by
  intro i a ha;obtain⟨op,ag,cH⟩:=ē ha;rcases ö ag with⟨hi,bL⟩ | ⟨_,dW⟩
  ·exact .inl ⟨hi,by rw[ĝ bL];exact cH,by simp[Õ,ag,bL]⟩
  ·obtain⟨e,he,rfl⟩:=ops op dW
   obtain⟨b,b1,b2,_,_⟩:=QQ (hd.ev e he) cH;exact .inr ⟨by simp[Õ,ag],b,b1,b2,knows_own ag⟩
 have iU:∀b,(j.M.grow w w').has b->b≠X.cN:=by
  intro b hb;rcases hb with(hb|hb) |hb
  ·exact(h.wt.low k j pE b (.inl hb)).2.2
  ·have:=h.wt.hN;omega
  ·exact(h.wt.low k j pE b (.inr hb)).2.2
 refine⟨aN.trans h.size,h.n0,h.jn,h.jc,h.mc,h.vU,?_,λi hi=>?_,λhc=>?_,λg y h1 h2 hy=>?_,λg h1 h2=>?_,λg hg=>?_,h.cnt,h.aD,h.nV,h.yj,h.AN,h.wt.own pE hd fn pos,Ix,zN,h.neq,
  ⟨ϡ h.base.size hd.size,hd.tape.trans h.base.tape,hd.os.trans h.base.os,hd.e.trans h.base.e⟩,λi a ha hm g hg iV=>?_,λi g hg=>?_,λi hi hq=>?_,λhc i a ha=>?_,λhc=>?_⟩
 ·by_cases e:k=0
  ·subst e
   rcases rZ with⟨_,hs⟩ | ⟨i,_,e,_⟩ | ⟨e,_⟩
   ·exact⟨g',zv,hs⟩
   ·have:=h.n0;omega
   ·have:=h.n0;omega
  ·obtain⟨y,hy,hs⟩:=h.main
   refine⟨y,by rw[uV (ϸ e)];exact hy,?_⟩
   simp only[gD,ak _ _ (ϸ e),upd_ne _ _ (ϸ e)];exact hs
 ·by_cases e:k=X.N0+i
  ·subst e
   rcases rZ with⟨e,_⟩ | ⟨i',_,e,hs⟩ | ⟨e,hc,_⟩
   ·have:=h.n0;omega
   ·obtain rfl:i'=i:=by omega
    exact⟨g',zv,hs⟩
   ·have:=h.jn
    have xC:i<G.j:=hi;omega
  ·obtain⟨y,hy,hs⟩:=h.wk i hi
   refine⟨y,by rw[uV (ϸ e)];exact hy,?_⟩
   simp only[WSit,ak _ _ (ϸ e),upd_ne _ _ (ϸ e)];exact hs
 ·by_cases e:k=X.N0+X.n
  ·subst e
   rcases rZ with⟨e,_⟩ | ⟨i',bG,e,hs⟩ | ⟨_,_,hs⟩
   ·have:=h.n0;omega
   ·have:=h.jn;simp only at bG;omega
   ·exact⟨g',zv,hs⟩
  ·obtain⟨y,hy,hs⟩:=h.cl hc
   refine⟨y,by rw[uV (ϸ e)];exact hy,?_⟩
   simp only[CSit,ak _ _ (ϸ e),upd_ne _ _ (ϸ e)];exact hs
 ·have e:g≠k:=λe=>Ol ⟨by omega,by omega⟩
  rw[uV e] at hy;exact h.old g y h1 h2 hy
 ·have e:g≠k:=λe=>Ol ⟨by omega,by omega⟩
  simp only[ak _ _ e];exact h.oX g h1 h2
 ·rw[aN] at hg
  simp only[ak _ _ (show g≠k by omega)]
  exact h.nG g hg
 ·rcases QT ha with⟨_,h1,h2⟩ | ⟨h1,_,_,_,h2⟩
  ·rw[h2] at hg
   exact(h.yk i a h1 hm g hg iV).app _
  ·rw[h1] at hg
   obtain rfl:=Ϟ hg;obtain rfl:k=0:=by
    apply Û;intro h0;exact Ol ⟨by omega,iV⟩
   exact h2
 ·rw[aN]
  unfold Õ at hg;obtain⟨op,ag,e⟩:=Č.1 hg;rcases ö ag with⟨_,bL⟩ | ⟨_,dW⟩
  ·exact h.uW i g (by simp[Õ,bL,e])
  ·obtain⟨_,_,rfl⟩:=ops op dW
   simp only at e;omega
 ·refine(h.kq i hi hq).app λop ag e=>?_
  obtain⟨_,_,rfl⟩:=ops op ag;exact absurd e.symm (V7 i hi hq)
 ·rcases QT ha with⟨_,h1,_⟩ | ⟨_,b,h1,h2,_⟩
  ·exact h.AM hc i a h1
  ·intro e
   have:sC a.loc X.cN:=.inl e;obtain rfl:=PE h1 this;exact iU _ h2 rfl
 ·obtain⟨c,z,c1,c2,c3,c4⟩:=h.DW hc
  refine⟨c,z,by rw[Ae6 (Ae7 c1)];exact c1,c2,c3,λi a ha g hg ky=>?_⟩
  rcases QT ha with⟨_,h1,h2⟩ | ⟨h1,_⟩
  ·rw[h2] at hg
   exact(c4 i a h1 g hg ky).app _
  ·exfalso
   rw[h1] at hg;obtain rfl:=Ϟ hg;rcases h.tX ao with e|e| ⟨i',bG,e⟩ | ⟨e,hn⟩
   ·have:=h.n0;omega
   ·omega
   ·exact V7 i' (by have:=h.jn;omega) (h.G2 hc i' (by have:=h.jn;omega)) e.symm
   ·obtain⟨y,_,hs⟩:=h.cl hn
    unfold CSit at hs;unfold Gh.closed at hc;cases ec:G.cp with
    |quit=>rw[ec] at hs;rw[e,hs.1] at pE;cases pE
    |_=>rw[ec] at hc;cases hc
def FI.anb(h:FI X wb gs w t G){g':ϐ}(hk:gs[k]?=φ x)(rZ:(0<k/\k<X.N0)\/(∃i,i<G.j/\k=X.N0+i/\G.st i=.quit)\/(k=X.N0+X.n/\G.closed=θ))(hq:Ĥ X.P m g'):
 FI X wb ((gs.map (Ā X.P x g' w)).setIfInBounds k g') w t {G with q:=upd G.q k m}:=by
 have ao:k<gs.size:=(ϛ.1 hk).1
 have NQ:G.closed=χ->∃s,w.heap[X.cN]?=φ (.chan 0 #[] χ s s χ):=λe=>by have:=h.lX;rw[e] at this;exact this
 have uV:∀ {i},i≠k->((gs.map (Ā X.P x g' w)).setIfInBounds k g')[i]?=gs[i]?:=λaw=>Uy h h.lU NQ aw
 have zv:((gs.map (Ā X.P x g' w)).setIfInBounds k g')[k]?=φ g':=Na ao g';have aN:((gs.map (Ā X.P x g' w)).setIfInBounds k g').size=gs.size:=by simp
 have kV:=h.n0;have sU:=h.jn;have iA:k≠0:=by rcases rZ with e| ⟨i,_,e,_⟩ | ⟨e,_⟩<;>omega
 refine⟨aN.trans h.size,h.n0,h.jn,h.jc,h.mc,h.vU,?_,λi hi=>?_,λhc=>?_,λg y h1 h2 hy=>?_,h.oX,λg hg=>h.nG g (by rw[aN] at hg;exact hg),h.cnt,h.aD,h.nV,h.yj,h.AN,h.wt,h.lU,h.lX,h.neq,h.base,h.yk,λi g hg=>by rw[aN];exact h.uW i g hg,h.kq,h.AM,h.DW⟩
 ·obtain⟨y,hy,hs⟩:=h.main
  exact⟨y,by rw[uV (ϸ iA)];exact hy,hs⟩
 ·by_cases e:k=X.N0+i
  ·subst e
   rcases rZ with e| ⟨i',_,e,eW⟩ | ⟨e,_⟩
   ·omega
   ·obtain rfl:i'=i:=by omega
    refine⟨g',zv,?_⟩
    obtain⟨y,_,hs⟩:=h.wk i' hi;unfold WSit at hs |-
    simp only;rw[eW] at hs |-
    exact⟨hs.1,by simp only[upd_same];exact hq⟩
   ·have xC:i<G.j:=hi
    omega
  ·obtain⟨y,hy,hs⟩:=h.wk i hi
   refine⟨y,by rw[uV (ϸ e)];exact hy,?_⟩
   simp only[WSit,upd_ne _ _ (ϸ e)];exact hs
 ·by_cases e:k=X.N0+X.n
  ·subst e
   rcases rZ with e| ⟨i',bG,e,_⟩ | ⟨_,gJ⟩
   ·omega
   ·have xC:i'<G.j:=bG
    omega
   ·refine⟨g',zv,?_⟩
    obtain⟨y,_,hs⟩:=h.cl hc;unfold Gh.closed at gJ;cases ec:G.cp with
    |quit=>
     unfold CSit at hs |-
     simp only;rw[ec] at hs;exact⟨hs.1,by simp only[upd_same];exact hq⟩
    |_=>rw[ec] at gJ;cases gJ
  ·obtain⟨y,hy,hs⟩:=h.cl hc
   refine⟨y,by rw[uV (ϸ e)];exact hy,?_⟩
   simp only[CSit,upd_ne _ _ (ϸ e)];exact hs
 ·by_cases e:g=k
  ·subst e
   rw[zv] at hy;obtain rfl:=Ϟ hy;simp only[upd_same];exact hq
  ·rw[uV e] at hy
   simp only[upd_ne _ _ e];exact h.old g y h1 h2 hy
end
def CN:∀(n:Nat) (l:List Nat),l.Nodup->(∀x∈l,x<n)->l.length<=n
 |0,l,_,h=>by
  cases l with
  |nil=>exact ϊ _
  |cons a l=>exact absurd (h a (by simp)) (by omega)
 |n+1,l,hn,h=>by
  by_cases hm:n∈l
  ·have h1:=CN n (l.erase n) (hn.erase n) λx hx=>by
    have h2:=(List.Nodup.mem_erase_iff hn).1 hx;have:=h x h2.2;have:=h2.1;omega
   rw[List.length_erase_of_mem hm] at h1;omega
  ·have:=CN n l hn λx hx=>by
    have h2:=h x hx;have:x≠n:=λe=>hm (e▸hx)
    omega
   omega
def pS{a b:ϐ}{c c':Array CommCase}{s s':CommShape}(h:Ó a c s=Ó b c' s'):c=c'/\s=s'/\∀v,ϧ a v=ϧ b v:=by
 obtain⟨f1,k1,s1,d1,o1⟩:=a;obtain⟨f2,k2,s2,d2,o2⟩:=b;simp only[Ó,Goroutine.mk.injEq,Option.some.injEq,Prod.mk.injEq] at h;obtain⟨h1,h2,_,h4,h5,h6⟩:=h;subst h1 h2 h4;exact⟨h5,h6,λv=>rfl⟩
def mi{a b:ϐ}{c:Array CommCase}{s:CommShape}(h:Ó a c s=b)(hb:b.status=.running):False:=by
 rw[<-h] at hb;cases hb
def JZ{v':υ}(h:#[ÿ c v z]=#[ÿ c' v' z']):c=c'/\v=v':=by
 simp[ÿ] at h;exact⟨h.1,h.2.1⟩
def ane(h:#[â c z]=#[â c' z']):c=c':=by
 simp[â] at h;exact h.1
def yh(h:#[ÿ c v z]=#[â c' z']):False:=by simp[ÿ,â] at h
section
variable {X:Pm}{wb:Ψ}{gs:Array ϐ}{w:Ψ}{t:Θ}{G:Gh}
def FI.Md(h:FI X wb gs w t G){sh:CommShape}(hk:gs[k]?=φ (Ó g #[ÿ X.cN v z] sh)):
 ∃i M aR y,i<G.j/\k=X.N0+i/\G.st i=.jD/\v=X.val i/\sh=.send/\X.cX i=θ/\G.act k=φ ⟨M,y,aR⟩/\(∀v,ϧ g v=ϧ y v)/\Walk X.P χ (W2 X) M (ϧ y ω) aR:=by
 have aw:=h.neq;rcases h.tX (ϛ.1 hk).1 with rfl| ⟨h1,h2⟩ | ⟨i,hi,rfl⟩ | ⟨rfl,hc⟩
 ·obtain⟨x,hx,hs⟩:=h.main
  rw[hk] at hx;have hx:=(Ϟ hx);unfold gD at hs;cases e:G.mp with
  |spawn=>rw[e] at hs;obtain⟨M,aR,_,hr,_⟩:=hs;exact(mi hx hr).elim
  |walk f aD=>rw[e] at hs;obtain⟨M,aR,y',_,hr,_⟩:=hs;exact(mi hx hr.2.2.2).elim
  |dp f aD=>
   rw[e] at hs;obtain⟨M,aR,y',z',_,hr,_⟩:=hs;rw[hr] at hx;exact(yh (pS hx).1).elim
 ·have:=h.old k _ h1 h2 hk
  exact(this.status.elim (λe=>by cases e) λe=>by cases e)
 ·obtain⟨x,hx,hs⟩:=h.wk i hi
  rw[hk] at hx;have hx:=(Ϟ hx);unfold WSit at hs;cases e:G.st i with
  |no=>rw[e] at hs;exact hs.elim
  |lj=>rw[e] at hs;obtain⟨M,aR,_,hr,_⟩:=hs;exact(mi hx hr).elim
  |jj=>rw[e] at hs;obtain⟨M,aR,_,hr,_⟩:=hs;exact(mi hx hr).elim
  |jD=>
   rw[e] at hs;obtain⟨M,aR,y',z',ha,hr,hn,hw⟩:=hs;rw[hr] at hx;obtain⟨e1,e2,e3⟩:=pS hx;exact⟨i,M,aR,y',hi,rfl,e,(JZ e1).2,e2,hn,ha,e3,hw⟩
  |jg=>
   rw[e] at hs;obtain⟨M,aR,y',z',ha,hr,hw⟩:=hs;rw[hr] at hx;exact absurd (JZ (pS hx).1).1 (ϸ aw)
  |quit=>
   rw[e] at hs;rw[<-hx] at hs;exact(hs.2.status.elim (λe=>by cases e) λe=>by cases e)
 ·obtain⟨x,hx,hs⟩:=h.cl hc
  rw[hk] at hx;have hx:=(Ϟ hx);unfold CSit at hs;cases e:G.cp with
  |no=>rw[e] at hs;exact hs.elim
  |walk r=>rw[e] at hs;obtain⟨M,aR,_,hr,_⟩:=hs;exact(mi hx hr).elim
  |dp r=>
   rw[e] at hs;obtain⟨r',M,aR,y',z',_,_,hr,_⟩:=hs;rw[hr] at hx;exact(yh (pS hx).1).elim
  |quit=>
   rw[e] at hs;rw[<-hx] at hs;exact(hs.2.status.elim (λe=>by cases e) λe=>by cases e)
def FI.SJ(h:FI X wb gs w t G){sh:CommShape}(hk:gs[k]?=φ (Ó g #[ÿ X.cL v z] sh)):
 ∃i M aR y,i<G.j/\k=X.N0+i/\G.st i=.jg/\v=.bool θ/\sh=.send/\G.act k=φ ⟨M,y,aR⟩/\(∀v,ϧ g v=ϧ y v)/\∃m,Ĥ X.P m (ϧ y ω):=by
 have aw:=h.neq;rcases h.tX (ϛ.1 hk).1 with rfl| ⟨h1,h2⟩ | ⟨i,hi,rfl⟩ | ⟨rfl,hc⟩
 ·obtain⟨x,hx,hs⟩:=h.main
  rw[hk] at hx;have hx:=(Ϟ hx);unfold gD at hs;cases e:G.mp with
  |spawn=>rw[e] at hs;obtain⟨M,aR,_,hr,_⟩:=hs;exact(mi hx hr).elim
  |walk f aD=>rw[e] at hs;obtain⟨M,aR,y',_,hr,_⟩:=hs;exact(mi hx hr.2.2.2).elim
  |dp f aD=>
   rw[e] at hs;obtain⟨M,aR,y',z',_,hr,_⟩:=hs;rw[hr] at hx;exact(yh (pS hx).1).elim
 ·have:=h.old k _ h1 h2 hk
  exact(this.status.elim (λe=>by cases e) λe=>by cases e)
 ·obtain⟨x,hx,hs⟩:=h.wk i hi
  rw[hk] at hx;have hx:=(Ϟ hx);unfold WSit at hs;cases e:G.st i with
  |no=>rw[e] at hs;exact hs.elim
  |lj=>rw[e] at hs;obtain⟨M,aR,_,hr,_⟩:=hs;exact(mi hx hr).elim
  |jj=>rw[e] at hs;obtain⟨M,aR,_,hr,_⟩:=hs;exact(mi hx hr).elim
  |jD=>
   rw[e] at hs;obtain⟨M,aR,y',z',ha,hr,hn,hw⟩:=hs;rw[hr] at hx;exact absurd (JZ (pS hx).1).1 aw
  |jg=>
   rw[e] at hs;obtain⟨M,aR,y',z',ha,hr,hw⟩:=hs;rw[hr] at hx;obtain⟨e1,e2,e3⟩:=pS hx;exact⟨i,M,aR,y',hi,rfl,e,(JZ e1).2,e2,ha,e3,hw⟩
  |quit=>
   rw[e] at hs;rw[<-hx] at hs;exact(hs.2.status.elim (λe=>by cases e) λe=>by cases e)
 ·obtain⟨x,hx,hs⟩:=h.cl hc
  rw[hk] at hx;have hx:=(Ϟ hx);unfold CSit at hs;cases e:G.cp with
  |no=>rw[e] at hs;exact hs.elim
  |walk r=>rw[e] at hs;obtain⟨M,aR,_,hr,_⟩:=hs;exact(mi hx hr).elim
  |dp r=>
   rw[e] at hs;obtain⟨r',M,aR,y',z',_,_,hr,_⟩:=hs;rw[hr] at hx;exact(yh (pS hx).1).elim
  |quit=>
   rw[e] at hs;rw[<-hx] at hs;exact(hs.2.status.elim (λe=>by cases e) λe=>by cases e)
def XM(h:FI X wb gs w t G)(hy:gs[k]?=φ y)(aw:Ŧ y X.cN χ≠ []):k=0/\∃f aD,G.mp=.dp f aD:=by
 have rU:=h.neq;rcases h.tX (ϛ.1 hy).1 with rfl| ⟨h1,h2⟩ | ⟨i,hi,rfl⟩ | ⟨rfl,hc⟩
 ·refine⟨rfl,?_⟩
  obtain⟨x,hx,hs⟩:=h.main;rw[hy] at hx;obtain rfl:=Ϟ hx;unfold gD at hs;cases e:G.mp with
  |spawn=>rw[e] at hs;obtain⟨M,aR,_,hr,_⟩:=hs;exact absurd (Ğ (by rw[hr];simp) _ _) aw
  |walk f aD=>rw[e] at hs;obtain⟨M,aR,y',_,hr,_⟩:=hs;exact absurd (Ğ (by rw[hr.2.2.2];simp) _ _) aw
  |dp f aD=>exact⟨f,aD,rfl⟩
 ·have:=h.old k _ h1 h2 hy
  exact absurd (Ğ (by rcases this.status with e|e<;>rw[e]<;>simp) _ _) aw
 ·exfalso
  rcases h.kinds hy with e| ⟨n,e⟩ | ⟨g,z,_,e⟩ | ⟨g,z,e⟩ | ⟨g,v,z,_,_,e⟩ | ⟨g,v,z,_,e⟩
  ·exact aw (Ğ (by rw[e];simp) _ _)
  ·exact aw (Ğ (by rcases e.status with e|e<;>rw[e]<;>simp) _ _)
  ·
   obtain⟨x,hx,hs⟩:=h.wk i hi;rw[hy] at hx;obtain rfl:=Ϟ hx;unfold WSit at hs;cases es:G.st i with
   |no=>rw[es] at hs;exact hs.elim
   |lj=>rw[es] at hs;obtain⟨M,aR,_,hr,_⟩:=hs;exact mi e.symm hr
   |jj=>rw[es] at hs;obtain⟨M,aR,_,hr,_⟩:=hs;exact mi e.symm hr
   |jD=>rw[es] at hs;obtain⟨M,aR,y',z',_,hr,_⟩:=hs;rw[hr] at e;exact yh (pS e).1
   |jg=>rw[es] at hs;obtain⟨M,aR,y',z',_,hr,_⟩:=hs;rw[hr] at e;exact yh (pS e).1
   |quit=>rw[es] at hs;rw[e] at hs;exact(hs.2.status.elim (λe=>by cases e) λe=>by cases e)
  ·rw[e,Afa,if_neg rU] at aw;exact aw rfl
  ·rw[e,Afb] at aw;exact aw rfl
  ·rw[e,Afb] at aw;exact aw rfl
 ·exfalso
  obtain⟨x,hx,hs⟩:=h.cl hc;rw[hy] at hx;obtain rfl:=Ϟ hx;unfold CSit at hs;cases e:G.cp with
  |no=>rw[e] at hs;exact hs.elim
  |walk r=>rw[e] at hs;obtain⟨M,aR,_,hr,_⟩:=hs;exact aw (Ğ (by rw[hr];simp) _ _)
  |dp r=>
   rw[e] at hs;obtain⟨r',M,aR,y',z',_,_,hr,_⟩:=hs;rw[hr,Afa,if_neg rU] at aw;exact aw rfl
  |quit=>rw[e] at hs;exact aw (Ğ (by rcases hs.2.status with e|e<;>rw[e]<;>simp) _ _)
def XL(h:FI X wb gs w t G)(hy:gs[k]?=φ y)(aw:Ŧ y X.cL χ≠ []):k=X.N0+X.n/\∃r,G.cp=.dp r:=by
 have rU:=h.neq;rcases h.kinds hy with e| ⟨n,e⟩ | ⟨g,z,_,e⟩ | ⟨g,z,e⟩ | ⟨g,v,z,_,_,e⟩ | ⟨g,v,z,_,e⟩
 ·exact absurd (Ğ (by rw[e];simp) _ _) aw
 ·exact absurd (Ğ (by rcases e.status with e|e<;>rw[e]<;>simp) _ _) aw
 ·rw[e,Afa,if_neg (ϸ rU)] at aw;exact absurd rfl aw
 ·rcases h.tX (ϛ.1 hy).1 with rfl| ⟨h1,h2⟩ | ⟨i,hi,rfl⟩ | ⟨rfl,hc⟩
  ·exfalso
   obtain⟨x,hx,hs⟩:=h.main;rw[hy] at hx;obtain rfl:=Ϟ hx;unfold gD at hs;cases em:G.mp with
   |spawn=>rw[em] at hs;obtain⟨M,aR,_,hr,_⟩:=hs;exact mi e.symm hr
   |walk f aD=>rw[em] at hs;obtain⟨M,aR,y',_,hr,_⟩:=hs;exact mi e.symm hr.2.2.2
   |dp f aD=>
    rw[em] at hs;obtain⟨M,aR,y',z',_,hr,_⟩:=hs;rw[hr] at e;exact rU (ane (pS e).1).symm
  ·exfalso
   have:=h.old k _ h1 h2 hy;rw[e] at this;exact(this.status.elim (λe=>by cases e) λe=>by cases e)
  ·exfalso
   obtain⟨x,hx,hs⟩:=h.wk i hi;rw[hy] at hx;obtain rfl:=Ϟ hx;unfold WSit at hs;cases es:G.st i with
   |no=>rw[es] at hs;exact hs.elim
   |lj=>rw[es] at hs;obtain⟨M,aR,_,hr,_⟩:=hs;exact mi e.symm hr
   |jj=>rw[es] at hs;obtain⟨M,aR,_,hr,_⟩:=hs;exact mi e.symm hr
   |jD=>rw[es] at hs;obtain⟨M,aR,y',z',_,hr,_⟩:=hs;rw[hr] at e;exact yh (pS e).1
   |jg=>rw[es] at hs;obtain⟨M,aR,y',z',_,hr,_⟩:=hs;rw[hr] at e;exact yh (pS e).1
   |quit=>rw[es] at hs;rw[e] at hs;exact(hs.2.status.elim (λe=>by cases e) λe=>by cases e)
  ·refine⟨rfl,?_⟩
   obtain⟨x,hx,hs⟩:=h.cl hc;rw[hy] at hx;obtain rfl:=Ϟ hx;unfold CSit at hs;cases ec:G.cp with
   |no=>rw[ec] at hs;exact hs.elim
   |walk r=>rw[ec] at hs;obtain⟨M,aR,_,hr,_⟩:=hs;exact(mi e.symm hr).elim
   |dp r=>exact⟨r,rfl⟩
   |quit=>rw[ec] at hs;rw[e] at hs;exact(hs.2.status.elim (λe=>by cases e) λe=>by cases e)
 ·rw[e,Afb] at aw;exact absurd rfl aw
 ·rw[e,Afb] at aw;exact absurd rfl aw
def P0(h:FI X wb gs w t G)(hy:gs[k]?=φ y)(aw:m∈Ŧ y X.cN θ):m=0/\∃g v z,y=Ó g #[ÿ X.cN v z] .send:=by
 have rU:=h.neq;rcases h.kinds hy with e| ⟨n,e⟩ | ⟨g,z,_,e⟩ | ⟨g,z,e⟩ | ⟨g,v,z,_,_,e⟩ | ⟨g,v,z,_,e⟩
 ·rw[Ğ (by rw[e];simp)] at aw;cases aw
 ·rw[Ğ (by rcases e.status with e|e<;>rw[e]<;>simp)] at aw;cases aw
 ·rw[e,Afc] at aw;cases aw
 ·rw[e,Afc] at aw;cases aw
 ·rw[e,ż,if_pos rfl] at aw
  exact⟨by simpa using aw,g,v,z,e⟩
 ·rw[e,ż,if_neg rU] at aw;cases aw
def XN(h:FI X wb gs w t G)(hy:gs[k]?=φ y)(aw:m∈Ŧ y X.cL θ):m=0/\∃g v z,y=Ó g #[ÿ X.cL v z] .send:=by
 have rU:=h.neq;rcases h.kinds hy with e| ⟨n,e⟩ | ⟨g,z,_,e⟩ | ⟨g,z,e⟩ | ⟨g,v,z,_,_,e⟩ | ⟨g,v,z,_,e⟩
 ·rw[Ğ (by rw[e];simp)] at aw;cases aw
 ·rw[Ğ (by rcases e.status with e|e<;>rw[e]<;>simp)] at aw;cases aw
 ·rw[e,Afc] at aw;cases aw
 ·rw[e,Afc] at aw;cases aw
 ·rw[e,ż,if_neg (ϸ rU)] at aw;cases aw
 ·rw[e,ż,if_pos rfl] at aw
  exact⟨by simpa using aw,g,v,z,e⟩
def FI.AX(h:FI X wb gs w t G){aY:Array ϐ}{G':Gh}(aN:aY.size=gs.size)(hj:G'.j=G.j)(br:G'.cp.ik=G.cp.ik)
 (tb:(∃f aD,G'.mp=.walk f aD\/G'.mp=.dp f aD)↔∃f aD,G.mp=.walk f aD\/G.mp=.dp f aD)(eW:∀i,i<X.n->(G'.st i=.no↔G.st i=.no))
 (Ox:∃x,aY[0]?=φ x/\gD X G' x)(xV:∀i,i<G.j->∃x,aY[X.N0+i]?=φ x/\WSit X G' i x)(gJ:G.cp.ik=χ->∃x,aY[X.N0+X.n]?=φ x/\CSit X G' x)
 (hold:∀g,0<g->g<X.N0->aY[g]?=gs[g]?/\G'.q g=G.q g/\G'.act g=ν)(EE:∀g,gs.size<=g->G'.act g=ν)(dA:oq X G')(cG:ou X G')
 (Ae:(∃f aD,G'.mp=.dp f aD)->∀i,i<X.n->G'.st i≠ .jD)(aij:(∃r,G'.cp=.dp r)->∀i,i<X.n->G'.st i≠ .jg)(aik:(∃f aD,G'.mp=.dp f aD)->G'.closed=χ)
 (vE:WT X.cL X.cN w' (t++u) G'.act)(Ix:∃s,w'.heap[X.cL]?=φ (.chan 0 #[] χ s s χ))(zN:∃s,w'.heap[X.cN]?=φ (.chan 0 #[] G'.closed s s χ))(hb:Base wb w')
 (hu:∀op∈u,op.act.touch? =ν/\op.g<gs.size)(hkq:∀i,i<X.n->G'.st i=.quit->uM (t++u) (X.N0+i) (X.N0+X.n))(U1:G'.closed=G.closed):FI X wb aY w' (t++u) G':=by
 have old:∀ {k a},Ú (t++u) k=φ a->Ú t k=φ a/\(t++u).g? k= t.g? k:=by
  intro k a ha;obtain⟨op,ag,cH⟩:=ē ha;rcases ö ag with⟨_,bL⟩ | ⟨_,dW⟩
  ·exact⟨by rw[ĝ bL];exact cH,by simp[Õ,ag,bL]⟩
  ·rw[(hu op dW).1] at cH;cases cH
 refine⟨by rw[aN,hj,br];exact h.size,h.n0,by rw[hj];exact h.jn,by rw[br,hj];exact h.jc,by rw[tb,br];exact h.mc,λi hi=>by rw[eW i hi,hj];exact h.vU i hi,Ox,by rw[hj];exact xV,by rw[br];exact gJ,
  λg x h1 h2 hx=>?_,λg h1 h2=>(hold g h1 h2).2.2,λg hg=>EE g (by rw[aN] at hg;exact hg),dA,cG,Ae,aij,aik,vE,Ix,zN,h.neq,hb,λk a ha hm g hg ao=>?_,λk g hg=>?_,hkq,λhc k a ha=>?_,λhc=>?_⟩
 ·obtain⟨e1,e2,_⟩:=hold g h1 h2
  rw[e2];rw[e1] at hx;exact h.old g x h1 h2 hx
 ·obtain⟨a1,a2⟩:=old ha
  rw[a2] at hg;exact(h.yk k a a1 hm g hg ao).app u
 ·rw[aN]
  unfold Õ at hg;obtain⟨op,ag,e⟩:=Č.1 hg;rcases ö ag with⟨_,bL⟩ | ⟨_,dW⟩
  ·exact h.uW k g (by simp[Õ,bL,e])
  ·rw[<-e];exact(hu op dW).2
 ·rw[U1] at hc
  exact h.AM hc k a (old ha).1
 ·rw[U1] at hc
  obtain⟨c,z,c1,c2,c3,c4⟩:=h.DW hc;refine⟨c,z,by rw[Ae6 (Ae7 c1)];exact c1,c2,c3,λk a ha g hg ky=>?_⟩
  obtain⟨a1,a2⟩:=old ha;rw[a2] at hg;exact(c4 k a a1 g hg ky).app u
end
end Go.Sim
namespace Go.Sim
open Go Go.Conc
open Go.ConcN (sumTo upd sumTo_upd upd_ne upd_same sumTo_congr)
section
variable {X:Pm}{wb:Ψ}{gs:Array ϐ}{w:Ψ}{t:Θ}{G:Gh}
def gD.congr{G':Gh}(h1:G'.mp=G.mp)(hj:G'.j=G.j)(h2:G'.act 0=G.act 0)(h3:G'.tr 0=G.tr 0)(h:gD X G x):gD X G' x:=by
 unfold gD at *;rw[h1,hj,h2,h3];exact h
def WSit.congr{G':Gh}(h1:G'.st i=G.st i)(h2:G'.act (X.N0+i)=G.act (X.N0+i))(h3:G'.tr (X.N0+i)=G.tr (X.N0+i))(h4:G'.q (X.N0+i)=G.q (X.N0+i))(h:WSit X G i x):WSit X G' i x:=by
 unfold WSit at *;rw[h1,h2,h3,h4];exact h
def CSit.congr{G':Gh}(h1:G'.cp=G.cp)(h2:G'.act (X.N0+X.n)=G.act (X.N0+X.n))(h3:G'.tr (X.N0+X.n)=G.tr (X.N0+X.n))(h4:G'.q (X.N0+X.n)=G.q (X.N0+X.n))(h:CSit X G x):CSit X G' x:=by
 unfold CSit at *;rw[h1,h2,h3,h4];exact h
def one_set:(gs.setIfInBounds b y)[i]?=if i=b/\b<gs.size then φ y else gs[i]?:=by
 by_cases hb:i=b
 ·subst hb
  by_cases ao:i<gs.size
  ·simp[ao]
  ·rw[if_neg (λe=>ao e.2),Ė (by simpa using ao),Ė (by omega)]
 ·rw[ė (ϸ hb),if_neg (λe=>hb e.1)]
def ni{a:Nat}:((gs.setIfInBounds a x).setIfInBounds b y)[i]?=if i=b/\b<gs.size then φ y else if i=a/\a<gs.size then φ x else gs[i]?:=by
 rw[one_set,one_set,Ē]
def MZ{a s:Nat}(h1:x1.g=a/\x1.act=.send c s)(h2:x2.g=b/\x2.act=.recv c r cap)(h3:x3.g=a/\x3.act=.sendDone c s)(h4:x4.g=b/\x4.act=.recvDone c r)(hc:c<B)(ha:a<N)(hb:b<N):
 (∀op∈#[x1,x2,x3,x4],op.act.touch? =ν/\op.act.low B/\op.act≠ .mark .disable/\op.act≠ .mark .enable)/\∀op∈#[x1,x2,x3,x4],op.act.touch? =ν/\op.g<N:=by
 refine⟨λop ag=>?_,λop ag=>?_⟩<;>simp only[ã,Ϧ,Λ,or_false] at ag<;>rcases ag with rfl|rfl|rfl|rfl
 ·rw[h1.2];exact⟨rfl,hc,by simp,by simp⟩
 ·rw[h2.2];exact⟨rfl,hc,by simp,by simp⟩
 ·rw[h3.2];exact⟨rfl,hc,by simp,by simp⟩
 ·rw[h4.2];exact⟨rfl,hc,by simp,by simp⟩
 ·rw[h1.2,h1.1];exact⟨rfl,ha⟩
 ·rw[h2.2,h2.1];exact⟨rfl,hb⟩
 ·rw[h3.2,h3.1];exact⟨rfl,ha⟩
 ·rw[h4.2,h4.1];exact⟨rfl,hb⟩
def Qs(w:Ψ)(c cap:Nat)(buf:Array υ)(closed:Bool)(s r:Nat)(tm:Bool):(w.setChan c cap buf closed s r tm).heap.size=w.heap.size/\(∀b,b≠c->(w.setChan c cap buf closed s r tm).heap[b]?=w.heap[b]?)/\(c<w.heap.size->(w.setChan c cap buf closed s r tm).heap[c]?=φ (.chan cap buf closed s r tm)):=by
 refine⟨by simp[World.setChan],λb hb=>?_,λhc=>by simp[World.setChan,hc]⟩
 simp only[World.setChan];rw[ė (ϸ hb)]
def CM(st:Nat->WS)(hi:i<n)(s:WS):sumTo n (λa=>(upd st i s a).wt)+(st i).wt=sumTo n (λa=>(st a).wt)+s.wt:=sumTo_upd st s WS.wt hi
def CW(st:Nat->WS)(hi:i<n)(s:WS):sumTo n (λa=>(upd st i s a).q)+(st i).q=sumTo n (λa=>(st a).q)+s.q:=sumTo_upd st s WS.q hi
def FI.uO(h:FI X wb gs w t G)(i:Nat):(X.N0+i==0)=χ:=by have:=h.n0;simp;omega
def am2(h:FI X wb gs w t G)(hk:k≠0)(h0:gs[0]?=φ (Ó y #[â X.cN z] (.recv θ))):Ĝ (gs.setIfInBounds k ph) X.cN χ=[(0,0)]:=by
 rw[partners_one (j:=0) (g:=Ó y #[â X.cN z] (.recv θ)) (stand_get (ϸ hk) h0) λj x hj hx=>?_]
 ·rw[Afa,if_pos rfl];rfl
 ·rcases ń gs k j x hx with⟨_,rfl⟩ | ⟨_,hx⟩
  ·exact Ņ _ _
  ·apply Û
   intro aw;exact hj (XM h hx aw).1
def am1(h:FI X wb gs w t G)(hp:¬ ∃f aD,G.mp=.dp f aD):Ĝ (gs.setIfInBounds k ph) X.cN χ=[]:=by
 refine Afg λj x hx=>?_
 rcases ń gs k j x hx with⟨_,rfl⟩ | ⟨_,hx⟩
 ·exact Ņ _ _
 ·apply Û
  intro aw;exact hp (XM h hx aw).2
def am0(h:FI X wb gs w t G)(hk:k≠X.N0+X.n)(h0:gs[X.N0+X.n]?=φ (Ó y #[â X.cL z] (.recv χ))):Ĝ (gs.setIfInBounds k ph) X.cL χ=[(X.N0+X.n,0)]:=by
 rw[partners_one (j:=X.N0+X.n) (g:=Ó y #[â X.cL z] (.recv χ)) (stand_get (ϸ hk) h0) λj x hj hx=>?_]
 ·rw[Afa,if_pos rfl];rfl
 ·rcases ń gs k j x hx with⟨_,rfl⟩ | ⟨_,hx⟩
  ·exact Ņ _ _
  ·apply Û
   intro aw;exact hj (XL h hx aw).1
def amZ(h:FI X wb gs w t G)(hp:¬ ∃r,G.cp=.dp r):Ĝ (gs.setIfInBounds k ph) X.cL χ=[]:=by
 refine Afg λj x hx=>?_
 rcases ń gs k j x hx with⟨_,rfl⟩ | ⟨_,hx⟩
 ·exact Ņ _ _
 ·apply Û
  intro aw;exact hp (XL h hx aw).2
def pz(X:Pm)(wb:Ψ)(gs:Array ϐ)(w:Ψ)(sl:Option (Nat×Nat))(t:Θ)(G:Gh)(k:Nat):Prop:=
 ∃aY w' u G',runT X.P (Ϫ gs w sl) k=(.next (Ϫ aY w' sl),u)/\FI X wb aY w' (t++u) G'/\G'.mu X<G.mu X
def YC(g:ϐ)(v:υ):(ϧ g v).status=.running:=rfl
def rB.refl(h:x.status=.running):rB x x:=⟨rfl,rfl,rfl,h⟩
def aoQ(h:FI X wb gs w t G)(sl:Option (Nat×Nat))(hi:i<G.j)(eW:G.st i=.lj)(hx:gs[X.N0+i]?=φ x)(ha:G.act (X.N0+i)=φ ⟨M,x,aR⟩)
 (hn:X.cX i=θ)(hS:GC X X.cN (X.val i) (λM g w=>Walk X.P χ (W2 X) M g w) M x w)(hp:G.mp=.dp f aD):pz X wb gs w sl t G (X.N0+i):=by
 obtain⟨_,_,⟨z,dH⟩,td⟩:=hS;have kV:=h.n0;have sU:=h.jn;obtain⟨y0,h0,ef⟩:=h.main;unfold gD at ef;rw[hp] at ef;obtain⟨M0,v0,y,z0,rJ,rfl,hR⟩:=ef;have cG:=h.aD;unfold ou at cG;rw[hp] at cG;obtain⟨g1,g2,g3⟩:=cG;have Ac:i ∉ aD:=λe=>by have:=((g3 i).1 e).2.2;rw[eW] at this;cases this
 obtain⟨f',rfl⟩:∃f',f=f'+1:=by
  have h1:=CN X.n (i::aD) (List.nodup_cons.2 ⟨Ac,g1⟩) λa ha=>by
   rcases Ϧ.1 ha with rfl|ha
   ·omega
   ·exact((g3 a).1 ha).1
  simp only[Ă] at h1;exact⟨f - 1,by omega⟩
 obtain⟨s,hc⟩:=h.lX;have eV:=h.AN ⟨_,_,hp⟩;rw[eV] at hc;have bh:=crowd_send_meets (P:=X.P) (sl:=sl) hx (by rw[h.uO];exact dH) hc (show 0≠X.N0+i by omega) h0 (am2 h (by omega) h0)
 rw[oW,Aem] at bh;have iV:0<gs.size:=(ϛ.1 h0).1
 have nM:X.N0+i<gs.size:=(ϛ.1 hx).1
 obtain⟨qy,qz⟩:=MZ (a:=X.N0+i) (b:=0) (c:=X.cN) (s:=s) (r:=s) (cap:=0) (B:=w.heap.size) (N:=gs.size)
  (x1:={g:=X.N0+i,fn:=x.frame.fn,pos:=x.frame.place,act:=.send X.cN s}) (x2:={g:=0,fn:=y.frame.fn,pos:=y.frame.place,act:=.recv X.cN s 0})
  (x3:={g:=X.N0+i,fn:=x.frame.fn,pos:=x.frame.place,act:=.sendDone X.cN s}) (x4:={g:=0,fn:=y.frame.fn,pos:=y.frame.place,act:=.recvDone X.cN s}) ⟨rfl,rfl⟩ ⟨rfl,rfl⟩ ⟨rfl,rfl⟩ ⟨rfl,rfl⟩ h.wt.hN nM iV
 obtain⟨c1,c2,c3⟩:=Qs w X.cN 0 #[] χ (s+1) (s+1) χ;have iA:=h.wt.keep 0 _ rJ;have rS:=h.wt.keep _ _ ha;obtain⟨_,_,z1,_,_,eT⟩:=hR w iA;have Cv:=h.wt.mute (w':=w.setChan X.cN 0 #[] χ (s+1) (s+1) χ) qy c1 (λb _ hb=>c2 b hb) rfl rfl rfl
 have hw0:=eT i (by omega) hn Ac
 obtain⟨T0,va⟩:=(hw0.rely (Cv.keep 0 _ rJ|>λk=>(⟨by rw[c1];exact ϊ _,λb hb=>c2 b (h.wt.low 0 _ rJ b hb).2.2,rfl,rfl,rfl⟩:bR M0 w (w.setChan X.cN 0 #[] χ (s+1) (s+1) χ)))).tree
 obtain⟨Ti,Ij⟩:=(td.rely (⟨by rw[c1];exact ϊ _,λb hb=>c2 b (h.wt.low _ _ ha b hb).2.2,rfl,rfl,rfl⟩:bR M w (w.setChan X.cN 0 #[] χ (s+1) (s+1) χ))).tree
 have Fo:=(Cv.again rJ (ϧ y (ð θ (X.val i) θ))).again (g:=X.N0+i) (j:=⟨M,x,aR⟩) (by rw[ak _ _ (by omega)];exact ha) (ϧ x ω)
 refine⟨_,_,_,{G with st:=upd G.st i .jj,mp:=.walk f' (aD++ [i]),act:=ft (ft G.act 0 (φ ⟨M0,ϧ y (ð θ (X.val i) θ),w.setChan X.cN 0 #[] χ (s+1) (s+1) χ⟩)) (X.N0+i) (φ ⟨M,ϧ x ω,w.setChan X.cN 0 #[] χ (s+1) (s+1) χ⟩),tr:=upd (upd G.tr 0 T0) (X.N0+i) Ti},bh,?_,?_⟩
 ·refine h.AX (by simp) rfl rfl ?_ (λi' bG=>?_) ?_ (λi' bG=>?_) (λhc=>?_) (λg h1 h2=>⟨?_,rfl,?_⟩) (λg hg=>?_) ?_ ?_ (λ⟨_,_,e⟩=>by cases e) (λhr i' bG=>?_) (λ⟨_,_,e⟩=>by cases e) Fo ?_ ?_ ⟨by rw[c1];exact h.base.size,h.base.tape,h.base.os,h.base.e⟩ qz (λi' bG hq=>?_) rfl
  ·exact⟨λ_=>⟨_,_,.inr hp⟩,λ_=>⟨_,_,.inl rfl⟩⟩
  ·by_cases e:i'=i
   ·subst e;simp only[upd_same];rw[eW];simp
   ·simp only[upd_ne _ _ e]
  ·refine⟨ϧ y (ð θ (X.val i) θ),?_,?_⟩
   ·rw[ni,if_neg (by omega),if_pos ⟨rfl,iV⟩];rfl
   ·exact⟨M0,w.setChan X.cN 0 #[] χ (s+1) (s+1) χ,ϧ y (ð θ (X.val i) θ),by simp only[ak _ _ (show 0≠X.N0+i by omega),fY],rB.refl rfl,by simp only[upd_ne _ _ (show 0≠X.N0+i by omega),upd_same];exact va⟩
  ·by_cases e:i'=i
   ·subst e
    refine⟨ϧ x ω,?_,?_⟩
    ·rw[ni,if_pos ⟨rfl,nM⟩];rfl
    ·unfold WSit
     simp only[upd_same,fY];exact⟨M,_,rfl,rfl,Ij⟩
   ·obtain⟨y',fp,cI⟩:=h.wk i' bG
    refine⟨y',by rw[ni,if_neg (by omega),if_neg (by omega)];exact fp,?_⟩
    refine WSit.congr (G:=G) (by exact upd_ne _ _ e) ?_ ?_ (by exact rfl) cI
    ·simp only[ak _ _ (show X.N0+i'≠X.N0+i by omega),ak _ _ (show X.N0+i'≠0 by omega)]
    ·simp only[upd_ne _ _ (show X.N0+i'≠X.N0+i by omega),upd_ne _ _ (show X.N0+i'≠0 by omega)]
  ·obtain⟨y',fp,cI⟩:=h.cl hc
   refine⟨y',by rw[ni,if_neg (by omega),if_neg (by omega)];exact fp,?_⟩
   refine CSit.congr (G:=G) (by exact rfl) ?_ ?_ (by exact rfl) cI
   ·simp only[ak _ _ (show X.N0+X.n≠X.N0+i by omega),ak _ _ (show X.N0+X.n≠0 by omega)]
   ·simp only[upd_ne _ _ (show X.N0+X.n≠X.N0+i by omega),upd_ne _ _ (show X.N0+X.n≠0 by omega)]
  ·rw[ni,if_neg (by omega),if_neg (by omega)]
  ·simp only[ak _ _ (show g≠X.N0+i by omega),ak _ _ (show g≠0 by omega)]
   exact h.oX g h1 h2
  ·simp only[ak _ _ (show g≠X.N0+i by omega),ak _ _ (show g≠0 by omega)]
   exact h.nG g hg
  ·have hq:=CW G.st (show i<X.n by omega) .jj
   have e1:(G.st i).q=0:=by rw[eW];rfl
   have e2:WS.q .jj=0:=rfl;have dA:=h.cnt;unfold oq at dA |-
   simp only;rw[show sumTo X.n (λa=>(upd G.st i .jj a).q)=sumTo X.n (λa=>(G.st a).q) by omega]
   exact dA
  ·refine⟨List.nodup_append.2 ⟨g1,by simp,λa IB b hb=>?_⟩,by simp only[Ĉ,Af7];omega,λa=>?_⟩
   ·simp only[ā] at hb
    subst hb
    exactλe=>Ac (e▸IB)
   ·by_cases e:a=i
    ·subst e
     simp only[ĉ,ā,or_true,upd_same,true_iff];exact⟨by omega,hn,rfl⟩
    ·simp only[ĉ,ā,e,or_false,upd_ne _ _ e]
     exact g3 a
  ·by_cases e:i'=i
   ·subst e;simp only[upd_same];simp
   ·simp only[upd_ne _ _ e];exact h.yj hr i' bG
  ·obtain⟨s',e'⟩:=h.lU
   exact⟨s',by rw[c2 _ h.neq];exact e'⟩
  ·exact⟨s+1,by rw[c3 h.wt.hN];unfold Gh.closed at eV |-;simp only;rw[eV]⟩
  ·have oQ:G.st i'=.quit:=by
    by_cases e:i'=i
    ·subst e;simp only[upd_same] at hq;cases hq
    ·simp only[upd_ne _ _ e] at hq;exact hq
   exact(h.kq i' bG oQ).app λop ag _=>(qz op ag).1
 ·have hm:=CM G.st (show i<X.n by omega) .jj
  have e1:(G.st i).wt=5:=by rw[eW];rfl
  have e2:WS.wt .jj=3:=rfl;unfold Gh.mu;simp only[hp,MP.wt];omega
def FI.PZ(h:FI X wb gs w t G)(hi:i<X.n)(hs:G.st i≠ .quit):G.closed=χ:=by
 apply Û;intro hc;exact hs (h.G2 (by simpa using hc) i hi)
def Ps{w:Ψ}(c1:w'.heap.size=w.heap.size)(c2:∀b,b≠c->w'.heap[b]?=w.heap[b]?)(hM:∀b,M.has b->b≠c)(ht:w'.tape=w.tape)(ho:w'.os=w.os)(hp:w'.output=w.output):bR M w w':=
 ⟨by rw[c1];exact ϊ _,λb hb=>c2 b (hM b hb),ht,ho,hp⟩
def aoR(h:FI X wb gs w t G)(sl:Option (Nat×Nat))(hi:i<G.j)(eW:G.st i=.lj)(hx:gs[X.N0+i]?=φ x)(ha:G.act (X.N0+i)=φ ⟨M,x,aR⟩)
 (hn:X.cX i=θ)(hS:GC X X.cN (X.val i) (λM g w=>Walk X.P χ (W2 X) M g w) M x w)(hp:¬ ∃f aD,G.mp=.dp f aD):pz X wb gs w sl t G (X.N0+i):=by
 obtain⟨_,_,⟨z,dH⟩,td⟩:=hS;have kV:=h.n0;have sU:=h.jn;have eV:=h.PZ (show i<X.n by omega) (by rw[eW];simp)
 obtain⟨s,hc⟩:=h.lX;rw[eV] at hc;have nM:X.N0+i<gs.size:=(ϛ.1 hx).1
 have bh:=Afi (P:=X.P) (sl:=sl) hx (by rw[h.uO];exact dH) (λcc dg=>by
  simp only[ã,ā] at dg;subst dg;exact ways_send_none hc (ϊ _) (am1 h hp))
 rw[oW] at bh;refine⟨_,_,_,{G with st:=upd G.st i .jD,act:=ft G.act (X.N0+i) (φ ⟨M,x,w⟩)},bh,?_,?_⟩
 ·refine h.AX (by simp) rfl rfl Iff.rfl (λi' bG=>?_) ?_ (λi' bG=>?_) (λhc=>?_) (λg h1 h2=>⟨?_,rfl,?_⟩) (λg hg=>?_) ?_ ?_ (λe=>absurd e hp) (λhr i' bG=>?_) (λe=>absurd e hp) (by simp only[á];exact h.wt.again ha x) h.lU h.lX h.base (by simp) (λi' bG hq=>?_) rfl
  ·by_cases e:i'=i
   ·subst e;simp only[upd_same];rw[eW];simp
   ·simp only[upd_ne _ _ e]
  ·obtain⟨y,hy,hs⟩:=h.main
   refine⟨y,by rw[one_set,if_neg (by omega)];exact hy,?_⟩
   exact gD.congr (G:=G) (by exact rfl) (by exact rfl) (by simp only[ak _ _ (show 0≠X.N0+i by omega)]) (by exact rfl) hs
  ·by_cases e:i'=i
   ·subst e
    refine⟨Ó x #[ÿ X.cN (X.val i') z] .send,by rw[one_set,if_pos ⟨rfl,nM⟩],?_⟩
    unfold WSit;simp only[upd_same,fY];exact⟨M,w,x,z,rfl,rfl,hn,td⟩
   ·obtain⟨y',fp,cI⟩:=h.wk i' bG
    refine⟨y',by rw[one_set,if_neg (by omega)];exact fp,?_⟩
    exact WSit.congr (G:=G) (by exact upd_ne _ _ e) (by simp only[ak _ _ (show X.N0+i'≠X.N0+i by omega)]) (by exact rfl) (by exact rfl) cI
  ·obtain⟨y',fp,cI⟩:=h.cl hc
   refine⟨y',by rw[one_set,if_neg (by omega)];exact fp,?_⟩
   exact CSit.congr (G:=G) (by exact rfl) (by simp only[ak _ _ (show X.N0+X.n≠X.N0+i by omega)]) (by exact rfl) (by exact rfl) cI
  ·rw[one_set,if_neg (by omega)]
  ·simp only[ak _ _ (show g≠X.N0+i by omega)]
   exact h.oX g h1 h2
  ·simp only[ak _ _ (show g≠X.N0+i by omega)]
   exact h.nG g hg
  ·have hq:=CW G.st (show i<X.n by omega) .jD
   have e1:(G.st i).q=0:=by rw[eW];rfl
   have e2:WS.q .jD=0:=rfl;have dA:=h.cnt;unfold oq at dA |-
   simp only;rw[show sumTo X.n (λa=>(upd G.st i .jD a).q)=sumTo X.n (λa=>(G.st a).q) by omega]
   exact dA
  ·have cG:=h.aD
   unfold ou at cG |-
   simp only;have IT:∀a,(upd G.st i .jD a).il=(G.st a).il:=by
    intro a;by_cases e:a=i
    ·subst e;rw[upd_same,eW];rfl
    ·rw[upd_ne _ _ e]
   simp only[IT];exact cG
  ·by_cases e:i'=i
   ·subst e;simp only[upd_same];simp
   ·simp only[upd_ne _ _ e];exact h.yj hr i' bG
  ·rw[á]
   by_cases e:i'=i
   ·subst e;simp only[upd_same] at hq;cases hq
   ·simp only[upd_ne _ _ e] at hq;exact h.kq i' bG hq
 ·have hm:=CM G.st (show i<X.n by omega) .jD
  have e1:(G.st i).wt=5:=by rw[eW];rfl
  have e2:WS.wt .jD=4:=rfl;unfold Gh.mu;simp only;omega
def yM(X:Pm)(G:Gh)(i:Nat):Prop:=G.st i=.jj\/(G.st i=.lj/\X.cX i=χ)
def yM.facts(h:yM X G i):(G.st i).q=0/\3<=(G.st i).wt/\G.st i≠ .no/\G.st i≠ .quit/\∀s:WS,s.il=θ->(X.cX i=θ/\(G.st i).il=θ↔X.cX i=θ/\s.il=θ):=by
 rcases h with h| ⟨h,hn⟩<;>rw[h]
 ·exact⟨rfl,ϊ _,by simp,by simp,λs hs=>by rw[hs];exact Iff.rfl⟩
 ·refine⟨rfl,by decide,by simp,by simp,λs hs=>by simp[hn]⟩
def agn(h:FI X wb gs w t G)(hd:yM X G i){s:WS}(hs:s.il=θ):ou X {G with st:=upd G.st i s}:=by
 have cG:=h.aD;obtain⟨_,_,_,_,hf⟩:=hd.facts;have key:∀a,(X.cX a=θ/\(upd G.st i s a).il=θ)↔(X.cX a=θ/\(G.st a).il=θ):=by
  intro a;by_cases e:a=i
  ·subst e;rw[upd_same];exact(hf s hs).symm
  ·rw[upd_ne _ _ e]
 unfold ou at cG |-
 simp only;cases hm:G.mp with
 |spawn=>
  rw[hm] at cG;intro a ha xK;have h1:=cG a ha xK;cases hp:(upd G.st i s a).il with
  |false=>rfl
  |true=>have:=(key a).1 ⟨xK,hp⟩;rw[h1] at this;exact absurd this.2 (by simp)
 |walk f aD=>
  rw[hm] at cG;exact⟨cG.1,cG.2.1,λa=>by rw[cG.2.2 a];exact and_congr_right λ_=>(key a).symm⟩
 |dp f aD=>
  rw[hm] at cG;exact⟨cG.1,cG.2.1,λa=>by rw[cG.2.2 a];exact and_congr_right λ_=>(key a).symm⟩
def aoP(h:FI X wb gs w t G)(sl:Option (Nat×Nat))(hi:i<G.j)(eW:yM X G i)(hx:gs[X.N0+i]?=φ x)(ha:G.act (X.N0+i)=φ ⟨M,x,aR⟩)
 (hS:W2 X M x w)(hp:¬ ∃r,G.cp=.dp r):pz X wb gs w sl t G (X.N0+i):=by
 obtain⟨_,_,⟨z,dH⟩,td⟩:=hS;have kV:=h.n0;have sU:=h.jn;obtain⟨f1,f2,f3,f4,f5⟩:=eW.facts;obtain⟨s,hc⟩:=h.lU;have nM:X.N0+i<gs.size:=(ϛ.1 hx).1
 have bh:=Afi (P:=X.P) (sl:=sl) hx (by rw[h.uO];exact dH) (λcc dg=>by
  simp only[ã,ā] at dg;subst dg;exact ways_send_none hc (ϊ _) (amZ h hp))
 rw[oW] at bh;refine⟨_,_,_,{G with st:=upd G.st i .jg,act:=ft G.act (X.N0+i) (φ ⟨M,x,w⟩)},bh,?_,?_⟩
 ·refine h.AX (by simp) rfl rfl Iff.rfl (λi' bG=>?_) ?_ (λi' bG=>?_) (λhc=>?_) (λg h1 h2=>⟨?_,rfl,?_⟩) (λg hg=>?_) ?_ (agn h eW rfl) (λe i' bG=>?_) (λhr i' bG=>absurd hr hp) (λe=>h.AN e) (by simp only[á];exact h.wt.again ha x) h.lU h.lX h.base (by simp) (λi' bG hq=>?_) rfl
  ·by_cases e:i'=i
   ·subst e;simp only[upd_same];simp[f3]
   ·simp only[upd_ne _ _ e]
  ·obtain⟨y,hy,hs⟩:=h.main
   refine⟨y,by rw[one_set,if_neg (by omega)];exact hy,?_⟩
   exact gD.congr (G:=G) (by exact rfl) (by exact rfl) (by simp only[ak _ _ (show 0≠X.N0+i by omega)]) (by exact rfl) hs
  ·by_cases e:i'=i
   ·subst e
    refine⟨Ó x #[ÿ X.cL (.bool θ) z] .send,by rw[one_set,if_pos ⟨rfl,nM⟩],?_⟩
    unfold WSit;simp only[upd_same,fY];exact⟨M,w,x,z,rfl,rfl,td⟩
   ·obtain⟨y',fp,cI⟩:=h.wk i' bG
    refine⟨y',by rw[one_set,if_neg (by omega)];exact fp,?_⟩
    exact WSit.congr (G:=G) (by exact upd_ne _ _ e) (by simp only[ak _ _ (show X.N0+i'≠X.N0+i by omega)]) (by exact rfl) (by exact rfl) cI
  ·obtain⟨y',fp,cI⟩:=h.cl hc
   refine⟨y',by rw[one_set,if_neg (by omega)];exact fp,?_⟩
   exact CSit.congr (G:=G) (by exact rfl) (by simp only[ak _ _ (show X.N0+X.n≠X.N0+i by omega)]) (by exact rfl) (by exact rfl) cI
  ·rw[one_set,if_neg (by omega)]
  ·simp only[ak _ _ (show g≠X.N0+i by omega)]
   exact h.oX g h1 h2
  ·simp only[ak _ _ (show g≠X.N0+i by omega)]
   exact h.nG g hg
  ·have hq:=CW G.st (show i<X.n by omega) .jg
   have e2:WS.q .jg=0:=rfl;have dA:=h.cnt;unfold oq at dA |-
   simp only;rw[show sumTo X.n (λa=>(upd G.st i .jg a).q)=sumTo X.n (λa=>(G.st a).q) by omega]
   exact dA
  ·by_cases e2:i'=i
   ·subst e2;simp only[upd_same];simp
   ·simp only[upd_ne _ _ e2];exact h.nV e i' bG
  ·rw[á]
   by_cases e:i'=i
   ·subst e;simp only[upd_same] at hq;cases hq
   ·simp only[upd_ne _ _ e] at hq;exact h.kq i' bG hq
 ·have hm:=CM G.st (show i<X.n by omega) .jg
  have e2:WS.wt .jg=2:=rfl;unfold Gh.mu;simp only;omega
def heard(h:FI X wb gs w t G)(d:Nat)(hi:i<G.j)(EX:G.st i≠ .quit)(EU:G.st i≠ .no)(IT:∀a,(X.cX a=θ/\(upd G.st i .quit a).il=θ)↔(X.cX a=θ/\(G.st a).il=θ))
 (qt:G.cp=.dp (r+1)\/G.cp=.walk (r+1)){Mc:ay}{xg yg:ϐ}{xw yw:Ψ}(ha:G.act (X.N0+i)=φ ⟨M,xg,xw⟩)(Eo:G.act (X.N0+X.n)=φ ⟨Mc,yg,yw⟩)
 (hq:Ĥ X.P m x)(hy:y.status=.running)(hw:Walk X.P χ (rC X r) Mc y w){s:Nat}(hs:w.heap[X.cL]?=φ (.chan 0 #[] χ s s χ))
 (h1:x1.g=X.N0+i/\x1.act=.send X.cL s)(h2:x2.g=X.N0+X.n/\x2.act=.recv X.cL s 0)(h3:x3.g=X.N0+i/\x3.act=.sendDone X.cL s)(h4:x4.g=X.N0+X.n/\x4.act=.recvDone X.cL s)
 {aY:Array ϐ}(aN:aY.size=gs.size)(Vh:aY[X.N0+i]?=φ x)(Vi:aY[X.N0+X.n]?=φ y)(hgo:∀k,k≠X.N0+i->k≠X.N0+X.n->aY[k]?=gs[k]?):
 ∃G',FI X wb aY ((w.at d).setChan X.cL 0 #[] χ (s+1) (s+1) χ) (t++#[x1,x2,x3,x4]) G'/\G'.mu X<G.mu X:=by
 have kV:=h.n0;have sU:=h.jn;have br:G.cp.ik=χ:=by rcases qt with e|e<;>rw[e]<;>rfl
 have qu:=h.jc br;have eV:=h.PZ (show i<X.n by omega) EX
 have nM:X.N0+i<gs.size:=by rw[<-aN];exact(ϛ.1 Vh).1
 have vq:X.N0+X.n<gs.size:=by rw[<-aN];exact(ϛ.1 Vi).1
 obtain⟨qy,qz⟩:=MZ (a:=X.N0+i) (b:=X.N0+X.n) (c:=X.cL) (s:=s) (r:=s) (cap:=0) (B:=w.heap.size) (N:=gs.size) h1 h2 h3 h4 h.wt.hL nM vq;obtain⟨c1,c2,c3⟩:=Qs (w.at d) X.cL 0 #[] χ (s+1) (s+1) χ;have Cv:=h.wt.mute (w':=(w.at d).setChan X.cL 0 #[] χ (s+1) (s+1) χ) qy c1 (λb hb _=>c2 b hb) rfl rfl rfl
 obtain⟨Tc,Em⟩:=(hw.rely (Ps (w':=(w.at d).setChan X.cL 0 #[] χ (s+1) (s+1) χ) c1 c2 (λb hb=>(h.wt.low _ _ Eo b hb).2.1) rfl rfl rfl)).tree
 have aw:X.N0+X.n≠X.N0+i:=by omega
 have Fo:=(Cv.again Eo y).drop (X.N0+i);refine⟨{G with st:=upd G.st i .quit,cp:=.walk r,act:=ft (ft G.act (X.N0+X.n) (φ ⟨Mc,y,(w.at d).setChan X.cL 0 #[] χ (s+1) (s+1) χ⟩)) (X.N0+i) ν,q:=upd G.q (X.N0+i) m,tr:=upd G.tr (X.N0+X.n) Tc},?_,?_⟩
 ·refine h.AX aN rfl br.symm Iff.rfl (λi' bG=>?_) ?_ (λi' bG=>?_) (λhc=>?_) (λg h1 h2=>⟨hgo g (by omega) (by omega),upd_ne _ _ (by omega),?_⟩) (λg hg=>?_) ?_ ?_ (λe i' bG=>?_) (λ⟨_,e⟩=>by cases e) (λ_=>rfl) Fo ?_ ?_ ⟨by rw[c1];exact h.base.size,h.base.tape,h.base.os,h.base.e⟩ qz (λi' bG hq=>?_) ?_
  ·by_cases e:i'=i
   ·subst e;simp only[upd_same];simp[EU]
   ·simp only[upd_ne _ _ e]
  ·obtain⟨z,hz,aN⟩:=h.main
   refine⟨z,by rw[hgo 0 (by omega) (by omega)];exact hz,?_⟩
   exact gD.congr (G:=G) (by exact rfl) (by exact rfl) (by simp only[ak _ _ (show 0≠X.N0+i by omega),ak _ _ (show 0≠X.N0+X.n by omega)]) (by simp only[upd_ne _ _ (show 0≠X.N0+X.n by omega)]) aN
  ·by_cases e:i'=i
   ·subst e
    refine⟨x,Vh,?_⟩
    unfold WSit;simp only[upd_same,fY];exact⟨trivial,hq⟩
   ·obtain⟨y',fp,cI⟩:=h.wk i' bG
    refine⟨y',by rw[hgo _ (by omega) (by omega)];exact fp,?_⟩
    exact WSit.congr (G:=G) (by exact upd_ne _ _ e) (by simp only[ak _ _ (show X.N0+i'≠X.N0+i by omega),ak _ _ (show X.N0+i'≠X.N0+X.n by omega)]) (by simp only[upd_ne _ _ (show X.N0+i'≠X.N0+X.n by omega)]) (by simp only[upd_ne _ _ (show X.N0+i'≠X.N0+i by omega)]) cI
  ·refine⟨y,Vi,?_⟩
   unfold CSit;simp only[ak _ _ aw,fY,upd_same];exact⟨Mc,_,rfl,hy,Em⟩
  ·simp only[ak _ _ (show g≠X.N0+i by omega),ak _ _ (show g≠X.N0+X.n by omega)]
   exact h.oX g h1 h2
  ·simp only[ak _ _ (show g≠X.N0+i by omega),ak _ _ (show g≠X.N0+X.n by omega)]
   exact h.nG g hg
  ·have hqs:=CW G.st (show i<X.n by omega) .quit
   have e1:(G.st i).q=0:=by unfold WS.q;rw[if_neg EX]
   have e2:WS.q .quit=1:=rfl;have dA:=h.cnt;have ar3:(r+1)+sumTo X.n (λa=>(G.st a).q)=X.n:=by
    unfold oq at dA;rcases qt with e|e<;>rw[e] at dA<;>exact dA
   show r+sumTo X.n (λa=>(upd G.st i .quit a).q)=X.n
   omega
  ·have cG:=h.aD
   unfold ou at cG |-
   simp only;cases hmm:G.mp with
   |spawn=>exact absurd (h.mc.2 br) (by rw[hmm];rintro⟨_,_,e|e⟩<;>cases e)
   |walk f aD=>
    rw[hmm] at cG;exact⟨cG.1,cG.2.1,λa=>by rw[cG.2.2 a];exact and_congr_right λ_=>(IT a).symm⟩
   |dp f aD=>
    rw[hmm] at cG;exact⟨cG.1,cG.2.1,λa=>by rw[cG.2.2 a];exact and_congr_right λ_=>(IT a).symm⟩
  ·by_cases e2:i'=i
   ·subst e2;simp only[upd_same];simp
   ·simp only[upd_ne _ _ e2];exact h.nV e i' bG
  ·exact⟨s+1,c3 h.wt.hL⟩
  ·obtain⟨s',e'⟩:=h.lX
   rw[eV] at e';exact⟨s',by rw[c2 _ (ϸ h.neq)];exact e'⟩
  ·by_cases e:i'=i
   ·subst e
    intro k a xG hg;obtain⟨op,ag,cH⟩:=ē xG;rcases ö ag with⟨_,bL⟩ | ⟨_,dW⟩
    ·have hk:Knows t (X.N0+i') k:=uM.self t (X.N0+i') k a (by rw[ĝ bL];exact cH) (by simpa [Õ,ag,bL] using hg)
     exact ahb h.wt.nd h1 h2 h3 h4 hk
    ·rw[(qz op dW).1] at cH;cases cH
   ·simp only[upd_ne _ _ e] at hq
    exact(h.kq i' bG hq).app λop ag _=>(qz op ag).1
  ·rw[eV];rfl
 ·have hm:=CM G.st (show i<X.n by omega) .quit
  have e2:WS.wt .quit=0:=rfl;unfold Gh.mu;simp only;rcases qt with e|e<;>rw[e]<;>simp only[CP.wt]<;>omega
def XX(h:yM X G i\/G.st i=.jg):∀a,(X.cX a=θ/\(upd G.st i .quit a).il=θ)↔(X.cX a=θ/\(G.st a).il=θ):=by
 intro a;by_cases e:a=i
 ·subst e
  rw[upd_same];rcases h with h|h
  ·exact(h.facts.2.2.2.2 .quit rfl).symm
  ·rw[h];exact Iff.rfl
 ·rw[upd_ne _ _ e]
def aoO(h:FI X wb gs w t G)(sl:Option (Nat×Nat))(hi:i<G.j)(eW:yM X G i)(hx:gs[X.N0+i]?=φ x)(ha:G.act (X.N0+i)=φ ⟨M,x,aR⟩)
 (hS:W2 X M x w)(hp:G.cp=.dp r):pz X wb gs w sl t G (X.N0+i):=by
 obtain⟨_,_,⟨z,dH⟩,m,hq⟩:=hS;have kV:=h.n0;have sU:=h.jn;have br:G.cp.ik=χ:=by rw[hp];rfl
 have qu:=h.jc br;obtain⟨f1,f2,f3,f4,f5⟩:=eW.facts;obtain⟨y0,h0,ef⟩:=h.cl br;unfold CSit at ef;rw[hp] at ef;obtain⟨r',Mc,v0,y,z0,rfl,Eo,rfl,hW⟩:=ef;obtain⟨s,hc⟩:=h.lU;have bh:=crowd_send_meets (P:=X.P) (sl:=sl) hx (by rw[h.uO];exact dH) hc (show X.N0+X.n≠X.N0+i by omega) h0 (am0 h (by omega) h0)
 rw[oW,Aem] at bh;have vq:X.N0+X.n<gs.size:=(ϛ.1 h0).1
 have nM:X.N0+i<gs.size:=(ϛ.1 hx).1
 obtain⟨G',hF,nN⟩:=heard h w.drawn hi f4 f3 (XX (.inl eW)) (.inl hp) ha Eo hq (YC y (ð χ (.bool θ) θ)) (hW.rely (h.wt.keep _ _ Eo)) hc
  (x1:={g:=X.N0+i,fn:=x.frame.fn,pos:=x.frame.place,act:=.send X.cL s}) (x2:={g:=X.N0+X.n,fn:=y.frame.fn,pos:=y.frame.place,act:=.recv X.cL s 0})
  (x3:={g:=X.N0+i,fn:=x.frame.fn,pos:=x.frame.place,act:=.sendDone X.cL s}) (x4:={g:=X.N0+X.n,fn:=y.frame.fn,pos:=y.frame.place,act:=.recvDone X.cL s}) ⟨rfl,rfl⟩ ⟨rfl,rfl⟩ ⟨rfl,rfl⟩ ⟨rfl,rfl⟩
  (aY:=(gs.setIfInBounds (X.N0+X.n) (ϧ y (ð χ (.bool θ) θ))).setIfInBounds (X.N0+i) (ϧ x ω)) (by simp) (by rw[ni,if_pos ⟨rfl,nM⟩]) (by rw[ni,if_neg (by omega),if_pos ⟨rfl,vq⟩]) (λk h1 h2=>by rw[ni,if_neg (λe=>h1 e.1),if_neg (λe=>h2 e.1)])
 exact⟨_,_,_,G',bh,hF,nN⟩
def ank(h:FI X wb gs w t G)(sl:Option (Nat×Nat))(hp:G.cp=.walk (r+1))(hx:gs[X.N0+X.n]?=φ x)(ha:G.act (X.N0+X.n)=φ ⟨M,x,aR⟩)
 (hS:rC X (r+1) M x w)(hex:∃i,i<X.n/\G.st i=.jg):pz X wb gs w sl t G (X.N0+X.n):=by
 obtain⟨_,_,⟨z,dH⟩,hW⟩:=hS;have kV:=h.n0;have br:G.cp.ik=χ:=by rw[hp];rfl
 have qu:=h.jc br;obtain⟨s,hc⟩:=h.lU;have NI:(X.N0+X.n==0)=χ:=h.uO X.n;have aw:Ĝ (gs.setIfInBounds (X.N0+X.n) ph) X.cL θ≠ []:=by
  obtain⟨i,hi,eW⟩:=hex;obtain⟨y,hy,hs⟩:=h.wk i (by omega)
  unfold WSit at hs;rw[eW] at hs;obtain⟨Mi,wi,y',z',_,hyp,_⟩:=hs;have:(X.N0+i,0)∈Ĝ (gs.setIfInBounds (X.N0+X.n) ph) X.cL θ:=mem_partners.2 ⟨y,stand_get (by omega) hy,by rw[hyp,ż,if_pos rfl];simp⟩
  exact List.ne_nil_of_mem this
 have eT:∀j k,(j,k)∈Ĝ (gs.setIfInBounds (X.N0+X.n) ph) X.cL θ->k=0/\j≠X.N0+X.n/\∃gj vj zj Gd,gs[j]?=φ (Ó gj #[ÿ X.cL vj zj] Gd):=by
  intro j k hm;obtain⟨y,hy,hk⟩:=mem_partners.1 hm;rcases ń gs _ j y hy with⟨_,rfl⟩ | ⟨hj,hy⟩
  ·rw[Ņ] at hk;cases hk
  ·obtain⟨e,g,v,z,hyp⟩:=XN h hy hk
   exact⟨e,hj,g,v,z,.send,by rw[hy,hyp]⟩
 obtain⟨j,gj,vj,zj,Gd,d,hj,EF,bh⟩:=crowd_recv_meets_some (P:=X.P) (sl:=sl) hx (by rw[NI];exact dH) hc aw eT
 rw[oW,Aem] at bh;obtain⟨i,Mi,wi,yi,hi,rfl,eW,rfl,rfl,Il,nQ,m,hq⟩:=h.SJ EF;have vq:X.N0+X.n<gs.size:=(ϛ.1 hx).1
 have nM:X.N0+i<gs.size:=(ϛ.1 EF).1
 obtain⟨G',hF,nN⟩:=heard h d hi (by rw[eW];simp) (by rw[eW];simp) (XX (.inr eW)) (.inr hp) Il ha (x:=ϧ gj ω) (by rw[nQ];exact hq) (YC x (ð χ (.bool θ) θ)) hW hc
  (x1:={g:=X.N0+i,fn:=gj.frame.fn,pos:=gj.frame.place,act:=.send X.cL s}) (x2:={g:=X.N0+X.n,fn:=x.frame.fn,pos:=x.frame.place,act:=.recv X.cL s 0})
  (x3:={g:=X.N0+i,fn:=gj.frame.fn,pos:=gj.frame.place,act:=.sendDone X.cL s}) (x4:={g:=X.N0+X.n,fn:=x.frame.fn,pos:=x.frame.place,act:=.recvDone X.cL s}) ⟨rfl,rfl⟩ ⟨rfl,rfl⟩ ⟨rfl,rfl⟩ ⟨rfl,rfl⟩
  (aY:=(gs.setIfInBounds (X.N0+i) (ϧ gj ω)).setIfInBounds (X.N0+X.n) (ϧ x (ð χ (.bool θ) θ))) (by simp) (by rw[ni,if_neg (by omega),if_pos ⟨rfl,nM⟩]) (by rw[ni,if_pos ⟨rfl,vq⟩]) (λk h1 h2=>by rw[ni,if_neg (λe=>h2 e.1),if_neg (λe=>h1 e.1)])
 exact⟨_,_,_,G',bh,hF,nN⟩
def anl(h:FI X wb gs w t G)(sl:Option (Nat×Nat))(hp:G.cp=.walk (r+1))(hx:gs[X.N0+X.n]?=φ x)(ha:G.act (X.N0+X.n)=φ ⟨M,x,aR⟩)
 (hS:rC X (r+1) M x w)(hex:¬ ∃i,i<X.n/\G.st i=.jg):pz X wb gs w sl t G (X.N0+X.n):=by
 obtain⟨_,_,⟨z,dH⟩,hW⟩:=hS;have kV:=h.n0;have br:G.cp.ik=χ:=by rw[hp];rfl
 have qu:=h.jc br;obtain⟨s,hc⟩:=h.lU;have NI:(X.N0+X.n==0)=χ:=h.uO X.n;have eV:G.closed=χ:=by unfold Gh.closed;rw[hp]
 have Ad:Ĝ (gs.setIfInBounds (X.N0+X.n) ph) X.cL θ=[]:=by
  refine Afg λj y hy=>?_
  rcases ń gs _ j y hy with⟨_,rfl⟩ | ⟨hj,hy⟩
  ·exact Ņ _ _
  ·cases hl:Ŧ y X.cL θ with
   |nil=>rfl
   |cons a l=>
    exfalso;obtain⟨e,g,v,z',hyp⟩:=XN h (m:=a) hy (by rw[hl];simp)
    rw[hyp] at hy;obtain⟨i,_,_,_,hi,_,eW,_⟩:=h.SJ hy;exact hex ⟨i,by omega,eW⟩
 have bh:=Afi (P:=X.P) (sl:=sl) hx (by rw[NI];exact dH) (λcc dg=>by
  simp only[ã,ā] at dg;subst dg;exact ways_recv_none hc Ad)
 rw[oW] at bh;have vq:X.N0+X.n<gs.size:=(ϛ.1 hx).1
 refine⟨_,_,_,{G with cp:=.dp (r+1),act:=ft G.act (X.N0+X.n) (φ ⟨M,x,w⟩)},bh,?_,?_⟩
 ·refine h.AX (by simp) rfl br.symm Iff.rfl (λi' bG=>Iff.rfl) ?_ (λi' bG=>?_) (λhc=>?_) (λg h1 h2=>⟨?_,rfl,?_⟩) (λg hg=>?_) ?_ h.aD (λe=>h.nV e) (λ_ i' bG eW=>hex ⟨i',bG,eW⟩) (λ_=>rfl) (by simp only[á];exact h.wt.again ha x) h.lU (by obtain⟨s',e⟩:=h.lX;rw[eV] at e;exact⟨s',e⟩) h.base (by simp) (λi' bG hq=>by rw[á];exact h.kq i' bG hq) (by rw[eV];rfl)
  ·obtain⟨y,hy,hs⟩:=h.main
   refine⟨y,by rw[one_set,if_neg (by omega)];exact hy,?_⟩
   exact gD.congr (G:=G) (by exact rfl) (by exact rfl) (by simp only[ak _ _ (show 0≠X.N0+X.n by omega)]) (by exact rfl) hs
  ·obtain⟨y',fp,cI⟩:=h.wk i' bG
   refine⟨y',by rw[one_set,if_neg (by omega)];exact fp,?_⟩
   exact WSit.congr (G:=G) (by exact rfl) (by simp only[ak _ _ (show X.N0+i'≠X.N0+X.n by omega)]) (by exact rfl) (by exact rfl) cI
  ·refine⟨Ó x #[â X.cL z] (.recv χ),by rw[one_set,if_pos ⟨rfl,vq⟩],?_⟩
   unfold CSit;simp only[fY];exact⟨r,M,w,x,z,rfl,rfl,rfl,hW⟩
  ·rw[one_set,if_neg (by omega)]
  ·simp only[ak _ _ (show g≠X.N0+X.n by omega)]
   exact h.oX g h1 h2
  ·simp only[ak _ _ (show g≠X.N0+X.n by omega)]
   exact h.nG g hg
  ·have dA:=h.cnt
   unfold oq at dA |-
   rw[hp] at dA;exact dA
 ·unfold Gh.mu
  simp only[hp,CP.wt];omega
def ann(h:FI X wb gs w t G)(sl:Option (Nat×Nat))(hp:G.mp=.walk f aD)(hx:gs[0]?=φ x)(ha:G.act 0=φ ⟨M,y,aR⟩)(iY:rB x y)
 (hS:∀aa,bR M aR aa->oB X f aD M y aa)(eV:G.closed=χ)(hex:¬ ∃i,i<X.n/\G.st i=.jD):pz X wb gs w sl t G 0:=by
 obtain⟨_,_,z,dH,_⟩:=(hS w (h.wt.keep _ _ ha)).at;have kV:=h.n0;have sU:=h.jn;obtain⟨s,hc⟩:=h.lX;rw[eV] at hc;have Ad:Ĝ (gs.setIfInBounds 0 ph) X.cN θ=[]:=by
  refine Afg λj y hy=>?_
  rcases ń gs _ j y hy with⟨_,rfl⟩ | ⟨hj,hy⟩
  ·exact Ņ _ _
  ·cases hl:Ŧ y X.cN θ with
   |nil=>rfl
   |cons a l=>
    exfalso;obtain⟨e,g,v,z',hyp⟩:=P0 h (m:=a) hy (by rw[hl];simp)
    rw[hyp] at hy;obtain⟨i,_,_,_,hi,_,eW,_⟩:=h.Md hy;exact hex ⟨i,by omega,eW⟩
 have qI:Ϙ X.P (0==0) x w=.comm y #[â X.cN z] θ (.recv θ) w #[]:=by
  rw[Afj iY.1 iY.2.1 iY.2.2.1];exact dH
 have bh:=Afi (P:=X.P) (sl:=sl) hx qI (λcc dg=>by
  simp only[ã,ā] at dg;subst dg;exact ways_recv_none hc Ad)
 rw[oW] at bh;have iV:0<gs.size:=(ϛ.1 hx).1
 refine⟨_,_,_,{G with mp:=.dp f aD},bh,?_,?_⟩
 ·refine h.AX (by simp) rfl rfl ⟨λ_=>⟨_,_,.inl hp⟩,λ_=>⟨_,_,.inr rfl⟩⟩ (λi' bG=>Iff.rfl) ?_ (λi' bG=>?_) (λhc=>?_) (λg h1 h2=>⟨?_,rfl,h.oX g h1 h2⟩) h.nG h.cnt ?_ (λ_ i' bG e=>hex ⟨i',bG,e⟩) (λe=>h.yj e) (λ_=>eV) (by simp only[á];exact h.wt) h.lU h.lX h.base (by simp) (λi' bG hq=>by rw[á];exact h.kq i' bG hq) rfl
  ·refine⟨Ó y #[â X.cN z] (.recv θ),by rw[one_set,if_pos ⟨rfl,iV⟩],?_⟩
   unfold gD;exact⟨M,aR,y,z,ha,rfl,hS⟩
  ·obtain⟨y',fp,cI⟩:=h.wk i' bG
   exact⟨y',by rw[one_set,if_neg (by omega)];exact fp,WSit.congr (G:=G) (by exact rfl) (by exact rfl) (by exact rfl) (by exact rfl) cI⟩
  ·obtain⟨y',fp,cI⟩:=h.cl hc
   exact⟨y',by rw[one_set,if_neg (by omega)];exact fp,CSit.congr (G:=G) (by exact rfl) (by exact rfl) (by exact rfl) (by exact rfl) cI⟩
  ·rw[one_set,if_neg (by omega)]
  ·have cG:=h.aD
   unfold ou at cG |-
   rw[hp] at cG;exact cG
 ·unfold Gh.mu
  simp only[hp,MP.wt];omega
def anm(h:FI X wb gs w t G)(sl:Option (Nat×Nat))(hp:G.mp=.walk f aD){M0:ay}(h0:gs[0]?=φ x)(rJ:G.act 0=φ ⟨M0,y,v0⟩)(iY:rB x y)
 (hR:∀aa,bR M0 v0 aa->oB X f aD M0 y aa)(hex:∃i,i<X.n/\G.st i=.jD):pz X wb gs w sl t G 0:=by
 have kV:=h.n0;have sU:=h.jn;have cG:=h.aD;unfold ou at cG;rw[hp] at cG;obtain⟨g1,g2,g3⟩:=cG;have eV:G.closed=χ:=by
  obtain⟨i,hi,eW⟩:=hex;exact h.PZ hi (by rw[eW];simp)
 obtain⟨s,hc⟩:=h.lX;rw[eV] at hc;have aw:Ĝ (gs.setIfInBounds 0 ph) X.cN θ≠ []:=by
  obtain⟨i,hi,eW⟩:=hex;obtain⟨y,hy,hs⟩:=h.wk i (h.Xr hi (by rw[eW];simp))
  unfold WSit at hs;rw[eW] at hs;obtain⟨Mi,wi,y',z',_,hyp,_⟩:=hs;have:(X.N0+i,0)∈Ĝ (gs.setIfInBounds 0 ph) X.cN θ:=mem_partners.2 ⟨y,stand_get (by omega) hy,by rw[hyp,ż,if_pos rfl];simp⟩
  exact List.ne_nil_of_mem this
 have eT:∀j k,(j,k)∈Ĝ (gs.setIfInBounds 0 ph) X.cN θ->k=0/\j≠0/\∃gj vj zj Gd,gs[j]?=φ (Ó gj #[ÿ X.cN vj zj] Gd):=by
  intro j k hm;obtain⟨y,hy,hk⟩:=mem_partners.1 hm;rcases ń gs _ j y hy with⟨_,rfl⟩ | ⟨hj,hy⟩
  ·rw[Ņ] at hk;cases hk
  ·obtain⟨e,g,v,z,hyp⟩:=P0 h hy hk
   exact⟨e,hj,g,v,z,.send,by rw[hy,hyp]⟩
 obtain⟨_,_,z,dH,_⟩:=(hR w (h.wt.keep _ _ rJ)).at;have qI:Ϙ X.P (0==0) x w=.comm y #[â X.cN z] θ (.recv θ) w #[]:=by
  rw[Afj iY.1 iY.2.1 iY.2.2.1];exact dH
 obtain⟨j,gj,vj,zj,Gd,d,hj,EF,bh⟩:=crowd_recv_meets_some (P:=X.P) (sl:=sl) h0 qI hc aw eT;rw[oW,Aem] at bh;obtain⟨i,M,aR,yi,hi,rfl,eW,rfl,rfl,hn,ha,nQ,td⟩:=h.Md EF;have Ac:i ∉ aD:=λe=>by have:=((g3 i).1 e).2.2;rw[eW] at this;cases this
 obtain⟨f',rfl⟩:∃f',f=f'+1:=by
  have h1:=CN X.n (i::aD) (List.nodup_cons.2 ⟨Ac,g1⟩) λa ha=>by
   rcases Ϧ.1 ha with rfl|ha
   ·omega
   ·exact((g3 a).1 ha).1
  simp only[Ă] at h1;exact⟨f - 1,by omega⟩
 have iV:0<gs.size:=(ϛ.1 h0).1
 have nM:X.N0+i<gs.size:=(ϛ.1 EF).1
 obtain⟨qy,qz⟩:=MZ (a:=X.N0+i) (b:=0) (c:=X.cN) (s:=s) (r:=s) (cap:=0) (B:=w.heap.size) (N:=gs.size)
  (x1:={g:=X.N0+i,fn:=gj.frame.fn,pos:=gj.frame.place,act:=.send X.cN s}) (x2:={g:=0,fn:=y.frame.fn,pos:=y.frame.place,act:=.recv X.cN s 0})
  (x3:={g:=X.N0+i,fn:=gj.frame.fn,pos:=gj.frame.place,act:=.sendDone X.cN s}) (x4:={g:=0,fn:=y.frame.fn,pos:=y.frame.place,act:=.recvDone X.cN s}) ⟨rfl,rfl⟩ ⟨rfl,rfl⟩ ⟨rfl,rfl⟩ ⟨rfl,rfl⟩ h.wt.hN nM iV
 obtain⟨c1,c2,c3⟩:=Qs (w.at d) X.cN 0 #[] χ (s+1) (s+1) χ;obtain⟨_,_,z1,_,_,aha⟩:=hR w (h.wt.keep _ _ rJ);have Cv:=h.wt.mute (w':=(w.at d).setChan X.cN 0 #[] χ (s+1) (s+1) χ) qy c1 (λb _ hb=>c2 b hb) rfl rfl rfl
 obtain⟨T0,va⟩:=((aha i (by omega) hn Ac).rely (Ps (w':=(w.at d).setChan X.cN 0 #[] χ (s+1) (s+1) χ) c1 c2 (λb hb=>(h.wt.low 0 _ rJ b hb).2.2) rfl rfl rfl)).tree
 obtain⟨Ti,Ij⟩:=((td.rely (h.wt.keep _ _ ha)).rely (Ps (w':=(w.at d).setChan X.cN 0 #[] χ (s+1) (s+1) χ) c1 c2 (λb hb=>(h.wt.low _ _ ha b hb).2.2) rfl rfl rfl)).tree
 rw[<-nQ] at Ij;have Fo:=(Cv.again rJ (ϧ y (ð θ (X.val i) θ))).again (g:=X.N0+i) (j:=⟨M,yi,aR⟩) (by rw[ak _ _ (by omega)];exact ha) (ϧ gj ω)
 refine⟨_,_,_,{G with st:=upd G.st i .jj,mp:=.walk f' (aD++ [i]),act:=ft (ft G.act 0 (φ ⟨M0,ϧ y (ð θ (X.val i) θ),(w.at d).setChan X.cN 0 #[] χ (s+1) (s+1) χ⟩)) (X.N0+i) (φ ⟨M,ϧ gj ω,(w.at d).setChan X.cN 0 #[] χ (s+1) (s+1) χ⟩),tr:=upd (upd G.tr 0 T0) (X.N0+i) Ti},bh,?_,?_⟩
 ·refine h.AX (by simp) rfl rfl ?_ (λi' bG=>?_) ?_ (λi' bG=>?_) (λhc=>?_) (λg h1 h2=>⟨?_,rfl,?_⟩) (λg hg=>?_) ?_ ?_ (λ⟨_,_,e⟩=>by cases e) (λhr i' bG=>?_) (λ⟨_,_,e⟩=>by cases e) Fo ?_ ?_ ⟨by rw[c1];exact h.base.size,h.base.tape,h.base.os,h.base.e⟩ qz (λi' bG hq=>?_) rfl
  ·exact⟨λ_=>⟨_,_,.inl hp⟩,λ_=>⟨_,_,.inl rfl⟩⟩
  ·by_cases e:i'=i
   ·subst e;simp only[upd_same];rw[eW];simp
   ·simp only[upd_ne _ _ e]
  ·refine⟨ϧ y (ð θ (X.val i) θ),?_,?_⟩
   ·rw[ni,if_pos ⟨rfl,iV⟩];rfl
   ·exact⟨M0,(w.at d).setChan X.cN 0 #[] χ (s+1) (s+1) χ,ϧ y (ð θ (X.val i) θ),by simp only[ak _ _ (show 0≠X.N0+i by omega),fY],rB.refl rfl,by simp only[upd_ne _ _ (show 0≠X.N0+i by omega),upd_same];exact va⟩
  ·by_cases e:i'=i
   ·subst e
    refine⟨ϧ gj ω,?_,?_⟩
    ·rw[ni,if_neg (by omega),if_pos ⟨rfl,nM⟩];rfl
    ·unfold WSit
     simp only[upd_same,fY];exact⟨M,_,rfl,rfl,Ij⟩
   ·obtain⟨y',fp,cI⟩:=h.wk i' bG
    refine⟨y',by rw[ni,if_neg (by omega),if_neg (by omega)];exact fp,?_⟩
    refine WSit.congr (G:=G) (by exact upd_ne _ _ e) ?_ ?_ (by exact rfl) cI
    ·simp only[ak _ _ (show X.N0+i'≠X.N0+i by omega),ak _ _ (show X.N0+i'≠0 by omega)]
    ·simp only[upd_ne _ _ (show X.N0+i'≠X.N0+i by omega),upd_ne _ _ (show X.N0+i'≠0 by omega)]
  ·obtain⟨y',fp,cI⟩:=h.cl hc
   refine⟨y',by rw[ni,if_neg (by omega),if_neg (by omega)];exact fp,?_⟩
   refine CSit.congr (G:=G) (by exact rfl) ?_ ?_ (by exact rfl) cI
   ·simp only[ak _ _ (show X.N0+X.n≠X.N0+i by omega),ak _ _ (show X.N0+X.n≠0 by omega)]
   ·simp only[upd_ne _ _ (show X.N0+X.n≠X.N0+i by omega),upd_ne _ _ (show X.N0+X.n≠0 by omega)]
  ·rw[ni,if_neg (by omega),if_neg (by omega)]
  ·simp only[ak _ _ (show g≠X.N0+i by omega),ak _ _ (show g≠0 by omega)]
   exact h.oX g h1 h2
  ·simp only[ak _ _ (show g≠X.N0+i by omega),ak _ _ (show g≠0 by omega)]
   exact h.nG g hg
  ·have hq:=CW G.st (show i<X.n by omega) .jj
   have e1:(G.st i).q=0:=by rw[eW];rfl
   have e2:WS.q .jj=0:=rfl;have dA:=h.cnt;unfold oq at dA |-
   simp only;rw[show sumTo X.n (λa=>(upd G.st i .jj a).q)=sumTo X.n (λa=>(G.st a).q) by omega]
   exact dA
  ·refine⟨List.nodup_append.2 ⟨g1,by simp,λa IB b hb=>?_⟩,by simp only[Ĉ,Af7];omega,λa=>?_⟩
   ·simp only[ā] at hb
    subst hb
    exactλe=>Ac (e▸IB)
   ·by_cases e:a=i
    ·subst e
     simp only[ĉ,ā,or_true,upd_same,true_iff];exact⟨by omega,hn,rfl⟩
    ·simp only[ĉ,ā,e,or_false,upd_ne _ _ e]
     exact g3 a
  ·by_cases e:i'=i
   ·subst e;simp only[upd_same];simp
   ·simp only[upd_ne _ _ e];exact h.yj hr i' bG
  ·obtain⟨s',e'⟩:=h.lU
   exact⟨s',by rw[c2 _ h.neq];exact e'⟩
  ·exact⟨s+1,by rw[c3 h.wt.hN];unfold Gh.closed at eV |-;simp only;rw[eV]⟩
  ·have oQ:G.st i'=.quit:=by
    by_cases e:i'=i
    ·subst e;simp only[upd_same] at hq;cases hq
    ·simp only[upd_ne _ _ e] at hq;exact hq
   exact(h.kq i' bG oQ).app λop ag _=>(qz op ag).1
 ·have hm:=CM G.st (show i<X.n by omega) .jj
  have e1:(G.st i).wt=4:=by rw[eW];rfl
  have e2:WS.wt .jj=3:=rfl;unfold Gh.mu;simp only[hp,MP.wt];omega
def wW:((gs.setIfInBounds 0 x).push y)[i]?=if i=gs.size then φ y else if i=0/\0<gs.size then φ x else gs[i]?:=by
 rw[Array.getElem?_push,Ē]
 by_cases h:i=gs.size
 ·rw[if_pos h,if_pos h]
 ·rw[if_neg h,if_neg h,one_set]
def YP(h1:x1.act=.go N)(h2:x2.act=.start):∀op∈#[x1,x2],op.act.touch? =ν:=by
 intro op ag;simp only[ã,Ϧ,Λ,or_false] at ag;rcases ag with rfl|rfl
 ·rw[h1];rfl
 ·rw[h2];rfl
def apo(h:FI X wb gs w t G)(sl:Option (Nat×Nat))(hp:G.mp=.spawn)(hr:X.n - G.j=r+1)(hx:gs[0]?=φ x)(ha:G.act 0=φ ⟨M,x,aR⟩)
 (hS:StopA X (r+1) M x w):pz X wb gs w sl t G 0:=by
 obtain⟨_,cz,child,dH,oK,zO,I6,eL⟩:=hS;have kV:=h.n0;have br:G.cp.ik=θ:=by
  cases e:G.cp.ik with
  |true=>rfl
  |false=>exact absurd (h.mc.2 e) (by rw[hp];rintro⟨_,_,e|e⟩<;>cases e)
 have vB:gs.size=X.N0+G.j:=by have:=h.size;rw[br] at this;simpa using this
 have hi:X.n - (r+1)=G.j:=by omega
 rw[hi] at I6;have kY:X.n - (G.j+1)=r:=by omega
 have iV:0<gs.size:=(ϛ.1 hx).1
 have bh:=runT_crowd_spawn (P:=X.P) (sl:=sl) (i:=0) hx (show Ϙ X.P (0==0) x w=_ from dH)
 rw[oW] at bh;have Ag:(#[].push ({g:=0,fn:=x.frame.fn,pos:=x.frame.place,act:=.go gs.size}:MemOp) |>.push {g:=gs.size,fn:=child.frame.fn,pos:=x.frame.place,act:=.start})=#[{g:=0,fn:=x.frame.fn,pos:=x.frame.place,act:=.go gs.size},{g:=gs.size,fn:=child.frame.fn,pos:=x.frame.place,act:=.start}]:=rfl
 rw[Ag] at bh;obtain⟨T0,va⟩:=eL.tree;obtain⟨Tc,Em⟩:=I6.tree;have EE:=h.nG gs.size (ϊ _);have vE:=h.wt.spawn ha EE (by omega) (x:={g:=0,fn:=x.frame.fn,pos:=x.frame.place,act:=.go gs.size}) (y:={g:=gs.size,fn:=child.frame.fn,pos:=x.frame.place,act:=.start}) ⟨rfl,rfl⟩ ⟨rfl,rfl⟩ cz child
 have nN:=YP (N:=gs.size) (x1:={g:=0,fn:=x.frame.fn,pos:=x.frame.place,act:=.go gs.size}) (x2:={g:=gs.size,fn:=child.frame.fn,pos:=x.frame.place,act:=.start}) rfl rfl;generalize hu:(#[{g:=0,fn:=x.frame.fn,pos:=x.frame.place,act:=.go gs.size},{g:=gs.size,fn:=child.frame.fn,pos:=x.frame.place,act:=.start}]:Θ)=u at bh vE nN;have O1:∀op∈u,op.g<gs.size+1:=by
  rw[<-hu];intro op ag;simp only[ã,Ϧ,Λ,or_false] at ag;rcases ag with rfl|rfl
  ·exact Nat.succ_pos _
  ·exact Nat.lt_succ_self _
 have eV:G.closed=χ:=by
  unfold Gh.closed;cases e:G.cp with
  |quit=>rw[e] at br;cases br
  |_=>rfl
 have old:∀ {k a},Ú (t++u) k=φ a->Ú t k=φ a/\(t++u).g? k= t.g? k:=by
  intro k a ha;obtain⟨op,ag,cH⟩:=ē ha;rcases ö ag with⟨_,bL⟩ | ⟨_,dW⟩
  ·exact⟨by rw[ĝ bL];exact cH,by simp[Õ,ag,bL]⟩
  ·rw[nN op dW] at cH;cases cH
 have Oi:G.j<X.n:=by omega
 have Wo:G.st G.j=.no:=(h.vU G.j Oi).2 (ϊ _);refine⟨_,_,_,{G with j:=G.j+1,st:=upd G.st G.j .lj,act:=ft (ft G.act 0 (φ ⟨M.shared,cz,w⟩)) gs.size (φ ⟨M.shared,child,w⟩),tr:=upd (upd G.tr 0 T0) gs.size Tc},bh,?_,?_⟩
 ·refine⟨?_,kV,by simp only;omega,λhc=>(by have hc:G.cp.ik=χ:=hc;rw[br] at hc;cases hc),h.mc,λi hi=>?_,?_,λi hi=>?_,λhc=>(by have hc:G.cp.ik=χ:=hc;rw[br] at hc;cases hc),λg y h1 h2 hy=>?_,λg h1 h2=>?_,λg hg=>?_,?_,?_,λ⟨_,_,e⟩=>(by have e:G.mp=_:=e;rw[hp] at e;cases e),λ⟨r,e⟩=>?_,λ⟨_,_,e⟩=>(by have e:G.mp=_:=e;rw[hp] at e;cases e),vE,h.lU,h.lX,h.neq,h.base,λk a ha hm g hg ao=>?_,λk g hg=>?_,λi hi hq=>?_,λhc k a ha=>?_,λhc=>(by rw[show Gh.closed {G with j:=G.j+1,st:=upd G.st G.j .lj,act:=ft (ft G.act 0 (φ ⟨M.shared,cz,w⟩)) gs.size (φ ⟨M.shared,child,w⟩),tr:=upd (upd G.tr 0 T0) gs.size Tc}=G.closed from rfl,eV] at hc;cases hc)⟩
  ·simp only[Ż,Ē,br,if_true];omega
  ·by_cases e:i=G.j
   ·subst e;simp only[upd_same];simp
   ·simp only[upd_ne _ _ e]
    rw[h.vU i hi];omega
  ·refine⟨cz,by rw[wW,if_neg (by omega),if_pos ⟨rfl,iV⟩],?_⟩
   unfold gD;simp only[hp,ak _ _ (show 0≠gs.size by omega),fY,upd_ne _ _ (show 0≠gs.size by omega),upd_same]
   exact⟨_,_,rfl,oK,by rw[kY];exact va⟩
  ·by_cases e:i=G.j
   ·subst e
    refine⟨child,by rw[wW,if_pos vB.symm],?_⟩
    unfold WSit;simp only[upd_same,<-vB,fY];exact⟨_,_,rfl,zO,Em⟩
   ·have xC:i<G.j+1:=hi
    obtain⟨y',fp,cI⟩:=h.wk i (by omega)
    refine⟨y',by rw[wW,if_neg (by omega),if_neg (by omega)];exact fp,?_⟩
    exact WSit.congr (G:=G) (by exact upd_ne _ _ e) (by simp only[ak _ _ (show X.N0+i≠gs.size by omega),ak _ _ (show X.N0+i≠0 by omega)]) (by simp only[upd_ne _ _ (show X.N0+i≠gs.size by omega),upd_ne _ _ (show X.N0+i≠0 by omega)]) (by exact rfl) cI
  ·rw[wW,if_neg (by omega),if_neg (by omega)] at hy
   exact h.old g y h1 h2 hy
  ·simp only[ak _ _ (show g≠gs.size by omega),ak _ _ (show g≠0 by omega)]
   exact h.oX g h1 h2
  ·simp only[Ż,Ē] at hg
   simp only[ak _ _ (show g≠gs.size by omega),ak _ _ (show g≠0 by omega)]
   exact h.nG g (by omega)
  ·have hq:=CW G.st Oi .lj
   have e1:(G.st G.j).q=0:=by rw[Wo];rfl
   have e2:WS.q .lj=0:=rfl;have dA:=h.cnt;unfold oq at dA |-
   simp only;rw[show sumTo X.n (λa=>(upd G.st G.j .lj a).q)=sumTo X.n (λa=>(G.st a).q) by omega]
   exact dA
  ·have cG:=h.aD
   unfold ou at cG |-
   simp only;rw[hp] at cG |-
   intro i hi hn;by_cases e:i=G.j
   ·subst e;rw[upd_same];rfl
   ·rw[upd_ne _ _ e];exact cG i hi hn
  ·simp only at e
   rw[e] at br;cases br
  ·obtain⟨a1,a2⟩:=old ha
   rw[a2] at hg;exact(h.yk k a a1 hm g hg ao).app u
  ·simp only[Ż,Ē]
   unfold Õ at hg;obtain⟨op,ag,e⟩:=Č.1 hg;rcases ö ag with⟨_,bL⟩ | ⟨_,dW⟩
   ·have:=h.uW k g (by simp[Õ,bL,e]);omega
   ·rw[<-e];exact O1 op dW
  ·by_cases e:i=G.j
   ·subst e;simp only[upd_same] at hq;cases hq
   ·simp only[upd_ne _ _ e] at hq
    exact(h.kq i hi hq).app λop ag _=>nN op ag
  ·exact h.AM eV k a (old ha).1
 ·have hm:=CM G.st Oi .lj
  have e1:(G.st G.j).wt=6:=by rw[Wo];rfl
  have e2:WS.wt .lj=5:=rfl;unfold Gh.mu;simp only;omega
def apn(h:FI X wb gs w t G)(sl:Option (Nat×Nat))(hp:G.mp=.spawn)(hr:X.n - G.j=0)(hx:gs[0]?=φ x)(ha:G.act 0=φ ⟨M,x,aR⟩)
 (hS:StopA X 0 M x w):pz X wb gs w sl t G 0:=by
 obtain⟨_,cz,child,dH,oK,zO,I6,eL⟩:=hS;have kV:=h.n0;have sU:=h.jn;have hj:G.j=X.n:=by omega
 have br:G.cp.ik=θ:=by
  cases e:G.cp.ik with
  |true=>rfl
  |false=>exact absurd (h.mc.2 e) (by rw[hp];rintro⟨_,_,e|e⟩<;>cases e)
 have qt:G.cp=.no:=by
  cases e:G.cp with
  |no=>rfl
  |_=>rw[e] at br;cases br
 have vB:gs.size=X.N0+X.n:=by have:=h.size;rw[br] at this;simp at this;omega
 have iV:0<gs.size:=(ϛ.1 hx).1
 have bh:=runT_crowd_spawn (P:=X.P) (sl:=sl) (i:=0) hx (show Ϙ X.P (0==0) x w=_ from dH)
 rw[oW] at bh;have Ag:(#[].push ({g:=0,fn:=x.frame.fn,pos:=x.frame.place,act:=.go gs.size}:MemOp) |>.push {g:=gs.size,fn:=child.frame.fn,pos:=x.frame.place,act:=.start})=#[{g:=0,fn:=x.frame.fn,pos:=x.frame.place,act:=.go gs.size},{g:=gs.size,fn:=child.frame.fn,pos:=x.frame.place,act:=.start}]:=rfl
 rw[Ag] at bh;obtain⟨T0,va⟩:=eL.tree;obtain⟨Tc,Em⟩:=I6.tree;have EE:=h.nG gs.size (ϊ _);have vE:=h.wt.spawn ha EE (by omega) (x:={g:=0,fn:=x.frame.fn,pos:=x.frame.place,act:=.go gs.size}) (y:={g:=gs.size,fn:=child.frame.fn,pos:=x.frame.place,act:=.start}) ⟨rfl,rfl⟩ ⟨rfl,rfl⟩ cz child
 have nN:=YP (N:=gs.size) (x1:={g:=0,fn:=x.frame.fn,pos:=x.frame.place,act:=.go gs.size}) (x2:={g:=gs.size,fn:=child.frame.fn,pos:=x.frame.place,act:=.start}) rfl rfl;generalize hu:(#[{g:=0,fn:=x.frame.fn,pos:=x.frame.place,act:=.go gs.size},{g:=gs.size,fn:=child.frame.fn,pos:=x.frame.place,act:=.start}]:Θ)=u at bh vE nN;have O1:∀op∈u,op.g<gs.size+1:=by
  rw[<-hu];intro op ag;simp only[ã,Ϧ,Λ,or_false] at ag;rcases ag with rfl|rfl
  ·exact Nat.succ_pos _
  ·exact Nat.lt_succ_self _
 have eV:G.closed=χ:=by unfold Gh.closed;rw[qt]
 have old:∀ {k a},Ú (t++u) k=φ a->Ú t k=φ a/\(t++u).g? k= t.g? k:=by
  intro k a ha;obtain⟨op,ag,cH⟩:=ē ha;rcases ö ag with⟨_,bL⟩ | ⟨_,dW⟩
  ·exact⟨by rw[ĝ bL];exact cH,by simp[Õ,ag,bL]⟩
  ·rw[nN op dW] at cH;cases cH
 refine⟨_,_,_,{G with mp:=.walk X.n [],cp:=.walk X.n,act:=ft (ft G.act 0 (φ ⟨M.shared,cz,w⟩)) gs.size (φ ⟨M.shared,child,w⟩),tr:=upd (upd G.tr 0 T0) gs.size Tc},bh,?_,?_⟩
 ·refine⟨?_,kV,sU,λ_=>hj,⟨λ_=>rfl,λ_=>⟨_,_,.inl rfl⟩⟩,h.vU,?_,λi hi=>?_,λ_=>?_,λg y h1 h2 hy=>?_,λg h1 h2=>?_,λg hg=>?_,?_,?_,λ⟨_,_,e⟩=>(by cases e),λ⟨r,e⟩=>(by cases e),λ⟨_,_,e⟩=>(by cases e),vE,h.lU,?_,h.neq,h.base,λk a ha hm g hg ao=>?_,λk g hg=>?_,λi hi hq=>(h.kq i hi hq).app λop ag _=>nN op ag,λhc k a ha=>h.AM eV k a (old ha).1,λhc=>(by cases hc)⟩
  ·simp only[Ż,Ē,CP.ik];simp;omega
  ·refine⟨cz,by rw[wW,if_neg (by omega),if_pos ⟨rfl,iV⟩],?_⟩
   unfold gD;simp only[ak _ _ (show 0≠gs.size by omega),fY,upd_ne _ _ (show 0≠gs.size by omega),upd_same]
   exact⟨_,_,_,rfl,rB.refl oK,va⟩
  ·have xC:i<G.j:=hi
   obtain⟨y',fp,cI⟩:=h.wk i hi;refine⟨y',by rw[wW,if_neg (by omega),if_neg (by omega)];exact fp,?_⟩
   exact WSit.congr (G:=G) (by exact rfl) (by simp only[ak _ _ (show X.N0+i≠gs.size by omega),ak _ _ (show X.N0+i≠0 by omega)]) (by simp only[upd_ne _ _ (show X.N0+i≠gs.size by omega),upd_ne _ _ (show X.N0+i≠0 by omega)]) (by exact rfl) cI
  ·refine⟨child,by rw[wW,if_pos vB.symm],?_⟩
   unfold CSit;simp only[<-vB,fY,upd_same];exact⟨_,_,rfl,zO,Em⟩
  ·rw[wW,if_neg (by omega),if_neg (by omega)] at hy
   exact h.old g y h1 h2 hy
  ·simp only[ak _ _ (show g≠gs.size by omega),ak _ _ (show g≠0 by omega)]
   exact h.oX g h1 h2
  ·simp only[Ż,Ē] at hg
   simp only[ak _ _ (show g≠gs.size by omega),ak _ _ (show g≠0 by omega)]
   exact h.nG g (by omega)
  ·have dA:=h.cnt
   unfold oq at dA |-
   rw[qt] at dA;simp only at dA |-
   omega
  ·have cG:=h.aD
   unfold ou at cG |-
   rw[hp] at cG;refine⟨List.nodup_nil,rfl,λi=>⟨λe=>(by cases e),λ⟨h1,h2,h3⟩=>?_⟩⟩
   rw[cG i h1 h2] at h3;cases h3
  ·obtain⟨s,e⟩:=h.lX
   rw[eV] at e;exact⟨s,e⟩
  ·obtain⟨a1,a2⟩:=old ha
   rw[a2] at hg;exact(h.yk k a a1 hm g hg ao).app u
  ·simp only[Ż,Ē]
   unfold Õ at hg;obtain⟨op,ag,e⟩:=Č.1 hg;rcases ö ag with⟨_,bL⟩ | ⟨_,dW⟩
   ·have:=h.uW k g (by simp[Õ,bL,e]);omega
   ·rw[<-e];exact O1 op dW
 ·unfold Gh.mu
  simp only[hp,qt,MP.wt,CP.wt];omega
def WT.close{cL cN:Nat}{act:Nat->Option mB}(h:WT cL cN w t act)(ey:∀k a,Ú t k=φ a->a.loc≠ .obj cN){x1 x2:MemOp}(hg:x1.g=x2.g)(h1:x1.act=.access ⟨.obj cN,χ,θ⟩)(h2:x2.act=.close cN){w':Ψ}
 (hs:w'.heap.size=w.heap.size)(hk:∀b,b≠cN->w'.heap[b]?=w.heap[b]?)(ht:w'.tape=w.tape)(ho:w'.os=w.os)(hp:w'.output=w.output):WT cL cN w' (t++#[x1,x2]) act:=by
 have mem:∀op∈#[x1,x2],op=x1\/op=x2:=λop ag=>by simpa using ag
 have sp:∀ {k a},Ú (t++#[x1,x2]) k=φ a->Ú t k=φ a\/a.loc=.obj cN:=by
  intro k a ha;obtain⟨op,ag,cH⟩:=ē ha;rcases ö ag with⟨_,bL⟩ | ⟨_,dW⟩
  ·exact .inl (by rw[ĝ bL];exact cH)
  ·rcases mem op dW with rfl|rfl
   ·rw[h1] at cH;simp[ņ] at cH;subst cH;exact .inr rfl
   ·rw[h2] at cH;cases cH
 refine⟨λg j e=>(h.keep g j e).trans ⟨by rw[hs];exact ϊ _,λb hb=>hk b (h.low g j e b hb).2.2,ht,ho,hp⟩,h.nD,λg j e b hb=>by rw[hs];exact h.low g j e b hb,λop ag=>?_,h.nd.app λop ag=>?_,λsaid=>?_,λg j e k a ha b hb hc=>?_,by rw[hs];exact h.hL,by rw[hs];exact h.hN⟩
 ·rw[hs]
  rcases Array.mem_append.1 ag with ag|ag
  ·exact h.tl op ag
  ·rcases mem op ag with rfl|rfl
   ·rw[h1];exact h.hN
   ·rw[h2];exact h.hN
 ·rcases mem op ag with rfl|rfl
  ·rw[h1];simp
  ·rw[h2];simp
 ·refine noRace_append (g:=x1.g) (h.clean said) (λop ag=>by rcases mem op ag with rfl|rfl;rfl;exact hg.symm) λk a ha op ag b hb hc=>?_
  rcases mem op ag with rfl|rfl
  ·rw[h1] at hb
   simp[ņ] at hb;subst hb;exact absurd hc.1 (ey k a ha)
  ·rw[h2] at hb;cases hb
 ·rcases sp ha with ha|ha
  ·exact(h.perm g j e k a ha b hb hc).app _
  ·exfalso
   have:sC a.loc cN:=.inl ha;obtain rfl:=PE hb this;exact(h.low g j e b (hc.imp id (·.1))).2.2 rfl
def closes(h:FI X wb gs w t G)(sl:Option (Nat×Nat))(hp:G.cp=.walk 0)(hx:gs[X.N0+X.n]?=φ x)(ha:G.act (X.N0+X.n)=φ ⟨M,x,aR⟩)
 (hS:AtClose X M x w):pz X wb gs w sl t G (X.N0+X.n):=by
 obtain⟨hrx,aiZ,gJ⟩:=hS;have kV:=h.n0;have br:G.cp.ik=χ:=by rw[hp];rfl
 have qu:=h.jc br;have eV:G.closed=χ:=by unfold Gh.closed;rw[hp]
 obtain⟨s,hc⟩:=h.lX;rw[eV] at hc;obtain⟨cz,k,dH,hq⟩:=gJ s s hc;have eT:∀i,i<X.n->G.st i=.quit:=by
  have dA:=h.cnt;unfold oq at dA;rw[hp] at dA;exact QN _ _ (by simpa using dA)
 have vq:X.N0+X.n<gs.size:=(ϛ.1 hx).1
 have bh:=runT_crowd_go (P:=X.P) (sl:=sl) (i:=X.N0+X.n) hx (by rw[h.uO];exact dH)
 have sS:ĩ (X.N0+X.n) x.frame.fn x.frame.place #[⟨.obj X.cN,χ,θ⟩,⟨.obj X.cN,θ,θ⟩]=#[{g:=X.N0+X.n,fn:=x.frame.fn,pos:=x.frame.place,act:=.access ⟨.obj X.cN,χ,θ⟩},{g:=X.N0+X.n,fn:=x.frame.fn,pos:=x.frame.place,act:=.close X.cN}]:=by
  rw[ofEvents_eq];simp[ě]
 rw[sS] at bh;have Wh:(w.shut X.cN s s χ).heap.size=w.heap.size:=by simp[World.shut]
 have Wi:∀b,b≠X.cN->(w.shut X.cN s s χ).heap[b]?=w.heap[b]?:=λb hb=>by simp only[World.shut];rw[ė (ϸ hb)]
 have Wj:(w.shut X.cN s s χ).heap[X.cN]?=φ (.chan 0 #[] θ s s χ):=by simp[World.shut,h.wt.hN]
 have vE:=h.wt.close (h.AM eV) (x1:={g:=X.N0+X.n,fn:=x.frame.fn,pos:=x.frame.place,act:=.access ⟨.obj X.cN,χ,θ⟩}) (x2:={g:=X.N0+X.n,fn:=x.frame.fn,pos:=x.frame.place,act:=.close X.cN}) rfl rfl rfl (w':=w.shut X.cN s s χ) Wh Wi rfl rfl rfl;have ahk:∃s',(w.shut X.cN s s χ).heap[X.cL]?=φ (.chan 0 #[] χ s' s' χ):=by
  obtain⟨s',e⟩:=h.lU;exact⟨s',by rw[Wi _ h.neq];exact e⟩
 have ahL:cz.status=.running\/cz.status=.finished:=hq.status;have xV:∀y,Ā X.P x cz (w.shut X.cN s s χ) y=y.again (w.shut X.cN s s χ):=by
  intro y;unfold Ā;rw[aiZ];rcases ahL with e|e<;>rw[e]<;>rfl
 have gq:∀ {i:Nat} {y:ϐ},i≠0->i≠X.N0+X.n->gs[i]?=φ y->((gs.map (Ā X.P x cz (w.shut X.cN s s χ))).setIfInBounds (X.N0+X.n) cz)[i]?=φ y:=by
  intro i y cJ EJ hy;rw[ė (ϸ EJ),Đ,hy,é]
  have:∃n,Ĥ X.P n y:=by
   rcases h.tX (ϛ.1 hy).1 with e| ⟨h1,h2⟩ | ⟨i',bG,rfl⟩ | ⟨e,_⟩
   ·exact absurd e cJ
   ·exact⟨_,h.old i y h1 h2 hy⟩
   ·obtain⟨y',fp,cI⟩:=h.wk i' bG
    rw[hy] at fp;obtain rfl:=Ϟ fp;unfold WSit at cI;rw[eT i' (by omega)] at cI
    exact⟨_,cI.2⟩
   ·exact absurd e EJ
  obtain⟨n,hn⟩:=this;rw[woken_quits hn]
 have gc:((gs.map (Ā X.P x cz (w.shut X.cN s s χ))).setIfInBounds (X.N0+X.n) cz)[X.N0+X.n]?=φ cz:=Na vq cz;have aN:((gs.map (Ā X.P x cz (w.shut X.cN s s χ))).setIfInBounds (X.N0+X.n) cz).size=gs.size:=by simp
 have Ox:∃y f aD,(G.mp=.walk f aD\/G.mp=.dp f aD)/\((gs.map (Ā X.P x cz (w.shut X.cN s s χ))).setIfInBounds (X.N0+X.n) cz)[0]?=φ y/\∃M aR y',G.act 0=φ ⟨M,y',aR⟩/\rB y y'/\oD X.P θ (oB X f aD) (G.tr 0) M y' aR:=by
  obtain⟨y,hy,hs⟩:=h.main;have Ux:((gs.map (Ā X.P x cz (w.shut X.cN s s χ))).setIfInBounds (X.N0+X.n) cz)[0]?=φ (Ā X.P x cz (w.shut X.cN s s χ) y):=by
   rw[ė (by omega),Đ,hy,é]
  unfold gD at hs;cases e:G.mp with
  |spawn=>exact absurd (h.mc.2 br) (by rw[e];rintro⟨_,_,e|e⟩<;>cases e)
  |walk f aD=>
   rw[e] at hs;obtain⟨M,aR,y',h1,h2,h3⟩:=hs;exact⟨y,f,aD,.inl rfl,by rw[Ux,woken_run h2.2.2.2],M,aR,y',h1,h2,h3⟩
  |dp f aD=>
   rw[e] at hs;obtain⟨M,aR,y',z,h1,h2,h3⟩:=hs;refine⟨{Ó y' #[â X.cN z] (.recv θ) with status:=.running},f,aD,.inr rfl,?_,M,aR,y',h1,⟨rfl,rfl,rfl,rfl⟩,.stop h3⟩
   rw[Ux,xV,h2,again_recv_closed Wj]
 obtain⟨y0,f,aD,tb,hy0,M0,v0,y0',rJ,iY,va⟩:=Ox;refine⟨_,_,_,{G with mp:=.walk f aD,cp:=.quit,act:=ft G.act (X.N0+X.n) ν,q:=upd G.q (X.N0+X.n) k},bh,?_,?_⟩
 ·refine⟨aN.trans ?_,kV,h.jn,λ_=>qu,⟨λ_=>rfl,λ_=>⟨_,_,.inl rfl⟩⟩,h.vU,⟨y0,hy0,?_⟩,λi hi=>?_,λ_=>⟨cz,gc,?_⟩,λg y h1 h2 hy=>?_,λg h1 h2=>?_,λg hg=>?_,?_,?_,λ⟨_,_,e⟩=>(by cases e),λ⟨r,e⟩=>(by cases e),λ⟨_,_,e⟩=>(by cases e),vE.drop _,ahk,⟨s,Wj⟩,h.neq,⟨by rw[Wh];exact h.base.size,h.base.tape,h.base.os,h.base.e⟩,λi a Og hm g hg ao=>?_,λi g hg=>?_,λi hi qH=>?_,(λhc=>by cases hc),λ_=>?_⟩
  ·rw[h.size,br];rfl
  ·unfold gD
   simp only[ak _ _ (show 0≠X.N0+X.n by omega)]
   exact⟨M0,v0,y0',rJ,iY,va⟩
  ·have xC:i<G.j:=hi
   obtain⟨y',fp,cI⟩:=h.wk i hi;refine⟨y',gq (by omega) (by omega) fp,?_⟩
   exact WSit.congr (G:=G) (by exact rfl) (by simp only[ak _ _ (show X.N0+i≠X.N0+X.n by omega)]) (by exact rfl) (by simp only[upd_ne _ _ (show X.N0+i≠X.N0+X.n by omega)]) cI
  ·unfold CSit
   simp only[fY,upd_same];exact⟨trivial,hq⟩
  ·have pL:gs[g]?=φ y:=by
    have ao:g<gs.size:=by rw[<-aN];exact(ϛ.1 hy).1
    have e1:=gq (i:=g) (y:=gs[g]) (by omega) (by omega) (õ ao)
    rw[hy] at e1;rw[õ ao]
    exact e1.symm
   simp only[upd_ne _ _ (show g≠X.N0+X.n by omega)]
   exact h.old g y h1 h2 pL
  ·simp only[ak _ _ (show g≠X.N0+X.n by omega)]
   exact h.oX g h1 h2
  ·rw[aN] at hg
   simp only[ak _ _ (show g≠X.N0+X.n by omega)]
   exact h.nG g hg
  ·have dA:=h.cnt
   unfold oq at dA |-
   rw[hp] at dA;simpa using dA
  ·have cG:=h.aD
   unfold ou at cG |-
   rcases tb with e|e<;>rw[e] at cG<;>exact cG
  ·obtain⟨op,ag,cH⟩:=ē Og
   rcases ö ag with⟨_,bL⟩ | ⟨_,dW⟩
   ·exact(h.yk i a (by rw[ĝ bL];exact cH) hm g (by simpa [Õ,ag,bL] using hg) ao).app _
   ·exfalso
    have e:op.g=g:=by simpa [Õ,ag] using hg
    simp only[ã,Ϧ,Λ,or_false] at dW;rcases dW with rfl|rfl<;>(simp only at e;omega)
  ·rw[aN]
   unfold Õ at hg;obtain⟨op,ag,e⟩:=Č.1 hg;rcases ö ag with⟨_,bL⟩ | ⟨_,dW⟩
   ·exact h.uW i g (by simp[Õ,bL,e])
   ·simp only[ã,Ϧ,Λ,or_false] at dW
    rcases dW with rfl|rfl<;>(simp only at e;omega)
  ·refine(h.kq i hi qH).app λop ag e=>?_
   exfalso;simp only[ã,Ϧ,Λ,or_false] at ag;rcases ag with rfl|rfl<;>(simp only at e;omega)
  ·have e1:(t++#[({g:=X.N0+X.n,fn:=x.frame.fn,pos:=x.frame.place,act:=.access ⟨.obj X.cN,χ,θ⟩}:MemOp),{g:=X.N0+X.n,fn:=x.frame.fn,pos:=x.frame.place,act:=.close X.cN}])[t.size+1]?=φ {g:=X.N0+X.n,fn:=x.frame.fn,pos:=x.frame.place,act:=.close X.cN}:=by
    rw[Aek (by omega)];simp
   refine⟨t.size+1,_,e1,rfl,rfl,λi a Og g hg ky=>?_⟩
   obtain⟨op,ag,cH⟩:=ē Og;rcases ö ag with⟨_,bL⟩ | ⟨asa,dW⟩
   ·have Fc:Ú t i=φ a:=by rw[ĝ bL];exact cH
    have vk: t.g? i=φ g:=by simpa [Õ,ag,bL] using hg
    have ao:=h.uW i g vk;have cP:Knows t (X.N0+X.n) i:=by
     rcases h.tX ao with e| ⟨_,e⟩ | ⟨i',bG,e⟩ | ⟨e,_⟩
     ·omega
     ·omega
     ·subst e;exact h.kq i' (by omega) (eT i' (by omega)) i a Fc vk
     ·subst e;exact uM.self t _ i a Fc vk
    exact .inr (cP.hb_new (by omega) e1 rfl)
   ·have EI:i=t.size:=by
     have:= Ae7 ag;simp at this;by_cases e:i=t.size
     ·exact e
     ·have e3:i=t.size+1:=by omega
      subst e3;rw[e1] at ag;obtain rfl:=Ϟ ag;cases cH
    subst EI;exact .inr (hb_po (by omega) ag e1 (by simp only[ã,Ϧ,Λ,or_false] at dW;rcases dW with rfl|rfl<;>rfl))
 ·unfold Gh.mu
  simp only[hp,CP.wt,MP.wt];rcases tb with e|e<;>rw[e]<;>simp only[MP.wt]<;>omega
def Ends(X:Pm)(wb:Ψ)(aY:Array ϐ)(w':Ψ)(t':Θ):Prop:=
 ∃q' g' M aD,Fr X.P aY w' t' q' g'/\X.End aD M g' w'/\aD.Nodup/\(∀i,i∈aD↔i<X.n/\X.cX i=θ)/\Base wb w'/\∀b,M.has b->b<w'.heap.size
def ends(h:FI X wb gs w t G)(sl:Option (Nat×Nat))(gJ:G.closed=θ)(hp:G.mp=.walk f aD)(h0:gs[0]?=φ x)(ha:G.act 0=φ ⟨M,y,v0⟩)(iY:rB x y)
 (hR:oB X f aD M y w):∃aY u,runT X.P (Ϫ gs w sl) 0=(.next (Ϫ aY w sl),u)/\Ends X wb aY w (t++u):=by
 obtain⟨_,_,z,dH,rP⟩:=hR.at;have kV:=h.n0;have br:=CP.adV gJ;have qu:=h.jc br;have eT:=h.G2 gJ;obtain⟨s,hc⟩:=h.lX;rw[gJ] at hc;have Ad:Ĝ (gs.setIfInBounds 0 ph) X.cN θ=[]:=by
  refine Afg λj y hy=>?_
  rcases ń gs _ j y hy with⟨_,rfl⟩ | ⟨hj,hy⟩
  ·exact Ņ _ _
  ·cases hl:Ŧ y X.cN θ with
   |nil=>rfl
   |cons a l=>
    exfalso;obtain⟨e,g,v,z',hyp⟩:=P0 h (m:=a) hy (by rw[hl];simp)
    rw[hyp] at hy;obtain⟨i,_,_,_,hi,_,eW,_⟩:=h.Md hy;rw[eT i (by omega)] at eW
    cases eW
 have qI:Ϙ X.P (0==0) x w=.comm y #[â X.cN z] θ (.recv θ) w #[]:=by
  rw[Afj iY.1 iY.2.1 iY.2.2.1];exact dH
 have bh:=crowd_recv_closed (P:=X.P) (sl:=sl) h0 qI hc Ad;rw[oW,Aem] at bh;have iV:0<gs.size:=(ϛ.1 h0).1
 let y1:MemOp:={g:=0,fn:=y.frame.fn,pos:=y.frame.place,act:=.recvClosed X.cN}
 have hm:=h.wt.mute (u:=#[y1]) (w':=w) (λop ag=>by
  simp only[ã,ā] at ag;subst ag;exact⟨rfl,h.wt.hN,by simp[y1],by simp[y1]⟩) rfl (λ_ _ _=>rfl) rfl rfl rfl
 have e1:(t++#[y1])[t.size]?=φ y1:=by rw[Aek (ϊ _)];simp
 obtain⟨c,zc,c1,c2,c3,c4⟩:=h.DW gJ;have ec:(t++#[y1])[c]?=φ zc:=by rw[Ae6 (Ae7 c1)];exact c1
 have Vv:∀k a,Ú (t++#[y1]) k=φ a->a.loc.isMemory=θ->Knows (t++#[y1]) 0 k:=by
  intro k a xG hmm;obtain⟨op,ag,cH⟩:=ē xG;rcases ö ag with⟨hk,bL⟩ | ⟨_,dW⟩
  ·have Fc:Ú t k=φ a:=by rw[ĝ bL];exact cH
   by_cases hg:op.g<X.N0
   ·exact(h.yk k a Fc hmm op.g (by simp[Õ,bL]) hg).app _
   ·have hb:=c4 k a Fc op.g (by simp[Õ,bL]) (by omega)
    have aeT:HappensBefore (t++#[y1]) c t.size:=.single (.inr ⟨.closed (c:=X.cN) (by rw[act?_of ec,c2]) (by rw[act?_of e1]),Jz hm.nd ec,Jz hm.nd e1⟩)
    exact⟨t.size,y1,e1,rfl,.inr ((hb.app #[y1]).hb aeT)⟩
  ·simp only[ã,ā] at dW
   subst dW;cases cH
 have Cd:∀op∈t++#[y1],op.g<(gs.setIfInBounds 0 (ϧ y (ð θ z χ))).size:=by
  intro op ag;rw[Ē];obtain⟨k,hk⟩:=Array.getElem?_of_mem ag
  rcases ö hk with⟨_,kU⟩ | ⟨_,kU⟩
  ·exact h.uW k op.g (by simp[Õ,kU])
  ·simp only[ã,ā] at kU
   subst kU;exact iV
 refine⟨_,_,bh,G.q,ϧ y (ð θ z χ),M,aD,⟨by rw[one_set,if_pos ⟨rfl,iV⟩];rfl,λi xi hi Fp=>?_,⟨hm.clean,λk a xG hmm=>.inl (Vv k a xG hmm),λk g hg aw dA=>?_,F0 hm.nd 0,hm.tl⟩,hm.nd,Cd⟩,rP,?_,?_,h.base,λb hb=>(h.wt.low 0 _ ha b hb).1⟩
 ·rw[one_set,if_neg (by omega)] at Fp
  rcases h.tX (ϛ.1 Fp).1 with e| ⟨h1,h2⟩ | ⟨i',bG,rfl⟩ | ⟨rfl,_⟩
  ·omega
  ·exact h.old i xi h1 h2 Fp
  ·obtain⟨y',fp,cI⟩:=h.wk i' bG
   rw[Fp] at fp;obtain rfl:=Ϟ fp;unfold WSit at cI;rw[eT i' (by omega)] at cI
   exact cI.2
  ·obtain⟨y',fp,cI⟩:=h.cl br
   rw[Fp] at fp;obtain rfl:=Ϟ fp;unfold CSit at cI;unfold Gh.closed at gJ;cases e:G.cp with
   |quit=>rw[e] at cI;exact cI.2
   |_=>rw[e] at gJ;cases gJ
 ·obtain⟨a,ha,hmm,_⟩:=dA
  obtain⟨q,z',rW,rX,OP⟩:=Vv k a ha hmm;rcases OP with rfl|OP
  ·exfalso
   apply aw;have:(t++#[y1]).g? k=φ z'.g:=by unfold Õ;rw[rW];rfl
   have e:φ z'.g=φ g:=this.symm.trans hg;rw[rX] at e;exact(Ϟ e).symm
  ·exact⟨q,by unfold Õ;rw[rW,é,rX],OP⟩
 ·have cG:=h.aD
  unfold ou at cG;rw[hp] at cG;exact cG.1
 ·have cG:=h.aD
  unfold ou at cG;rw[hp] at cG;intro i;rw[cG.2.2 i];exact⟨λ⟨a,b,_⟩=>⟨a,b⟩,λ⟨a,b⟩=>⟨a,b,by rw[eT i a];rfl⟩⟩
def GU(X:Pm)(G' G:Gh):Prop:=
 G'.mu X<G.mu X\/(G'.mu X=G.mu X/\(Br (X.N0+X.n+1) G'.tr G.tr\/(G'.tr=G.tr/\sumTo (X.N0+X.n+1) G'.q<sumTo (X.N0+X.n+1) G.q)))
def afG(h:FI X wb gs w t G)(sl:Option (Nat×Nat)):
 (∃aY w' bB u,stepT X.P (Ϫ gs w sl)=(.next (Ϫ aY w' bB),u)/\Ends X wb aY w' (t++u))\/
 ∃aY w' bB u G',stepT X.P (Ϫ gs w sl)=(.next (Ϫ aY w' bB),u)/\FI X wb aY w' (t++u) G'/\GU X G' G:=by
 obtain⟨k,x,d,bB,hx,bh,eW⟩:=crowd_pick (P:=X.P) (w:=w) (sl:=sl) h.awake h.ao6;have h1:=h.at d;have kV:=h.n0;have sU:=h.jn;have rD:pz X wb gs (w.at d) bB t G k->∃aY w' bB u G',stepT X.P (Ϫ gs w sl)=(.next (Ϫ aY w' bB),u)/\FI X wb aY w' (t++u) G'/\GU X G' G:=by
  rintro⟨aY,w',u,G',r1,r2,r3⟩;exact⟨aY,w',bB,u,G',eW.trans r1,r2,.inl r3⟩
 have DO:∀ {j:mB} {T':Tree} {g':ϐ} {w':Ψ} {es:Array Event},G.act k=φ j->Ϙ X.P (k==0) x (w.at d)=.go g' w' es->eZ j.M (w.at d) w' es->Tree.lt T' (G.tr k)->k<X.N0+X.n+1->
  Sr X {G with act:=ft G.act k (φ ⟨j.M.grow (w.at d) w',g',w'⟩),tr:=upd G.tr k T'} k g'->∃aY w' bB u G',stepT X.P (Ϫ gs w sl)=(.next (Ϫ aY w' bB),u)/\FI X wb aY w' (t++u) G'/\GU X G' G:=by
  intro j T' g' w' es pE dH hd hT hk rZ;refine⟨_,w',bB,_,_,eW.trans (runT_crowd_go hx dH),h1.own hx pE hd T' _ _ rZ,.inr ⟨rfl,.inl ⟨k,hk,?_,λi hi=>?_⟩⟩⟩
  ·show Tree.lt (upd G.tr k T' k) _
   rw[upd_same];exact hT
  ·exact upd_ne _ _ hi
 have Mo:Ĥ X.P (G.q k) x->k<X.N0+X.n+1->k≠0->((0<k/\k<X.N0)\/(∃i,i<G.j/\k=X.N0+i/\G.st i=.quit)\/(k=X.N0+X.n/\G.closed=θ))->∃aY w' bB u G',stepT X.P (Ϫ gs w sl)=(.next (Ϫ aY w' bB),u)/\FI X wb aY w' (t++u) G'/\GU X G' G:=by
  intro hq hk iA rZ;have ahU:(k==0)=χ:=by simpa using iA
  cases OQ:G.q k with
  |zero=>rw[OQ] at hq;rw[show x.status=.finished from hq] at bh;cases bh
  |succ m=>
   rw[OQ] at hq;rcases hq with hf| ⟨_,g',Fa,oQ⟩
   ·rw[hf] at bh;cases bh
   have hr:=runT_crowd_go (P:=X.P) (sl:=bB) (i:=k) hx (by rw[ahU];exact Fa (w.at d))
   rw[oW] at hr;refine⟨_,w.at d,bB,#[],{G with q:=upd G.q k m},eW.trans hr,by rw[á];exact h1.anb hx rZ oQ,.inr ⟨rfl,.inr ⟨rfl,?_⟩⟩⟩
   have I2:sumTo (X.N0+X.n+1) (upd G.q k m)+(m+1)=sumTo (X.N0+X.n+1) G.q+m:=by
    have:=sumTo_upd G.q m id hk;simpa [OQ] using this
   show sumTo (X.N0+X.n+1) (upd G.q k m)<_;omega
 rcases h.tX (ϛ.1 hx).1 with rfl| ⟨k1,k2⟩ | ⟨i,hi,rfl⟩ | ⟨rfl,br⟩
 ·
  obtain⟨x',ij,hs⟩:=h.main;rw[hx] at ij;obtain rfl:=Ϟ ij;unfold gD at hs;cases e:G.mp with
  |spawn=>
   rw[e] at hs;obtain⟨M,aR,ha,hr,hT⟩:=hs;have hk:=h1.wt.keep 0 _ ha;rcases hT.sK with mR| ⟨_,hgo⟩
   ·right
    cases kY:X.n - G.j with
    |zero=>exact rD (apn h1 bB e kY hx ha (by rw[kY] at mR;exact mR _ hk))
    |succ r=>exact rD (apo h1 bB e kY hx ha (by rw[kY] at mR;exact mR _ hk))
   ·right
    obtain⟨T',g',w',es,ao,dH,hd,mM⟩:=hgo _ hk;refine DO ha dH hd ao (by omega) (.inl ⟨rfl,?_⟩)
    unfold gD;simp only[e,fY,upd_same];refine⟨_,_,rfl,?_,mM⟩
    rcases mM.sK with dN| ⟨kY,_⟩
    ·have:=dN _ (bR.refl _ _)
     revert this
     cases X.n - G.j with
     |zero=>exactλh=>h.1
     |succ r=>exactλh=>h.1
    ·exact kY
  |walk f aD=>
   rw[e] at hs;obtain⟨M,aR,y,ha,iY,hT⟩:=hs;have hk:=h1.wt.keep 0 _ ha;rcases hT.sK with mR| ⟨_,hgo⟩
   ·by_cases gJ:G.closed=θ
    ·left
     obtain⟨aY,u,r1,r2⟩:=ends h1 bB gJ e hx ha iY (mR _ hk);exact⟨aY,_,bB,u,eW.trans r1,r2⟩
    ·right
     by_cases hex:∃i,i<X.n/\G.st i=.jD
     ·exact rD (anm h1 bB e hx ha iY mR hex)
     ·exact rD (ann h1 bB e hx ha iY mR (by simpa using gJ) hex)
   ·right
    obtain⟨T',g',w',es,ao,dH,hd,mM⟩:=hgo _ hk;have aiH:Ϙ X.P (0==0) x (w.at d)=.go g' w' es:=by rw[Afj iY.1 iY.2.1 iY.2.2.1];exact dH
    refine DO ha aiH hd ao (by omega) (.inl ⟨rfl,?_⟩)
    unfold gD;simp only[e,fY,upd_same];refine⟨_,_,_,rfl,rB.refl ?_,mM⟩
    rcases mM.sK with dN| ⟨kY,_⟩
    ·exact(dN _ (bR.refl _ _)).at.1
    ·exact kY
  |dp f aD=>
   rw[e] at hs;obtain⟨M,aR,y,z,ha,hr,hT⟩:=hs;rw[hr] at bh;cases bh
 ·right;exact Mo (h.old k x k1 k2 hx) (by omega) (by omega) (.inl ⟨k1,k2⟩)
 ·
  right;obtain⟨x',ij,hs⟩:=h.wk i hi;rw[hx] at ij;obtain rfl:=Ϟ ij;have rL:(X.N0+i==0)=χ:=h.uO i;have Y4:∀ {M:ay} {aR:Ψ},yM X G i->G.act (X.N0+i)=φ ⟨M,x,aR⟩->W2 X M x (w.at d)->pz X wb gs (w.at d) bB t G (X.N0+i):=by
   intro M aR hd ha hW;by_cases hp:∃r,G.cp=.dp r
   ·obtain⟨r,hp⟩:=hp
    exact aoO h1 bB hi hd hx ha hW hp
   ·exact aoP h1 bB hi hd hx ha hW hp
  unfold WSit at hs;cases e:G.st i with
  |no=>rw[e] at hs;exact hs.elim
  |lj=>
   rw[e] at hs;obtain⟨M,aR,ha,hr,hT⟩:=hs;have hk:=h1.wt.keep _ _ ha;rcases hT.sK with mR| ⟨_,hgo⟩
   ·rcases mR _ hk with⟨hn,hS⟩ | ⟨hn,hS⟩
    ·by_cases hp:∃f aD,G.mp=.dp f aD
     ·obtain⟨f,aD,hp⟩:=hp
      exact rD (aoQ h1 bB hi e hx ha hn hS hp)
     ·exact rD (aoR h1 bB hi e hx ha hn hS hp)
    ·exact rD (Y4 (.inr ⟨e,hn⟩) ha hS)
   ·obtain⟨T',g',w',es,ao,dH,hd,mM⟩:=hgo _ hk
    refine DO ha (by rw[rL];exact dH) hd ao (by omega) (.inr (.inl ⟨i,hi,rfl,?_⟩))
    unfold WSit;simp only[e,fY,upd_same];refine⟨_,_,rfl,?_,mM⟩
    rcases mM.sK with dN| ⟨kY,_⟩
    ·rcases dN _ (bR.refl _ _) with⟨_,hS⟩ | ⟨_,hS⟩
     ·exact hS.1
     ·exact hS.1
    ·exact kY
  |jD=>
   rw[e] at hs;obtain⟨M,aR,y,z,ha,hr,_⟩:=hs;rw[hr] at bh;cases bh
  |jj=>
   rw[e] at hs;obtain⟨M,aR,ha,hr,hT⟩:=hs;have hk:=h1.wt.keep _ _ ha;rcases hT.sK with mR| ⟨_,hgo⟩
   ·exact rD (Y4 (.inl e) ha (mR _ hk))
   ·obtain⟨T',g',w',es,ao,dH,hd,mM⟩:=hgo _ hk
    refine DO ha (by rw[rL];exact dH) hd ao (by omega) (.inr (.inl ⟨i,hi,rfl,?_⟩))
    unfold WSit;simp only[e,fY,upd_same];refine⟨_,_,rfl,?_,mM⟩
    rcases mM.sK with dN| ⟨kY,_⟩
    ·exact(dN _ (bR.refl _ _)).1
    ·exact kY
  |jg=>
   rw[e] at hs;obtain⟨M,aR,y,z,ha,hr,_⟩:=hs;rw[hr] at bh;cases bh
  |quit=>
   rw[e] at hs;exact Mo hs.2 (by omega) (by omega) (.inr (.inl ⟨i,hi,rfl,e⟩))
 ·
  right;obtain⟨x',ij,hs⟩:=h.cl br;rw[hx] at ij;obtain rfl:=Ϟ ij;have rL:(X.N0+X.n==0)=χ:=h.uO X.n;unfold CSit at hs;cases e:G.cp with
  |no=>rw[e] at hs;exact hs.elim
  |walk r=>
   rw[e] at hs;obtain⟨M,aR,ha,hr,hT⟩:=hs;have hk:=h1.wt.keep _ _ ha;rcases hT.sK with mR| ⟨_,hgo⟩
   ·cases r with
    |zero=>exact rD (closes h1 bB e hx ha (mR _ hk))
    |succ r=>
     by_cases hex:∃i,i<X.n/\G.st i=.jg
     ·exact rD (ank h1 bB e hx ha (mR _ hk) hex)
     ·exact rD (anl h1 bB e hx ha (mR _ hk) hex)
   ·obtain⟨T',g',w',es,ao,dH,hd,mM⟩:=hgo _ hk
    refine DO ha (by rw[rL];exact dH) hd ao (by omega) (.inr (.inr ⟨rfl,br,?_⟩))
    unfold CSit;simp only[e,fY,upd_same];refine⟨_,_,rfl,?_,mM⟩
    rcases mM.sK with dN| ⟨kY,_⟩
    ·have:=dN _ (bR.refl _ _)
     revert this
     cases r with
     |zero=>exactλh=>h.1
     |succ r=>exactλh=>h.1
    ·exact kY
  |dp r=>
   rw[e] at hs;obtain⟨r',M,aR,y,z,_,ha,hr,_⟩:=hs;rw[hr] at bh;cases bh
  |quit=>
   rw[e] at hs;exact Mo hs.2 (by omega) (by omega) (.inr (.inr ⟨rfl,by unfold Gh.closed;rw[e]⟩))
def afF:∀ {gs:Array ϐ} {w:Ψ} {t:Θ} {G:Gh} (sl:Option (Nat×Nat)),FI X wb gs w t G->
 ∃N aY w' bB t',runNT X.P N (Ϫ gs w sl) t=(.next (Ϫ aY w' bB),t')/\Ends X wb aY w' t':=by
 have key:∀(m:Nat) (tr:Nat->Tree),Acc (Br (X.N0+X.n+1)) tr->∀(s:Nat) {gs:Array ϐ} {w:Ψ} {t:Θ} {G:Gh} (sl:Option (Nat×Nat)),G.mu X=m->G.tr=tr->sumTo (X.N0+X.n+1) G.q=s->FI X wb gs w t G->
  ∃N aY w' bB t',runNT X.P N (Ϫ gs w sl) t=(.next (Ϫ aY w' bB),t')/\Ends X wb aY w' t':=by
  intro m;induction m using Nat.strongRecOn with
  |_ m ihm=>
   intro tr Ep;induction Ep with
   |intro tr _ ajf=>
    intro s;induction s using Nat.strongRecOn with
    |_ s ihs=>
     intro gs w t G sl nN kB I2 hF;rcases afG hF sl with⟨aY,w',bB,u,r1,r2⟩ | ⟨aY,w',bB,u,G',r1,r2,r3⟩
     ·exact⟨1,aY,w',bB,t++u,by simp only[runNT,r1],r2⟩
     ·have fin:(∃N Hy bz oc t',runNT X.P N (Ϫ aY w' bB) (t++u)=(.next (Ϫ Hy bz oc),t')/\Ends X wb Hy bz t')->∃N aY w' bB t',runNT X.P N (Ϫ gs w sl) t=(.next (Ϫ aY w' bB),t')/\Ends X wb aY w' t':=by
       rintro⟨N,Hy,bz,oc,t',q1,q2⟩;exact⟨N+1,Hy,bz,oc,t',by simp only[runNT,r1];exact q1,q2⟩
      apply fin;rcases r3 with ao| ⟨he,dH| ⟨aiQ,ao⟩⟩
      ·exact ihm _ (by rw[<-nN];exact ao) G'.tr (YQ _ _) _ bB rfl rfl rfl r2
      ·exact ajf G'.tr (by rw[<-kB];exact dH) _ bB (he.trans nN) rfl rfl r2
      ·exact ihs _ (by rw[<-I2];exact ao) bB (he.trans nN) (aiQ.trans kB) rfl r2
 exactλ{gs w t G} sl hF=>key _ _ (YQ _ _) _ sl rfl rfl rfl hF
end
end Go.Sim
namespace Go.Tw
open Go Go.Proofs Go.Sim
class aK where
 JY:Func
variable [aK]
def dead:Func:={Tryz.f38 with name:= "left out",body:=ν}
def bad:List Nat:=[0,1,21,38,120,121,124,218,219,220,221,222,223,224,225,226,227,228,229,230,231,232,233,237,238,239]
def vF(f:Nat):Bool:=bad.contains f
def F:Array Func:=(ϋ.funcs.mapIdx λi fn=>if vF i then dead else fn).setIfInBounds 21 aK.JY
def prog:Program:=tw ϋ F
def aqd(P:Program)(F:Array Func):(tw P F).funcs=F:=rfl
def P6:prog.funcs=F:=aqd _ _
def acP(h:P.funcs[f]?=φ fn)(hb:fn.body.isSome=θ):∀g,P.funcs[f]?=φ g->g.body.isSome=θ:=by
 intro g hg;rw[h] at hg;cases hg;exact hb
def RH(f:Nat)(h:vF f=χ):F[f]?=ϋ.funcs[f]?:=by
 have sP:21≠f:=by rintro rfl;exact absurd h (by decide)
 unfold F;rw[Ù,if_neg sP,Aeo]
 cases ϋ.funcs[f]? with
 |none=>rfl
 |some fn=>simp only[é,h,Bool.false_eq_true,if_false]
def aaZ(f:Nat)(h:vF f=θ)(sP:21≠f):F[f]?=ν\/F[f]?=φ dead:=by
 unfold F;rw[Ù,if_neg sP,Aeo]
 cases ϋ.funcs[f]? with
 |none=>exact .inl rfl
 |some fn=>right;simp only[é,h,if_true]
def Be:F[21]?=φ aK.JY:=by
 have hs:21<ϋ.funcs.size:=by
  apply Û;intro h;have:=Tryz.func21;rw[Ė (by omega)] at this;exact absurd this (by simp)
 unfold F;rw[Ù,if_pos rfl,if_pos (by simpa using hs)]
def get(f:Nat)(h:vF f=χ):prog.funcs[f]?=ϋ.funcs[f]?:=by rw[P6];exact RH f h
def aP{g:Func}(h:vF f=χ)(k:ϋ.funcs[f]?=φ g):prog.funcs[f]?=φ g:=(get f h).trans k
def func20:=aP rfl Tryz.func20
def func22:=aP rfl Tryz.func22
def func24:=aP rfl Tryz.func24
def func26:=aP rfl Tryz.func26
def func28:=aP rfl Tryz.func28
def func30:=aP rfl Tryz.func30
def func31:=aP rfl Tryz.func31
def func33:=aP rfl Tryz.func33
def func35:=aP rfl Tryz.func35
def func36:=aP rfl Tryz.func36
def func40:=aP rfl Tryz.func40
def func43:=aP rfl Tryz.func43
def func47:=aP rfl Tryz.func47
def func48:=aP rfl Tryz.func48
def func49:=aP rfl Tryz.func49
def func50:=aP rfl Tryz.func50
def func51:=aP rfl Tryz.func51
def func53:=aP rfl Tryz.func53
def func54:=aP rfl Tryz.func54
def func56:=aP rfl Tryz.func56
def func57:=aP rfl Tryz.func57
def func61:=aP rfl Tryz.func61
def func62:=aP rfl Tryz.func62
def func66:=aP rfl Tryz.func66
def func67:=aP rfl Tryz.func67
def func68:=aP rfl Tryz.func68
def func69:=aP rfl Tryz.func69
def func75:=aP rfl Tryz.func75
def func79:=aP rfl Tryz.func79
def func80:=aP rfl Tryz.func80
def func81:=aP rfl Tryz.func81
def func94:=aP rfl Tryz.func94
def func95:=aP rfl Tryz.func95
def func96:=aP rfl Tryz.func96
def func98:=aP rfl Tryz.func98
def func99:=aP rfl Tryz.func99
def func100:=aP rfl Tryz.func100
def func101:=aP rfl Tryz.func101
def func102:=aP rfl Tryz.func102
def func104:=aP rfl Tryz.func104
def func107:=aP rfl Tryz.func107
def func108:=aP rfl Tryz.func108
def func109:=aP rfl Tryz.func109
def func110:=aP rfl Tryz.func110
def func113:=aP rfl Tryz.func113
def func114:=aP rfl Tryz.func114
def func115:=aP rfl Tryz.func115
def func117:=aP rfl Tryz.func117
def func119:=aP rfl Tryz.func119
def func122:=aP rfl Tryz.func122
def func123:=aP rfl Tryz.func123
def func126:=aP rfl Tryz.func126
def func127:=aP rfl Tryz.func127
def func128:=aP rfl Tryz.func128
def func132:=aP rfl Tryz.func132
def func133:=aP rfl Tryz.func133
def func134:=aP rfl Tryz.func134
def func135:=aP rfl Tryz.func135
def func136:=aP rfl Tryz.func136
def func137:=aP rfl Tryz.func137
def func138:=aP rfl Tryz.func138
def func139:=aP rfl Tryz.func139
def func141:=aP rfl Tryz.func141
def func142:=aP rfl Tryz.func142
def func143:=aP rfl Tryz.func143
def func144:=aP rfl Tryz.func144
def func145:=aP rfl Tryz.func145
def func146:=aP rfl Tryz.func146
def func147:=aP rfl Tryz.func147
def func150:=aP rfl Tryz.func150
def func153:=aP rfl Tryz.func153
def func154:=aP rfl Tryz.func154
def func155:=aP rfl Tryz.func155
def func158:=aP rfl Tryz.func158
def func162:=aP rfl Tryz.func162
def func163:=aP rfl Tryz.func163
def func164:=aP rfl Tryz.func164
def func165:=aP rfl Tryz.func165
def func166:=aP rfl Tryz.func166
def func169:=aP rfl Tryz.func169
def func170:=aP rfl Tryz.func170
def func171:=aP rfl Tryz.func171
def func172:=aP rfl Tryz.func172
def func173:=aP rfl Tryz.func173
def func174:=aP rfl Tryz.func174
def func175:=aP rfl Tryz.func175
def func176:=aP rfl Tryz.func176
def func177:=aP rfl Tryz.func177
def func178:=aP rfl Tryz.func178
def func179:=aP rfl Tryz.func179
def func180:=aP rfl Tryz.func180
def func181:=aP rfl Tryz.func181
def func182:=aP rfl Tryz.func182
def func183:=aP rfl Tryz.func183
def func184:=aP rfl Tryz.func184
def func185:=aP rfl Tryz.func185
def func186:=aP rfl Tryz.func186
def func187:=aP rfl Tryz.func187
def func188:=aP rfl Tryz.func188
def func189:=aP rfl Tryz.func189
def func190:=aP rfl Tryz.func190
def func191:=aP rfl Tryz.func191
def func192:=aP rfl Tryz.func192
def func193:=aP rfl Tryz.func193
def func194:=aP rfl Tryz.func194
def func195:=aP rfl Tryz.func195
def func196:=aP rfl Tryz.func196
def func197:=aP rfl Tryz.func197
def func198:=aP rfl Tryz.func198
def func199:=aP rfl Tryz.func199
def func200:=aP rfl Tryz.func200
def func201:=aP rfl Tryz.func201
def func202:=aP rfl Tryz.func202
def func203:=aP rfl Tryz.func203
def func204:=aP rfl Tryz.func204
def func205:=aP rfl Tryz.func205
def func206:=aP rfl Tryz.func206
def func207:=aP rfl Tryz.func207
def func208:=aP rfl Tryz.func208
def func209:=aP rfl Tryz.func209
def func210:=aP rfl Tryz.func210
def func211:=aP rfl Tryz.func211
def func212:=aP rfl Tryz.func212
def func213:=aP rfl Tryz.func213
def func214:=aP rfl Tryz.func214
def func215:=aP rfl Tryz.func215
def func216:=aP rfl Tryz.func216
def func217:=aP rfl Tryz.func217
def func234:=aP rfl Tryz.func234
def func235:=aP rfl Tryz.func235
def func236:=aP rfl Tryz.func236
section
variable (P:Program)(F:Array Func)
def Zg(t:ό)(w:Ψ):(typeInfo t).run (tw P F) w=(typeInfo t).run P w:=by
 simp only[typeInfo,Go.program,Sem.run,bind,Sem.bind,mm];cases P.info? t<;>rfl
def Ze(t:ό)(w:Ψ):(Go.underlying t).run (tw P F) w=(Go.underlying t).run P w:=by
 simp only[Go.underlying,Go.program,Sem.run,bind,Sem.bind,kJ];cases P.underlying t<;>rfl
def aqf(t:ό)(w:Ψ):(sizeOf t).run (tw P F) w=(sizeOf t).run P w:=by
 simp only[sizeOf,Afv,Zg,Afw]
def aqi(t:ό)(w:Ψ):(zeroValue t).run (tw P F) w=(zeroValue t).run P w:=by
 unfold zeroValue;rw[Afv,Afv,Zg];congr 1;funext i w;cases i.zero with
 |none=>simp only[unsupported,Sem.run]
 |some v=>simp only[Afw]
def aqe(t:ό)(w:Ψ):(isAgg t).run (tw P F) w=(isAgg t).run P w:=by
 unfold isAgg;rw[Afv,Afv,Ze];congr 1;funext i w;cases i<;>simp only[Afw]
def aqb{P:Program}{F:Array Func}(h:(tw P F).funcs[f]?=P.funcs[f]?)(args:Array υ)(w:Ψ)(hs:∀fn,P.funcs[f]?=φ fn->fn.body.isSome=θ){r:Result Next}(hr:(callFunc f args).run P w=r):(callFunc f args).run (tw P F) w=r:=by
 rw[<-hr];simp only[callFunc,Go.program,Sem.run,bind,Sem.bind,h];cases e:P.funcs[f]? with
 |none=>rfl
 |some fn=>
  have hb:=hs fn e;obtain⟨c,hc⟩:=Option.isSome_iff_exists.1 hb;simp only[hc,Option.isNone_some,Bool.false_eq_true,if_false];split<;>rfl
end
@[simp]theorem Ke(t:ό):prog.underlying t=ϋ.underlying t:=kJ _ _ _
@[simp]theorem qS(t:ό): prog.info? t= ϋ.info? t:=mm _ _ _
@[simp]theorem atl(t:ό)(w:Ψ):(Go.underlying t).run prog w=(Go.underlying t).run ϋ w:=Ze _ _ _ _
@[simp]theorem ap3(t:ό)(w:Ψ):(sizeOf t).run prog w=(sizeOf t).run ϋ w:=aqf _ _ _ _
@[simp]theorem QS(t:ό)(w:Ψ):(zeroValue t).run prog w=(zeroValue t).run ϋ w:=aqi _ _ _ _
@[simp]theorem ap2(t:ό)(w:Ψ):(isAgg t).run prog w=(isAgg t).run ϋ w:=aqe _ _ _ _
@[simp]theorem Kd(t:ό):prog.stoodInHeld t=ϋ.stoodInHeld t:=Zf _ _ _
@[simp]theorem atk(d:Nat)(t:ό):prog.eqGuardType d t=ϋ.eqGuardType d t:=Kh _ _ _ _
@[simp]theorem atj:prog.depth=ϋ.depth:=C9 _ _
def aU(h:vF f=χ)(hf:ϋ.funcs[f]?=φ fn)(hb:fn.body.isSome=θ)(args:Array υ)(w:Ψ)(hc:(callFunc f args).run ϋ w=.ok (.enter f args) w):(callFunc f args).run prog w=.ok (.enter f args) w:=aqb (get f h) args w (acP hf hb) hc
variable (args:Array υ)(w:Ψ)
@[simp]def call20:=aU rfl Tryz.func20 rfl args w (Tryz.call20 args w)
@[simp]def call22:=aU rfl Tryz.func22 rfl args w (Tryz.call22 args w)
@[simp]def call24:=aU rfl Tryz.func24 rfl args w (Tryz.call24 args w)
@[simp]def call26:=aU rfl Tryz.func26 rfl args w (Tryz.call26 args w)
@[simp]def call28:=aU rfl Tryz.func28 rfl args w (Tryz.call28 args w)
@[simp]def call30:=aU rfl Tryz.func30 rfl args w (Tryz.call30 args w)
@[simp]def call31:=aU rfl Tryz.func31 rfl args w (Tryz.call31 args w)
@[simp]def call33:=aU rfl Tryz.func33 rfl args w (Tryz.call33 args w)
@[simp]def call35:=aU rfl Tryz.func35 rfl args w (Tryz.call35 args w)
@[simp]def call36:=aU rfl Tryz.func36 rfl args w (Tryz.call36 args w)
@[simp]def call40:=aU rfl Tryz.func40 rfl args w (Tryz.call40 args w)
@[simp]def call43:=aU rfl Tryz.func43 rfl args w (Tryz.call43 args w)
@[simp]def call47:=aU rfl Tryz.func47 rfl args w (Tryz.call47 args w)
@[simp]def call48:=aU rfl Tryz.func48 rfl args w (Tryz.call48 args w)
@[simp]def call49:=aU rfl Tryz.func49 rfl args w (Tryz.call49 args w)
@[simp]def call50:=aU rfl Tryz.func50 rfl args w (Tryz.call50 args w)
@[simp]def call51:=aU rfl Tryz.func51 rfl args w (Tryz.call51 args w)
@[simp]def call53:=aU rfl Tryz.func53 rfl args w (Tryz.call53 args w)
@[simp]def call54:=aU rfl Tryz.func54 rfl args w (Tryz.call54 args w)
@[simp]def call56:=aU rfl Tryz.func56 rfl args w (Tryz.call56 args w)
@[simp]def call57:=aU rfl Tryz.func57 rfl args w (Tryz.call57 args w)
@[simp]def call61:=aU rfl Tryz.func61 rfl args w (Tryz.call61 args w)
@[simp]def call62:=aU rfl Tryz.func62 rfl args w (Tryz.call62 args w)
@[simp]def call66:=aU rfl Tryz.func66 rfl args w (Tryz.call66 args w)
@[simp]def call67:=aU rfl Tryz.func67 rfl args w (Tryz.call67 args w)
@[simp]def call68:=aU rfl Tryz.func68 rfl args w (Tryz.call68 args w)
@[simp]def call69:=aU rfl Tryz.func69 rfl args w (Tryz.call69 args w)
@[simp]def call75:=aU rfl Tryz.func75 rfl args w (Tryz.call75 args w)
@[simp]def call79:=aU rfl Tryz.func79 rfl args w (Tryz.call79 args w)
@[simp]def call80:=aU rfl Tryz.func80 rfl args w (Tryz.call80 args w)
@[simp]def call81:=aU rfl Tryz.func81 rfl args w (Tryz.call81 args w)
@[simp]def call94:=aU rfl Tryz.func94 rfl args w (Tryz.call94 args w)
@[simp]def call95:=aU rfl Tryz.func95 rfl args w (Tryz.call95 args w)
@[simp]def call96:=aU rfl Tryz.func96 rfl args w (Tryz.call96 args w)
@[simp]def call98:=aU rfl Tryz.func98 rfl args w (Tryz.call98 args w)
@[simp]def call99:=aU rfl Tryz.func99 rfl args w (Tryz.call99 args w)
@[simp]def call100:=aU rfl Tryz.func100 rfl args w (Tryz.call100 args w)
@[simp]def call101:=aU rfl Tryz.func101 rfl args w (Tryz.call101 args w)
@[simp]def call102:=aU rfl Tryz.func102 rfl args w (Tryz.call102 args w)
@[simp]def call107:=aU rfl Tryz.func107 rfl args w (Tryz.call107 args w)
@[simp]def call108:=aU rfl Tryz.func108 rfl args w (Tryz.call108 args w)
@[simp]def call109:=aU rfl Tryz.func109 rfl args w (Tryz.call109 args w)
@[simp]def call110:=aU rfl Tryz.func110 rfl args w (Tryz.call110 args w)
@[simp]def call113:=aU rfl Tryz.func113 rfl args w (Tryz.call113 args w)
@[simp]def call114:=aU rfl Tryz.func114 rfl args w (Tryz.call114 args w)
@[simp]def call115:=aU rfl Tryz.func115 rfl args w (Tryz.call115 args w)
@[simp]def call117:=aU rfl Tryz.func117 rfl args w (Tryz.call117 args w)
@[simp]def call119:=aU rfl Tryz.func119 rfl args w (Tryz.call119 args w)
@[simp]def call122:=aU rfl Tryz.func122 rfl args w (Tryz.call122 args w)
@[simp]def call123:=aU rfl Tryz.func123 rfl args w (Tryz.call123 args w)
@[simp]def call126:=aU rfl Tryz.func126 rfl args w (Tryz.call126 args w)
@[simp]def call127:=aU rfl Tryz.func127 rfl args w (Tryz.call127 args w)
@[simp]def call128:=aU rfl Tryz.func128 rfl args w (Tryz.call128 args w)
@[simp]def call132:=aU rfl Tryz.func132 rfl args w (Tryz.call132 args w)
@[simp]def call133:=aU rfl Tryz.func133 rfl args w (Tryz.call133 args w)
@[simp]def call134:=aU rfl Tryz.func134 rfl args w (Tryz.call134 args w)
@[simp]def call135:=aU rfl Tryz.func135 rfl args w (Tryz.call135 args w)
@[simp]def call136:=aU rfl Tryz.func136 rfl args w (Tryz.call136 args w)
@[simp]def call137:=aU rfl Tryz.func137 rfl args w (Tryz.call137 args w)
@[simp]def call138:=aU rfl Tryz.func138 rfl args w (Tryz.call138 args w)
@[simp]def call139:=aU rfl Tryz.func139 rfl args w (Tryz.call139 args w)
@[simp]def call141:=aU rfl Tryz.func141 rfl args w (Tryz.call141 args w)
@[simp]def call142:=aU rfl Tryz.func142 rfl args w (Tryz.call142 args w)
@[simp]def call143:=aU rfl Tryz.func143 rfl args w (Tryz.call143 args w)
@[simp]def call144:=aU rfl Tryz.func144 rfl args w (Tryz.call144 args w)
@[simp]def call145:=aU rfl Tryz.func145 rfl args w (Tryz.call145 args w)
@[simp]def call146:=aU rfl Tryz.func146 rfl args w (Tryz.call146 args w)
@[simp]def call147:=aU rfl Tryz.func147 rfl args w (Tryz.call147 args w)
@[simp]def call150:=aU rfl Tryz.func150 rfl args w (Tryz.call150 args w)
@[simp]def call153:=aU rfl Tryz.func153 rfl args w (Tryz.call153 args w)
@[simp]def call154:=aU rfl Tryz.func154 rfl args w (Tryz.call154 args w)
@[simp]def call155:=aU rfl Tryz.func155 rfl args w (Tryz.call155 args w)
@[simp]def call158:=aU rfl Tryz.func158 rfl args w (Tryz.call158 args w)
@[simp]def call162:=aU rfl Tryz.func162 rfl args w (Tryz.call162 args w)
@[simp]def call165:=aU rfl Tryz.func165 rfl args w (Tryz.call165 args w)
@[simp]def call166:=aU rfl Tryz.func166 rfl args w (Tryz.call166 args w)
@[simp]def call169:=aU rfl Tryz.func169 rfl args w (Tryz.call169 args w)
@[simp]def call170:=aU rfl Tryz.func170 rfl args w (Tryz.call170 args w)
@[simp]def call171:=aU rfl Tryz.func171 rfl args w (Tryz.call171 args w)
@[simp]def call172:=aU rfl Tryz.func172 rfl args w (Tryz.call172 args w)
@[simp]def call173:=aU rfl Tryz.func173 rfl args w (Tryz.call173 args w)
@[simp]def call174:=aU rfl Tryz.func174 rfl args w (Tryz.call174 args w)
@[simp]def call175:=aU rfl Tryz.func175 rfl args w (Tryz.call175 args w)
@[simp]def call176:=aU rfl Tryz.func176 rfl args w (Tryz.call176 args w)
@[simp]def call177:=aU rfl Tryz.func177 rfl args w (Tryz.call177 args w)
@[simp]def call178:=aU rfl Tryz.func178 rfl args w (Tryz.call178 args w)
@[simp]def call179:=aU rfl Tryz.func179 rfl args w (Tryz.call179 args w)
@[simp]def call180:=aU rfl Tryz.func180 rfl args w (Tryz.call180 args w)
@[simp]def call181:=aU rfl Tryz.func181 rfl args w (Tryz.call181 args w)
@[simp]def call182:=aU rfl Tryz.func182 rfl args w (Tryz.call182 args w)
@[simp]def call183:=aU rfl Tryz.func183 rfl args w (Tryz.call183 args w)
@[simp]def call184:=aU rfl Tryz.func184 rfl args w (Tryz.call184 args w)
@[simp]def call185:=aU rfl Tryz.func185 rfl args w (Tryz.call185 args w)
@[simp]def call186:=aU rfl Tryz.func186 rfl args w (Tryz.call186 args w)
@[simp]def call187:=aU rfl Tryz.func187 rfl args w (Tryz.call187 args w)
@[simp]def call188:=aU rfl Tryz.func188 rfl args w (Tryz.call188 args w)
@[simp]def call189:=aU rfl Tryz.func189 rfl args w (Tryz.call189 args w)
@[simp]def call201:=aU rfl Tryz.func201 rfl args w (Tryz.call201 args w)
@[simp]def call202:=aU rfl Tryz.func202 rfl args w (Tryz.call202 args w)
@[simp]def call204:=aU rfl Tryz.func204 rfl args w (Tryz.call204 args w)
@[simp]def call205:=aU rfl Tryz.func205 rfl args w (Tryz.call205 args w)
@[simp]def call206:=aU rfl Tryz.func206 rfl args w (Tryz.call206 args w)
@[simp]def call207:=aU rfl Tryz.func207 rfl args w (Tryz.call207 args w)
@[simp]def call208:=aU rfl Tryz.func208 rfl args w (Tryz.call208 args w)
@[simp]def call209:=aU rfl Tryz.func209 rfl args w (Tryz.call209 args w)
@[simp]def call215:=aU rfl Tryz.func215 rfl args w (Tryz.call215 args w)
@[simp]def call216:=aU rfl Tryz.func216 rfl args w (Tryz.call216 args w)
@[simp]def call234:=aU rfl Tryz.func234 rfl args w (Tryz.call234 args w)
@[simp]def call235:=aU rfl Tryz.func235 rfl args w (Tryz.call235 args w)
@[simp]def call236:=aU rfl Tryz.func236 rfl args w (Tryz.call236 args w)
end Go.Tw
def Go.RowKit.Hid.e{p:Prop}(h:Go.RowKit.Hid p):p:=Go.RowKit.Hid.out h
namespace Go.Tw
open Go Go.RowKit
def b9(a:Addr)(n:Nat):(a.add n).block=a.block:=by unfold Addr.add;split<;>rfl
def Sx(a:Addr)(i j:Nat):(a.add i).add j=a.add (i+j):=by
 unfold Addr.add;by_cases hi:i=0<;>by_cases hj:j=0<;>simp[hi,hj,Nat.add_assoc]
def Δ(B:Nat)(w w':Ψ):Prop:=∀p:Addr,p.block<B-> w'.cell? p= w.cell? p
def Δ.refl(w:Ψ):Δ B w w:=λ_ _=>rfl
def Δ.trans{B:Nat}{a b c:Ψ}(h:Δ B a b)(k:Δ B b c):Δ B a c:=λp hp=>(k p hp).trans (h p hp)
def Δ.aJ{B':Nat}(h:Γ B' w w')(hB:B<=B'):Δ B w w':=λ_ hp=>h.cell (by omega)
def Δ.alloc{B:Nat}{a w:Ψ}(h:Δ B a w)(hB:B<=w.heap.size)(o:Obj):Δ B a (w.alloc o):=λp hp=>(ù w o p (by omega)).trans (h p hp)
def Row(w:Ψ)(B sz:Nat)(R:α->List υ->Prop)(v:υ)(xs:List α):Prop:=
 ∃A c,v=ζ A xs.length c/\xs.length<=c/\c<=ϑ/\(xs≠ []->∃ad,A=φ ad/\ad.block<B/\
  ∀i x,xs[i]?=φ x->∃cs,R x cs/\cs.length=sz/\∀j u,cs[j]?=φ u-> w.cell? (ad.add (i * sz+j))=φ u)
section
variable {α:Type}{w w':Ψ}{B B' sz:Nat}{R R':α->List υ->Prop}{v:υ}{xs:List α}
def Row.still(h:Row w B sz R v xs)(hs:Δ B w w')(hR:∀x cs,R x cs->R' x cs):Row w' B sz R' v xs:=by
 obtain⟨A,c,hv,h1,h2,h3⟩:=h;refine⟨A,c,hv,h1,h2,λhx=>?_⟩
 obtain⟨ad,ha,hb,hc⟩:=h3 hx;refine⟨ad,ha,hb,λi x hi=>?_⟩
 obtain⟨cs,r,hl,aq⟩:=hc i x hi;exact⟨cs,hR _ _ r,hl,λj u hu=>(hs _ (by rw[b9];exact hb)).trans (aq j u hu)⟩
def Row.more(h:Row w B sz R v xs)(hB:B<=B'):Row w B' sz R v xs:=by
 obtain⟨A,c,hv,h1,h2,h3⟩:=h;refine⟨A,c,hv,h1,h2,λhx=>?_⟩
 obtain⟨ad,ha,hb,hc⟩:=h3 hx;exact⟨ad,ha,by omega,hc⟩
def Row.nil:Row w B sz R (ζ ν 0 0) ([]:List α):=⟨ν,0,rfl,ϊ _,by unfold ϑ;omega,λh=>absurd rfl h⟩
def Row.Φ(h:Row w B sz R v xs):∃A n c,v=ζ A n c/\xs.length=n/\n<=c/\c<=ϑ/\
 ∀i,i<n->∃ad x cs,A=φ ad/\ad.block<B/\xs[i]?=φ x/\R x cs/\cs.length=sz/\∀j u,cs[j]?=φ u-> w.cell? (ad.add (i * sz+j))=φ u:=by
 obtain⟨A,c,hv,h1,h2,h3⟩:=h;refine⟨A,xs.length,c,hv,rfl,h1,h2,λi hi=>?_⟩
 obtain⟨ad,ha,hb,hc⟩:=h3 (by intro e;subst e;simp at hi)
 obtain⟨cs,r,hl,aq⟩:=hc i xs[i] (Ã hi)
 exact⟨ad,xs[i],cs,ha,hb,Ã hi,r,hl,aq⟩
end
def cA{cs:List υ}(h:∀j u,cs[j]?=φ u-> w.cell? (ad.add (k+j))=φ u)(hs:Δ B w w')(hb:ad.block<B){u:υ}(hu:cs[0]?=φ u): w'.cell? (ad.add k)=φ u:=
 (hs _ (by rw[b9];exact hb)).trans (h 0 u hu)
def bj{cs:List υ}(h:∀j u,cs[j]?=φ u-> w.cell? (ad.add (k+j))=φ u)(hs:Δ B w w')(hb:ad.block<B)(j:Nat){u:υ}(hu:cs[j+1]?=φ u): w'.cell? ⟨(ad.add k).block,(ad.add k).off+(j+1),ν⟩=φ u:=by
 have e:(⟨(ad.add k).block,(ad.add k).off+(j+1),ν⟩:Addr)=ad.add (k+(j+1)):=by rw[<-Sx];rfl
 rw[e];exact(hs _ (by rw[b9];exact hb)).trans (h (j+1) u hu)
def dT{a:Ψ}(h:Γ B a w):Γ B a w.drew:=⟨h.os,h.tape,h.output,h.size,h.block⟩
def jr{a:Ψ}(h:Γ B a w)(n:Nat):Γ B a (w.drewN n):=⟨h.os,h.tape,h.output,h.size,h.block⟩
def bm{b:Int}(h:a=b):Ending.returned (ξ κ a)=Ω (ξ κ b):=by rw[h]
def bU{a b:Bool}(h:a=b):Ending.returned (.bool a)=Ω (.bool b):=by rw[h]
structure Span where
 lo:Int
 hi:Int
 deriving DecidableEq
structure Piece where
 name:ByteArray
 len:Span
 bears:Int
structure bN where
 name:ByteArray
 aL:Int
 cM:List Span
structure Tape where
 pieces:List Int
 sum:Span
structure eR where
 ab:Int
 pieces:List Piece
 aC:List bN
 aI:List Tape
structure Cut where
 bt:Int
 from_:Int
 deriving DecidableEq
def Span.R(x:Span)(cs:List υ):Prop:=cs=[ξ κ x.lo,ξ κ x.hi]
structure al where
 a:Int
 b:Int
 c:Int
 deriving DecidableEq
def al.R(x:al)(cs:List υ):Prop:=cs=[ξ κ x.a,ξ κ x.b,ξ κ x.c]
def qL(p:α->Bool)(l:List α):Int:=match l.findIdx? p with
 |some i=>i
 |none=> -1
def Fu{p:α->Bool}{l:List α}{x:α}(hx:l[i]?=φ x)(hp:p x=θ)(h:∀(j:Nat) (y:α),j<i->l[j]?=φ y->p y=χ):qL p l=i:=by
 have hl:=(Ϯ.1 hx)
 obtain⟨ao,e⟩:=hl;have: l.findIdx? p=φ i:=by
  rw[Agb]
  exact⟨ao,by rw[e];exact hp,λj hj=>by simpa using h j _ hj (Ã (by omega))⟩
 unfold qL;rw[this]
def Ft{p:α->Bool}{l:List α}(h:∀(j:Nat) (y:α),l[j]?=φ y->p y=χ):qL p l= -1:=by
 have: l.findIdx? p=ν:=by
  rw[Agc]
  intro x hx;obtain⟨j,hj⟩:=List.getElem?_of_mem hx
  simpa using h j x hj
 unfold qL;rw[this]
def Cy{p:α->Bool}{l:List α}:l.any p=θ↔0<=qL p l:=by
 unfold qL;cases h: l.findIdx? p with
 |none=>rw[Agc] at h;simp;exactλx hx=>by simpa using h x hx
 |some i=>
  rw[Agb] at h
  obtain⟨hi,hp,_⟩:=h;simp only[List.any_eq_true];exact⟨λ_=>by simp,λ_=>⟨_,List.getElem_mem hi,hp⟩⟩
def Fs{p:α->Bool}{l:List α}:l.any p=χ↔qL p l<0:=by
 have:=Cy (p:=p) (l:=l);rw[<-Int.not_le,<-this];simp
def bI(n:Int)(cs:List υ):Prop:=cs=[ξ κ n]
def Cut.R(x:Cut)(cs:List υ):Prop:=cs=[ξ κ x.bt,ξ κ x.from_]
def Piece.R(x:Piece)(cs:List υ):Prop:=cs=[.string x.name,ξ κ x.len.lo,ξ κ x.len.hi,ξ κ x.bears]/\x.name.size<=ϑ
def bN.R(w:Ψ)(B:Nat)(x:bN)(cs:List υ):Prop:=∃kv,cs=[.string x.name,ξ κ x.aL,kv]/\x.name.size<=ϑ/\Row w B 2 Span.R kv x.cM
def Tape.R(w:Ψ)(B:Nat)(x:Tape)(cs:List υ):Prop:=∃pv,cs=[pv,ξ κ x.sum.lo,ξ κ x.sum.hi]/\Row w B 1 bI pv x.pieces
def bN.R.still{w w':Ψ}{B:Nat}{x:bN}{cs:List υ}(h:bN.R w B x cs)(hs:Δ B w w'):bN.R w' B x cs:=by
 obtain⟨kv,h1,h2,h3⟩:=h;exact⟨kv,h1,h2,h3.still hs λ_ _ h=>h⟩
def Tape.R.still{w w':Ψ}{B:Nat}{x:Tape}{cs:List υ}(h:Tape.R w B x cs)(hs:Δ B w w'):Tape.R w' B x cs:=by
 obtain⟨kv,h1,h3⟩:=h;exact⟨kv,h1,h3.still hs λ_ _ h=>h⟩
structure aQ(w:Ψ)(B:Nat)(b:eR)(pv bv tv:υ):Prop where
 pieces:Row w B 4 Piece.R pv b.pieces
 aC:Row w B 3 (bN.R w B) bv b.aC
 aI:Row w B 3 (Tape.R w B) tv b.aI
def aQ.still{w w':Ψ}{B:Nat}{b:eR}{pv bv tv:υ}(h:aQ w B b pv bv tv)(hs:Δ B w w'):aQ w' B b pv bv tv:=
 ⟨h.pieces.still hs λ_ _ h=>h,h.aC.still hs λ_ _ h=>h.still hs,h.aI.still hs λ_ _ h=>h.still hs⟩
end Go.Tw
namespace Go.Tw
variable [Go.Tw.aK]
open Go Go.Proofs Go.RowKit
def cj(n lo hi:Int):Bool:=decide (lo<=n) && decide (n<=hi)
def inside(n lo hi:Int)(w:Ψ):ύ prog 134 #[ξ κ n,ξ κ lo,ξ κ hi] w λe w'=>e=Ω (.bool (cj n lo hi))/\w=w':=by
 go_enter func134,Tryz.ntmps134;go_wp2;all_goals go_ret
 all_goals (refine⟨bU ?_,rfl⟩;unfold cj;first| (simp;done) | (simp;omega))
def kh(i:Nat)(c:Int):Bool:=(decide (97<=c) && decide (c<=122)) || (decide (0<i) && (decide (48<=c) && decide (c<=57)))
def wP:Nat->List UInt8->Bool
 |_,[]=>θ
 |i,c::l=>kh i c.toNat && wP (i+1) l
def nU(l:List UInt8):Bool:=wP 0 l && cj l.length 1 10
def Tp:∀(l:List UInt8) (i k:Nat) (c:UInt8),wP i l=θ->l[k]?=φ c->kh (i+k) c.toNat=θ
 | [],_,_,_,_,h=>by simp at h
 |d::l,i,0,c,h,hk=>by simp at hk;subst hk;simp[wP] at h;exact h.1
 |d::l,i,k+1,c,h,hk=>by
  simp[wP] at h;have:=Tp l (i+1) k c h.2 (by simpa using hk)
  rwa[show i+(k+1)=i+1+k by omega]
def MB:∀(l:List UInt8) (i:Nat),(∀k c,l[k]?=φ c->kh (i+k) c.toNat=θ)->wP i l=θ
 | [],_,_=>rfl
 |d::l,i,h=>by
  simp only[wP,Bool.and_eq_true];exact⟨h 0 d rfl,MB l (i+1) λk c hk=>by have:=h (k+1) c (by simpa using hk);rwa[show i+(k+1)=i+1+k by omega] at this⟩
def ad7(s:ByteArray)(w:Ψ):∃C cap m,(convert 9 228 (.string s)).run prog w=.ok (ζ (φ ⟨w.heap.size,0,ν⟩) s.size cap) (w.drew.alloc (.cells C 5 m))/\
 ∀i (h:i<s.size),C[i]?=φ (.int .u8 (s[i].toNat:Int)):=by
 refine⟨_,_,_,run_bytes_of_string (P:=prog) w 9 228 5 s ((Ke _).trans Tryz.underlying9) ((Ke _).trans Tryz.underlying228) ((Ke _).trans Tryz.underlying5),λi h=>?_⟩
 rw[bytesRow,Array.getElem?_append_left (by simpa using h)]
 simp[Đ]
 exact⟨_,õ (by simpa using h),rfl⟩
def DQ{s:ByteArray}(h:n<s.size):s.data.toList[n]?=φ s[n]:=by
 rw[Ã (by simpa using h)];rfl
def PU{l:List UInt8}{c:UInt8}(h:l[n]?=φ c)(hb:kh n c.toNat=χ):nU l=χ:=by
 unfold nU;cases e:wP 0 l with
 |false=>rfl
 |true=>have:=Tp l 0 n c e h;rw[Nat.zero_add,hb] at this;cases this
def isName{s:ByteArray}(hs:s.size<=ϑ)(w:Ψ):
 ύ prog 182 #[.string s] w λe w'=>e=Ω (.bool (nU s.data.toList))/\Γ w.heap.size w w':=by
 unfold ϑ at hs;obtain⟨C,cap,m,aho,hC⟩:=ad7 s w;have H:=ψ hC;clear hC;go_enter func182,Tryz.ntmps182;go_wp2;clear aho
 go_loop [3,4,8] (λi c k=>∃n:Nat,n<=s.size/\k=ξ κ n/\∀j c,j<n->s.data.toList[j]?=φ c->kh j c.toNat=θ) (λ_ _ k=>s.size - (Ϭ k).toNat)
 case atStart=>exact⟨0,Ϡ _,rfl,λj _ hj=>by omega⟩
 case round=>
  obtain⟨n,hn,rfl,bS⟩:=hrel;have HA:=ψ bS;clear bS;by_cases ao:n<s.size
  ·have hc:(w.alloc (.cells C 5 m)).cell? ⟨w.heap.size,n,ν⟩=φ (.int .u8 (s[n].toNat:Int)):=by
    rw[ĵ];exact H.e n ao
   go_wp2;all_goals try simp only[Bool.not_eq_true',Bool.not_eq_false',decide_eq_true_eq,decide_eq_false_iff_not] at *
   all_goals first
    | (go_round
       case rel=>
        refine⟨n+1,by omega,by go_num,λj c hj qu=>?_⟩
        rcases Æ.1 hj with h|rfl
        ·exact HA.e j c h qu
        ·have e:c=s[j]:=by simpa using((DQ ao).symm.trans qu).symm
         subst e;simp only[kh,Bool.or_eq_true,Bool.and_eq_true,decide_eq_true_eq];omega
       case measure=>simp[Ϭ];omega)
    | (go_ret
       refine⟨bU (Eq.symm (PU (DQ ao) ?_)),dT ((ώ _ _).alloc (ϊ _) _)⟩
       simp only[kh,Bool.or_eq_false_iff,Bool.and_eq_false_iff,decide_eq_false_iff_not];omega)
  ·obtain rfl:n=s.size:=by omega
   go_wp2_with (first
    | (go_at_call 134;refine(inside _ _ _ _).mono ?_;rintro e w' ⟨rfl,rfl⟩))
   go_ret;refine⟨bU ?_,dT ((ώ _ _).alloc (ϊ _) _)⟩
   simp[nU,MB s.data.toList 0 (λk c hk=>by
    have:=HA.e k c (by have:=(Ϯ.1 hk).1;simpa using this) hk;simpa using this)]
def ye(a b:Int)(k:Span):Bool:=decide (k.lo<=b) && decide (a<=k.hi)
def lG(l:List Span)(a b:Int):Int:=(l.filter (ye a b)).length
def alo(l:List Span)(a b:Int):0<=lG l a b/\lG l a b<=l.length:=by
 unfold lG;have:=Agd (ye a b) l;omega
def alp(l:List Span)(x:Span)(a b:Int):lG (l++ [x]) a b=lG l a b+if ye a b x then 1 else 0:=by
 unfold lG;by_cases h:ye a b x<;>simp[h]
def pT{l:List α}{x:α}(h:l[i]?=φ x):l.take (i+1)=l.take i++ [x]:=by
 rw[List.take_add_one,h];rfl
def met{aL b:Int}{ks:List Span}{kv:υ}(hk:Row w B 2 Span.R kv ks)(hB:B<=w.heap.size):
 ύ prog 132 #[η #[.string nm,ξ κ aL,kv],η #[ξ κ a,ξ κ b]] w λe w'=>e=Ω (ξ κ (lG ks a b))/\Γ w.heap.size w w':=by
 obtain⟨A,n,c,rfl,hl,ey,hc,hr⟩:=hk.Φ;unfold ϑ at hc;have H:=ψ hl;have H2:=ψ hr;clear hl hr hk;go_enter func132,Tryz.ntmps132;go_wp2;go_loopw [5,7,11] (λm t k wr=>∃i:Nat,i<=n/\k=ξ κ i/\m=ξ κ (lG (ks.take i) a b)/\Γ (w.heap.size+2) ((w.alloc (ϣ #[Value.string nm,Ϝ ϙ aL,Value.slice A n c] 59)).alloc
 (ϣ #[Ϝ ϙ a,Ϝ ϙ b] 37)) wr) (λ_ _ k _=>n - (Ϭ k).toNat)
 case atStart=>exact⟨0,Ϡ _,rfl,rfl,ώ _ _⟩
 case round=>
  obtain⟨i,hi,rfl,rfl,hb⟩:=hrel;have hm:=alo (ks.take i) a b;have hml:(ks.take i).length<=i:=Age _ _;by_cases ao:i<n
  ·obtain⟨ad,x,cs,rfl,aE,hx,rfl,-,aq⟩:=H2.e i ao
   have st:=(Δ.aJ hb (by omega:B<=w.heap.size+2))
   have QH:=((Δ.refl (B:=B) w).alloc hB (ϣ #[Value.string nm,Ϝ ϙ aL,Value.slice (φ ad) n c] 59)).alloc (by simp;omega) (ϣ #[Ϝ ϙ a,Ϝ ϙ b] 37)
   have h0:=cA aq (QH.trans st) aE rfl;have h1:=bj aq (QH.trans st) aE 0 rfl;have h2: wr.cell? ⟨w.heap.size+1,0,ν⟩=φ (ξ κ a):=(hb.cell (p:=⟨w.heap.size+1,0,ν⟩) (by simp)).trans (by simp[go_sem])
   have h3: wr.cell? ⟨w.heap.size+1,1,ν⟩=φ (ξ κ b):=(hb.cell (p:=⟨w.heap.size+1,1,ν⟩) (by simp)).trans (by simp[go_sem])
   have hz:w.heap.size+1<wr.heap.size:=by have:=hb.size;simp at this;omega
   have HH:=ψ (Ϗ hx hb);clear hx hb aq st QH;go_wp2;all_goals
    go_roundw;case rel=>
     have hb:=HH.e.2;refine⟨i+1,by omega,by go_num,?_,hb.trans ((ώ _ _).alloc (by omega) _)⟩
     rw[pT HH.e.1,alp];have e:ye a b x=(decide (x.lo<=b) && decide (a<=x.hi)):=rfl
     first
      | (rw[if_pos (by rw[e];simp;omega)])
      | (rw[if_neg (by rw[e];simp;omega)];go_num)
    case measure=>simp[Ϭ];omega
  ·have dc:i=n:=by omega
   subst dc;go_wp2;go_ret;refine⟨bm ?_,?_⟩
   ·have:=H.e
    simp[Ċ (ú this)]
   ·exact(((ώ _ _).alloc (ϊ _) _).alloc (by simp) _).trans (hb.mono (by simp))
abbrev fv(K:Nat)(lb:Array υ):υ:=.func (.func K) #[] lb
def WJ{l:List Piece}(p:Piece->Bool)(eg:∀args w,(callFunc K args).run prog w=.ok (.enter K args) w)
 (hv:Row w B 4 Piece.R v l)(hB:B<=w.heap.size)
 (hK:∀(W:Ψ) (x:Piece),Γ w.heap.size w W->x.name.size<=ϑ->x∈l->ύ prog K (#[η #[.string x.name,ξ κ x.len.lo,ξ κ x.len.hi,ξ κ x.bears]]++lb) W λe W'=>e=Ω (.bool (p x))/\Γ W.heap.size W W'):
 ύ prog 204 #[v,fv K lb] w λe w'=>e=Ω (ξ κ (qL p l))/\Γ w.heap.size w w':=by
 obtain⟨A,n,c,rfl,hl,ey,hc,hr⟩:=hv.Φ;unfold ϑ at hc;have H:=ψ hl;have H2:=ψ hr;have HK:=ψ hK;clear hl hr hv hK;go_enter func204,Tryz.ntmps204;go_wp2;go_loopw [5,8] (λt k wr=>∃i:Nat,i<=n/\k=ξ κ i/\(∀j x,j<i->l[j]?=φ x->p x=χ)/\Γ w.heap.size w wr) (λ_ k _=>n - (Ϭ k).toNat)
 case atStart=>exact⟨0,Ϡ _,rfl,λj _ hj=>by omega,ώ _ _⟩
 case round=>
  obtain⟨i,hi,rfl,bS,hb⟩:=hrel;have HH:=ψ (Ϗ bS hb);by_cases ao:i<n
  ·obtain⟨ad,x,cs,rfl,aE,hx,⟨rfl,dD⟩,-,aq⟩:=H2.e i ao
   have st:=Δ.aJ hb hB;have h0:=cA aq st aE rfl;have h1:=bj aq st aE 0 rfl;have h2:=bj aq st aE 1 rfl;have h3:=bj aq st aE 2 rfl;have HX:=ψ hx;clear bS hb hx aq st;go_wp2;refine(HK.e wr x HH.e.2 dD (Ϩ HX.e)).mono ?_
   rintro e w1 ⟨rfl,ai⟩;have HB:=ψ ai;clear ai;cases hp:p x with
   |true=>
    go_wp2;go_ret;exact⟨bm (Fu HX.e hp HH.e.1).symm,HH.e.2.trans (HB.e.mono HH.e.2.size)⟩
   |false=>
    go_wp2;go_roundw;case rel=>exact⟨i+1,by omega,by go_num,λj y hj hy=>by
     rcases Æ.1 hj with h|rfl
     ·exact HH.e.1 j y h hy
     ·rw[HX.e] at hy;cases hy;exact hp,HH.e.2.trans (HB.e.mono HH.e.2.size)⟩
    case measure=>simp[Ϭ];omega
  ·have dc:i=n:=by omega
   subst dc;go_wp2;go_ret;exact⟨bm (Ft (λj x hj=>HH.e.1 j x (by have:=(Ϯ.1 hj).1;have:=H.e;omega) hj)).symm,HH.e.2⟩
def Hj{l:List Piece}(p:Piece->Bool)(eg:∀args w,(callFunc K args).run prog w=.ok (.enter K args) w)
 (hv:Row w B 4 Piece.R v l)(hB:B<=w.heap.size)
 (hK:∀(W:Ψ) (x:Piece),Γ w.heap.size w W->x.name.size<=ϑ->x∈l->ύ prog K (#[η #[.string x.name,ξ κ x.len.lo,ξ κ x.len.hi,ξ κ x.bears]]++lb) W λe W'=>e=Ω (.bool (p x))/\Γ W.heap.size W W'):
 ύ prog 183 #[v,fv K lb] w λe w'=>e=Ω (.bool (l.any p))/\Γ w.heap.size w w':=by
 have HV:=ψ hv;have HK:=ψ hK;clear hv hK;cases hp:l.any p with
 |true=>
  have hi:=(Cy (l:=l) (p:=p)).1 hp;go_enter func183,Tryz.ntmps183;go_wp2;refine(WJ p eg HV.e hB HK.e).mono ?_
  rintro e w1 ⟨rfl,ai⟩;go_wp2;go_ret;exact⟨bU rfl,ai⟩
 |false=>
  have hi:=(Fs (l:=l) (p:=p)).1 hp;go_enter func183,Tryz.ntmps183;go_wp2;refine(WJ p eg HV.e hB HK.e).mono ?_
  rintro e w1 ⟨rfl,ai⟩;go_wp2;go_ret;exact⟨bU (by simp;omega),ai⟩
def WK{l:List bN}(p:bN->Bool)(eg:∀args w,(callFunc K args).run prog w=.ok (.enter K args) w)
 (hv:Row w B 3 (bN.R w B) v l)(hB:B<=w.heap.size)
 (hK:∀(W:Ψ) (x:bN) (kv:υ),Γ w.heap.size w W->x.name.size<=ϑ->Row w B 2 Span.R kv x.cM->x∈l->ύ prog K (#[η #[.string x.name,ξ κ x.aL,kv]]++lb) W λe W'=>e=Ω (.bool (p x))/\Γ W.heap.size W W'):
 ύ prog 215 #[v,fv K lb] w λe w'=>e=Ω (ξ κ (qL p l))/\Γ w.heap.size w w':=by
 obtain⟨A,n,c,rfl,hl,ey,hc,hr⟩:=hv.Φ;unfold ϑ at hc;have H:=ψ hl;have H2:=ψ hr;have HK:=ψ hK;clear hl hr hv hK;go_enter func215,Tryz.ntmps215;go_wp2;go_loopw [5,8] (λt k wr=>∃i:Nat,i<=n/\k=ξ κ i/\(∀j x,j<i->l[j]?=φ x->p x=χ)/\Γ w.heap.size w wr) (λ_ k _=>n - (Ϭ k).toNat)
 case atStart=>exact⟨0,Ϡ _,rfl,λj _ hj=>by omega,ώ _ _⟩
 case round=>
  obtain⟨i,hi,rfl,bS,hb⟩:=hrel;have HH:=ψ (Ϗ bS hb);by_cases ao:i<n
  ·obtain⟨ad,x,cs,rfl,aE,hx,⟨kv,rfl,dD,dC⟩,-,aq⟩:=H2.e i ao
   have st:=Δ.aJ hb hB;have h0:=cA aq st aE rfl;have h1:=bj aq st aE 0 rfl;have h2:=bj aq st aE 1 rfl;have HX:=ψ hx;clear bS hb hx aq st;go_wp2;refine(HK.e wr x kv HH.e.2 dD dC (Ϩ HX.e)).mono ?_
   rintro e w1 ⟨rfl,ai⟩;have HB:=ψ ai;clear ai;cases hp:p x with
   |true=>
    go_wp2;go_ret;exact⟨bm (Fu HX.e hp HH.e.1).symm,HH.e.2.trans (HB.e.mono HH.e.2.size)⟩
   |false=>
    go_wp2;go_roundw;case rel=>exact⟨i+1,by omega,by go_num,λj y hj hy=>by
     rcases Æ.1 hj with h|rfl
     ·exact HH.e.1 j y h hy
     ·rw[HX.e] at hy;cases hy;exact hp,HH.e.2.trans (HB.e.mono HH.e.2.size)⟩
    case measure=>simp[Ϭ];omega
  ·have dc:i=n:=by omega
   subst dc;go_wp2;go_ret;exact⟨bm (Ft (λj x hj=>HH.e.1 j x (by have:=(Ϯ.1 hj).1;have:=H.e;omega) hj)).symm,HH.e.2⟩
def Hk{l:List bN}(p:bN->Bool)(eg:∀args w,(callFunc K args).run prog w=.ok (.enter K args) w)
 (hv:Row w B 3 (bN.R w B) v l)(hB:B<=w.heap.size)
 (hK:∀(W:Ψ) (x:bN) (kv:υ),Γ w.heap.size w W->x.name.size<=ϑ->Row w B 2 Span.R kv x.cM->x∈l->ύ prog K (#[η #[.string x.name,ξ κ x.aL,kv]]++lb) W λe W'=>e=Ω (.bool (p x))/\Γ W.heap.size W W'):
 ύ prog 205 #[v,fv K lb] w λe w'=>e=Ω (.bool (l.any p))/\Γ w.heap.size w w':=by
 have HV:=ψ hv;have HK:=ψ hK;clear hv hK;cases hp:l.any p with
 |true=>
  have hi:=(Cy (l:=l) (p:=p)).1 hp;go_enter func205,Tryz.ntmps205;go_wp2;refine(WK p eg HV.e hB HK.e).mono ?_
  rintro e w1 ⟨rfl,ai⟩;go_wp2;go_ret;exact⟨bU rfl,ai⟩
 |false=>
  have hi:=(Fs (l:=l) (p:=p)).1 hp;go_enter func205,Tryz.ntmps205;go_wp2;refine(WK p eg HV.e hB HK.e).mono ?_
  rintro e w1 ⟨rfl,ai⟩;go_wp2;go_ret;exact⟨bU (by simp;omega),ai⟩
def WL{l:List Tape}(p:Tape->Bool)(eg:∀args w,(callFunc K args).run prog w=.ok (.enter K args) w)
 (hv:Row w B 3 (Tape.R w B) v l)(hB:B<=w.heap.size)
 (hK:∀(W:Ψ) (x:Tape) (kv:υ),Γ w.heap.size w W->Row w B 1 bI kv x.pieces->x∈l->ύ prog K (#[η #[kv,ξ κ x.sum.lo,ξ κ x.sum.hi]]++lb) W λe W'=>e=Ω (.bool (p x))/\Γ W.heap.size W W'):
 ύ prog 216 #[v,fv K lb] w λe w'=>e=Ω (ξ κ (qL p l))/\Γ w.heap.size w w':=by
 obtain⟨A,n,c,rfl,hl,ey,hc,hr⟩:=hv.Φ;unfold ϑ at hc;have H:=ψ hl;have H2:=ψ hr;have HK:=ψ hK;clear hl hr hv hK;go_enter func216,Tryz.ntmps216;go_wp2;go_loopw [5,8] (λt k wr=>∃i:Nat,i<=n/\k=ξ κ i/\(∀j x,j<i->l[j]?=φ x->p x=χ)/\Γ w.heap.size w wr) (λ_ k _=>n - (Ϭ k).toNat)
 case atStart=>exact⟨0,Ϡ _,rfl,λj _ hj=>by omega,ώ _ _⟩
 case round=>
  obtain⟨i,hi,rfl,bS,hb⟩:=hrel;have HH:=ψ (Ϗ bS hb);by_cases ao:i<n
  ·obtain⟨ad,x,cs,rfl,aE,hx,⟨kv,rfl,dC⟩,-,aq⟩:=H2.e i ao
   have st:=Δ.aJ hb hB;have h0:=cA aq st aE rfl;have h1:=bj aq st aE 0 rfl;have h2:=bj aq st aE 1 rfl;have HX:=ψ hx;clear bS hb hx aq st;go_wp2;refine(HK.e wr x kv HH.e.2 dC (Ϩ HX.e)).mono ?_
   rintro e w1 ⟨rfl,ai⟩;have HB:=ψ ai;clear ai;cases hp:p x with
   |true=>
    go_wp2;go_ret;exact⟨bm (Fu HX.e hp HH.e.1).symm,HH.e.2.trans (HB.e.mono HH.e.2.size)⟩
   |false=>
    go_wp2;go_roundw;case rel=>exact⟨i+1,by omega,by go_num,λj y hj hy=>by
     rcases Æ.1 hj with h|rfl
     ·exact HH.e.1 j y h hy
     ·rw[HX.e] at hy;cases hy;exact hp,HH.e.2.trans (HB.e.mono HH.e.2.size)⟩
    case measure=>simp[Ϭ];omega
  ·have dc:i=n:=by omega
   subst dc;go_wp2;go_ret;exact⟨bm (Ft (λj x hj=>HH.e.1 j x (by have:=(Ϯ.1 hj).1;have:=H.e;omega) hj)).symm,HH.e.2⟩
def ad6{l:List Tape}(p:Tape->Bool)(eg:∀args w,(callFunc K args).run prog w=.ok (.enter K args) w)
 (hv:Row w B 3 (Tape.R w B) v l)(hB:B<=w.heap.size)
 (hK:∀(W:Ψ) (x:Tape) (kv:υ),Γ w.heap.size w W->Row w B 1 bI kv x.pieces->x∈l->ύ prog K (#[η #[kv,ξ κ x.sum.lo,ξ κ x.sum.hi]]++lb) W λe W'=>e=Ω (.bool (p x))/\Γ W.heap.size W W'):
 ύ prog 208 #[v,fv K lb] w λe w'=>e=Ω (.bool (l.any p))/\Γ w.heap.size w w':=by
 have HV:=ψ hv;have HK:=ψ hK;clear hv hK;cases hp:l.any p with
 |true=>
  have hi:=(Cy (l:=l) (p:=p)).1 hp;go_enter func208,Tryz.ntmps208;go_wp2;refine(WL p eg HV.e hB HK.e).mono ?_
  rintro e w1 ⟨rfl,ai⟩;go_wp2;go_ret;exact⟨bU rfl,ai⟩
 |false=>
  have hi:=(Fs (l:=l) (p:=p)).1 hp;go_enter func208,Tryz.ntmps208;go_wp2;refine(WL p eg HV.e hB HK.e).mono ?_
  rintro e w1 ⟨rfl,ai⟩;go_wp2;go_ret;exact⟨bU (by simp;omega),ai⟩
def WI(p:Int->Bool)(eg:∀args w,(callFunc K args).run prog w=.ok (.enter K args) w)
 (hv:Row w B 1 bI v l)(hB:B<=w.heap.size)
 (hK:∀(W:Ψ) (x:Int),Γ w.heap.size w W->x∈l->ύ prog K (#[ξ κ x]++lb) W λe W'=>e=Ω (.bool (p x))/\Γ W.heap.size W W'):
 ύ prog 202 #[v,fv K lb] w λe w'=>e=Ω (ξ κ (qL p l))/\Γ w.heap.size w w':=by
 obtain⟨A,n,c,rfl,hl,ey,hc,hr⟩:=hv.Φ;unfold ϑ at hc;have H:=ψ hl;have H2:=ψ hr;have HK:=ψ hK;clear hl hr hv hK;go_enter func202,Tryz.ntmps202;go_wp2;go_loopw [5,8] (λt k wr=>∃i:Nat,i<=n/\k=ξ κ i/\(∀j x,j<i->l[j]?=φ x->p x=χ)/\Γ w.heap.size w wr) (λ_ k _=>n - (Ϭ k).toNat)
 case atStart=>exact⟨0,Ϡ _,rfl,λj _ hj=>by omega,ώ _ _⟩
 case round=>
  obtain⟨i,hi,rfl,bS,hb⟩:=hrel;have HH:=ψ (Ϗ bS hb);by_cases ao:i<n
  ·obtain⟨ad,x,cs,rfl,aE,hx,rfl,-,aq⟩:=H2.e i ao
   have st:=Δ.aJ hb hB;have h0:=cA aq st aE rfl;rw[Ī] at h0;have HX:=ψ hx;clear bS hb hx aq st;go_wp2;refine(HK.e wr x HH.e.2 (Ϩ HX.e)).mono ?_
   rintro e w1 ⟨rfl,ai⟩;have HB:=ψ ai;clear ai;cases hp:p x with
   |true=>
    go_wp2;go_ret;exact⟨bm (Fu HX.e hp HH.e.1).symm,HH.e.2.trans (HB.e.mono HH.e.2.size)⟩
   |false=>
    go_wp2;go_roundw;case rel=>exact⟨i+1,by omega,by go_num,λj y hj hy=>by
     rcases Æ.1 hj with h|rfl
     ·exact HH.e.1 j y h hy
     ·rw[HX.e] at hy;cases hy;exact hp,HH.e.2.trans (HB.e.mono HH.e.2.size)⟩
    case measure=>simp[Ϭ];omega
  ·have dc:i=n:=by omega
   subst dc;go_wp2;go_ret;exact⟨bm (Ft (λj x hj=>HH.e.1 j x (by have:=(Ϯ.1 hj).1;have:=H.e;omega) hj)).symm,HH.e.2⟩
def TJ(p:Int->Bool)(eg:∀args w,(callFunc K args).run prog w=.ok (.enter K args) w)
 (hv:Row w B 1 bI v l)(hB:B<=w.heap.size)
 (hK:∀(W:Ψ) (x:Int),Γ w.heap.size w W->x∈l->ύ prog K (#[ξ κ x]++lb) W λe W'=>e=Ω (.bool (p x))/\Γ W.heap.size W W'):
 ύ prog 177 #[v,fv K lb] w λe w'=>e=Ω (.bool (l.any p))/\Γ w.heap.size w w':=by
 have HV:=ψ hv;have HK:=ψ hK;clear hv hK;cases hp:l.any p with
 |true=>
  have hi:=(Cy (l:=l) (p:=p)).1 hp;go_enter func177,Tryz.ntmps177;go_wp2;refine(WI p eg HV.e hB HK.e).mono ?_
  rintro e w1 ⟨rfl,ai⟩;go_wp2;go_ret;exact⟨bU rfl,ai⟩
 |false=>
  have hi:=(Fs (l:=l) (p:=p)).1 hp;go_enter func177,Tryz.ntmps177;go_wp2;refine(WI p eg HV.e hB HK.e).mono ?_
  rintro e w1 ⟨rfl,ai⟩;go_wp2;go_ret;exact⟨bU (by simp;omega),ai⟩
def WH{l:List al}(p:al->Bool)(eg:∀args w,(callFunc K args).run prog w=.ok (.enter K args) w)
 (hv:Row w B 3 al.R v l)(hB:B<=w.heap.size)
 (hK:∀(W:Ψ) (x:al),Γ w.heap.size w W->x∈l->ύ prog K (#[η #[ξ κ x.a,ξ κ x.b,ξ κ x.c]]++lb) W λe W'=>e=Ω (.bool (p x))/\Γ W.heap.size W W'):
 ύ prog 187 #[v,fv K lb] w λe w'=>e=Ω (ξ κ (qL p l))/\Γ w.heap.size w w':=by
 obtain⟨A,n,c,rfl,hl,ey,hc,hr⟩:=hv.Φ;unfold ϑ at hc;have H:=ψ hl;have H2:=ψ hr;have HK:=ψ hK;clear hl hr hv hK;go_enter func187,Tryz.ntmps187;go_wp2;go_loopw [5,8] (λt k wr=>∃i:Nat,i<=n/\k=ξ κ i/\(∀j x,j<i->l[j]?=φ x->p x=χ)/\Γ w.heap.size w wr) (λ_ k _=>n - (Ϭ k).toNat)
 case atStart=>exact⟨0,Ϡ _,rfl,λj _ hj=>by omega,ώ _ _⟩
 case round=>
  obtain⟨i,hi,rfl,bS,hb⟩:=hrel;have HH:=ψ (Ϗ bS hb);by_cases ao:i<n
  ·obtain⟨ad,x,cs,rfl,aE,hx,rfl,-,aq⟩:=H2.e i ao
   have st:=Δ.aJ hb hB;have h0:=cA aq st aE rfl;have h1:=bj aq st aE 0 rfl;have h2:=bj aq st aE 1 rfl;have HX:=ψ hx;clear bS hb hx aq st;go_wp2;refine(HK.e wr x HH.e.2 (Ϩ HX.e)).mono ?_
   rintro e w1 ⟨rfl,ai⟩;have HB:=ψ ai;clear ai;cases hp:p x with
   |true=>
    go_wp2;go_ret;exact⟨bm (Fu HX.e hp HH.e.1).symm,HH.e.2.trans (HB.e.mono HH.e.2.size)⟩
   |false=>
    go_wp2;go_roundw;case rel=>exact⟨i+1,by omega,by go_num,λj y hj hy=>by
     rcases Æ.1 hj with h|rfl
     ·exact HH.e.1 j y h hy
     ·rw[HX.e] at hy;cases hy;exact hp,HH.e.2.trans (HB.e.mono HH.e.2.size)⟩
    case measure=>simp[Ϭ];omega
  ·have dc:i=n:=by omega
   subst dc;go_wp2;go_ret;exact⟨bm (Ft (λj x hj=>HH.e.1 j x (by have:=(Ϯ.1 hj).1;have:=H.e;omega) hj)).symm,HH.e.2⟩
def ad5{l:List al}(p:al->Bool)(eg:∀args w,(callFunc K args).run prog w=.ok (.enter K args) w)
 (hv:Row w B 3 al.R v l)(hB:B<=w.heap.size)
 (hK:∀(W:Ψ) (x:al),Γ w.heap.size w W->x∈l->ύ prog K (#[η #[ξ κ x.a,ξ κ x.b,ξ κ x.c]]++lb) W λe W'=>e=Ω (.bool (p x))/\Γ W.heap.size W W'):
 ύ prog 150 #[v,fv K lb] w λe w'=>e=Ω (.bool (l.any p))/\Γ w.heap.size w w':=by
 have HV:=ψ hv;have HK:=ψ hK;clear hv hK;cases hp:l.any p with
 |true=>
  have hi:=(Cy (l:=l) (p:=p)).1 hp;go_enter func150,Tryz.ntmps150;go_wp2;refine(WH p eg HV.e hB HK.e).mono ?_
  rintro e w1 ⟨rfl,ai⟩;go_wp2;go_ret;exact⟨bU rfl,ai⟩
 |false=>
  have hi:=(Fs (l:=l) (p:=p)).1 hp;go_enter func150,Tryz.ntmps150;go_wp2;refine(WH p eg HV.e hB HK.e).mono ?_
  rintro e w1 ⟨rfl,ai⟩;go_wp2;go_ret;exact⟨bU (by simp;omega),ai⟩
def gG(hb:Γ B W w1)(hB:B=W.heap.size):(∀b o,b<W.heap.size-> w1.cell? ⟨b,o,ν⟩= W.cell? ⟨b,o,ν⟩)/\(∀b o,b<W.heap.size-> w1.frozen? ⟨b,o,ν⟩= W.frozen? ⟨b,o,ν⟩):=by
 subst hB;exact⟨λb o h=>hb.cell (p:=⟨b,o,ν⟩) h,λb o h=>hb.frozen (p:=⟨b,o,ν⟩) h⟩
def Row.take{α:Type}{w:Ψ}{B sz:Nat}{R:α->List υ->Prop}{A:Option Addr}{n c:Nat}{l:List α}(h:Row w B sz R (ζ A n c) l){i:Nat}(hi:i<=n):Row w B sz R (ζ A i c) (l.take i):=by
 obtain⟨A',c',hv,h1,h2,h3⟩:=h;injection hv with e1 e2 e3
 subst e1;subst e3;subst e2
 have e:(l.take i).length=i:=by rw[List.length_take];omega
 refine⟨A,c,by rw[e],by omega,h2,λhx=>?_⟩
 obtain⟨ad,ha,hb,hc⟩:=h3 (by rintro rfl;simp at hx)
 refine⟨ad,ha,hb,λj x hj=>hc j x ?_⟩
 rw[List.getElem?_take] at hj;split at hj<;>simp_all
def scan{α:Type}(f:List α->α->Int):List α->List α->Int
 |_,[]=>0
 |dZ,x::l=>if f dZ x≠0 then f dZ x else scan f (dZ++ [x]) l
def Yr{α:Type}{f:List α->α->Int}:∀(l dZ:List α) (i:Nat) (x:α),l[i]?=φ x->(∀(j:Nat) (y:α),j<i->l[j]?=φ y->f (dZ++l.take j) y=0)->f (dZ++l.take i) x≠0->scan f dZ l=f (dZ++l.take i) x
 | [],_,_,_,h,_,_=>by simp at h
 |a::l,dZ,0,x,h,_,hf=>by simp at h;subst h;simp at hf;simp[scan,hf]
 |a::l,dZ,i+1,x,h,hz,hf=>by
  have h0:=hz 0 a (by omega) rfl
  simp at h0;have:=Yr l (dZ++ [a]) i x (by simpa using h) (λj y hj hy=>by simpa using hz (j+1) y (by omega) (by simpa using hy)) (by simpa using hf)
  simp[scan,h0,this]
def vQ{f:List α->α->Int}{l:List α}{x:α}(h:l[i]?=φ x)(hz:∀(j:Nat) (y:α),j<i->l[j]?=φ y->f (l.take j) y=0)(hf:f (l.take i) x≠0):scan f [] l=f (l.take i) x:=by
 simpa using Yr l [] i x h (by simpa using hz) (by simpa using hf)
def Yq{α:Type}{f:List α->α->Int}:∀(l dZ:List α),(∀(j:Nat) (y:α),l[j]?=φ y->f (dZ++l.take j) y=0)->scan f dZ l=0
 | [],_,_=>rfl
 |a::l,dZ,hz=>by
  have h0:=hz 0 a rfl;simp at h0;have:=Yq l (dZ++ [a]) (λj y hy=>by simpa using hz (j+1) y (by simpa using hy))
  simp[scan,h0,this]
def vP{f:List α->α->Int}{l:List α}(hz:∀(j:Nat) (y:α),l[j]?=φ y->f (l.take j) y=0):scan f [] l=0:=Yq l [] (by simpa using hz)
def kI(a b lo hi many:Int):Bool:=decide (lo<=a) && decide (a<=b) && decide (b<=hi) && decide (b - a<many)
def xX{b many:Int}(qx:0<=lo)(Vj:hi<=1000000)(w:Ψ):ύ prog 154 #[η #[ξ κ a,ξ κ b],ξ κ lo,ξ κ hi,ξ κ many] w λe w'=>e=Ω (.bool (kI a b lo hi many))/\Γ w.heap.size w w':=by
 go_enter func154,Tryz.ntmps154;go_wp2;all_goals go_ret
 all_goals (refine⟨bU ?_,(ώ _ _).alloc (ϊ _) _⟩;unfold kI;first| (simp;done) | (simp;omega) | (simp[*];omega) | (simp[*];done))
def ab{n:Int}(w:Ψ):ύ prog 141 #[η #[ξ κ n,pv,bv,tv]] w λe w'=>e=Ω (ξ κ (if cj n 0 3 then 0 else 1))/\Γ w.heap.size w w':=by
 cases h:cj n 0 3;all_goals
  go_enter func141,Tryz.ntmps141;go_wp2_with (first
   | (go_at_call 134;refine(inside _ _ _ _).mono ?_;rintro e w' ⟨rfl,rfl⟩))
  go_ret;exact⟨bm rfl,(ώ _ _).alloc (ϊ _) _⟩
def there(k n:Int)(hn:0<=n)(w:Ψ)(Ia:n<=9223372036854775807):ύ prog 100 #[ξ κ k,ξ κ n] w λe w'=>e=Ω (ξ κ (if cj k 0 (n - 1) then 0 else 6))/\w=w':=by
 cases h:cj k 0 (n - 1);all_goals
  go_enter func100,Tryz.ntmps100;go_wp2_with (first
   | (go_at_call 134;refine(inside _ _ _ _).mono ?_;rintro e w' ⟨rfl,rfl⟩))
  go_ret;exact⟨bm rfl,rfl⟩
def kH(a b:ByteArray):Bool:=a.toList==b.toList
def JW{b c:Int}(hp: w.cell? p=φ (.string FX))(E4:p.block<w.heap.size):
 ύ prog 184 #[η #[.string nm,ξ κ a,ξ κ b,ξ κ c],π (φ p)] w λe w'=>e=Ω (.bool (kH nm FX))/\Γ w.heap.size w w':=by
 go_enter func184,Tryz.ntmps184;go_wp2;go_ret;exact⟨bU rfl,(ώ _ _).alloc (ϊ _) _⟩
def JX{kv:υ}(hp: w.cell? p=φ (.string FX))(E4:p.block<w.heap.size):
 ύ prog 206 #[η #[.string nm,ξ κ a,kv],π (φ p)] w λe w'=>e=Ω (.bool (kH nm FX))/\Γ w.heap.size w w':=by
 go_enter func206,Tryz.ntmps206;go_wp2;go_ret;exact⟨bU rfl,(ώ _ _).alloc (ϊ _) _⟩
def da(h:Γ B w wr)(h1:Γ (wr.alloc o).heap.size (wr.alloc o) w1)(hB:B<=wr.heap.size):Γ B w w1:=
 h.trans (((ώ _ _).alloc hB _).trans (h1.mono (by simp;omega)))
def chain(h:Γ B w wr)(h1:Γ wr.heap.size wr w1)(hB:B<=wr.heap.size):Γ B w w1:=h.trans (h1.mono hB)
def pM(h:Γ B (wr.alloc o) w1):wr.heap.size<w1.heap.size:=by have:=h.size;simp at this;omega
def app1{a b:υ}{R:Ending->Ψ->Prop}(h:ύ P f #[a,b] w R):ύ P f (#[a]++#[b]) w R:=by
 have e:(#[a]++#[b]:Array υ)=#[a,b]:=by simp
 rw[e];exact h
def uN{a:Ψ}(h:Γ B a.drew w):Γ B a w:=⟨h.os,h.tape,h.output,h.size,h.block⟩
def kg(h:Γ (w.heap.size+1) (w.alloc o) wr):Γ w.heap.size w wr:=((ώ _ _).alloc (ϊ _) _).trans (h.mono (by omega))
def lI(dZ:List Piece)(p:Piece):Int:=
 if nU p.name.data.toList then if dZ.any (λq=>kH q.name p.name) then 5 else if kI p.len.lo p.len.hi 1 40 3 then if cj p.bears 0 2 then 0 else 1 else 1 else 4
def jh(l:List Piece):Int:=if cj l.length 1 3 then scan lI [] l else 2
def pieces{n:Int}{l:List Piece}(hv:Row w B 4 Piece.R pv l)(hB:B<=w.heap.size):
 ύ prog 142 #[η #[ξ κ n,pv,bv,tv]] w λe w'=>e=Ω (ξ κ (jh l))/\Γ w.heap.size w w':=by
 have HV:=ψ hv;obtain⟨A,m,c,rfl,hl,ey,hc,hr⟩:=hv.Φ;have dM:=ψ hl;unfold ϑ at hc;have H2:=ψ hr;clear hl hr hv;cases hlen:cj m 1 3 with
 |false=>
  go_enter func142,Tryz.ntmps142;go_wp2_with (first
   | (go_at_call 134;refine(inside _ _ _ _).mono ?_;rintro e w' ⟨rfl,rfl⟩))
  go_ret;exact⟨bm (by unfold jh;rw[dM.e,hlen];rfl),(ώ _ _).alloc (ϊ _) _⟩
 |true=>
  go_enter func142,Tryz.ntmps142;go_wp2_with (first
   | (go_at_call 134;refine(inside _ _ _ _).mono ?_;rintro e w' ⟨rfl,rfl⟩))
  go_loopw [2,3,4,15] (λr t q k wr=>∃i:Nat,i<=m/\k=ξ κ i/\(∀(j:Nat) (x:Piece),j<i->l[j]?=φ x->lI (l.take j) x=0)/\Γ (w.heap.size+1) (w.alloc (ϣ #[ξ κ n,ζ A m c,bv,tv] 117)) wr) (λ_ _ _ k _=>m - (Ϭ k).toNat)
  case atStart=>exact⟨0,Ϡ _,rfl,λj _ hj=>by omega,ώ _ _⟩
  case round=>
   obtain⟨i,hi,rfl,bS,hb⟩:=hrel;have HH:=ψ (Ϗ bS hb);have ef:=hb.size;have aN:w.heap.size+1<=wr.heap.size:=by simpa using ef
   have vA:w.heap.size<=wr.heap.size:=by omega
   have E7:w.heap.size<wr.heap.size:=by omega
   have ho: wr.cell? ⟨w.heap.size,1,ν⟩=φ (ζ A m c):=(hb.cell (p:=⟨w.heap.size,1,ν⟩) (by simp)).trans (by simp[go_sem])
   by_cases ao:i<m
   ·obtain⟨ad,x,cs,rfl,aE,hx,⟨rfl,dD⟩,-,aq⟩:=H2.e i ao
    have st:Δ B w wr:=((Δ.refl w).alloc hB _).trans (Δ.aJ hb (by omega))
    have ST:=ψ st;have h0:=cA aq st aE rfl;have h1:=bj aq st aE 0 rfl;have h2:=bj aq st aE 1 rfl;have h3:=bj aq st aE 2 rfl;have HX:=ψ hx;clear bS hb hx aq st ef;have lu:=ψ HH.e.2;have bad:∀s:Int,lI (l.take i) x=s->s≠0->s=jh l:=λs hs h0=>by
     unfold jh;rw[dM.e,hlen,if_pos rfl,vQ HX.e HH.e.1 (by rw[hs];exact h0),hs]
    have gW:=ψ bad;clear bad;cases ej:nU x.name.data.toList with
    |false=>
     go_wp2_with (first
      | (go_at_call 182;refine(isName dD _).mono ?_;rintro e w1 ⟨rfl,ai⟩;obtain⟨fU,iz⟩:=gG ai rfl))
     go_ret;exact⟨bm (gW.e 4 (by unfold lI;rw[ej];rfl) (by omega)),kg (da lu.e ai aN)⟩
    |true=>
     cases oO:(l.take i).any (λq=>kH q.name x.name) with
     |true=>
      go_wp2_with (first
       | (go_at_call 182;refine(isName dD _).mono ?_;rintro e w1 ⟨rfl,ai⟩;obtain⟨fU,iz⟩:=gG ai rfl;have aO:wr.heap.size<w1.heap.size:=pM ai;have kC:w.heap.size<w1.heap.size:=Agy vA aO;have dY:=ψ (da lu.e ai aN);have lP:Hid (w1.cell? ⟨wr.heap.size,0,ν⟩=φ (.string x.name)):=ψ ((fU wr.heap.size 0 (by simp)).trans (ĵ wr _ _ _ 0));clear ai)
       | (go_at_call 183;have HS:=ψ ((HV.e.take hi).still (Δ.aJ (kg dY.e) hB) λ_ _ h=>h);refine(Hj (λq=>kH q.name x.name) call184 HS.e (ϡ hB (è kC)) (λW y hW _ _=>app1 (JW (p:=⟨wr.heap.size,0,ν⟩) ((hW.cell (p:=⟨wr.heap.size,0,ν⟩) aO).trans lP.e) (ϟ aO hW.size)))).mono ?_;rintro e w2 ⟨rfl,an⟩;obtain⟨eu,oJ⟩:=gG an rfl;have aZ:wr.heap.size<w2.heap.size:=ϟ aO an.size;have pL:w.heap.size<w2.heap.size:=ϟ kC an.size;have eH:=ψ (chain dY.e an kC);clear an))
      go_ret;exact⟨bm (gW.e 5 (by unfold lI;rw[ej,oO];rfl) (by omega)),kg eH.e⟩
     |false=>
      cases iX:kI x.len.lo x.len.hi 1 40 3 with
      |false=>
       go_wp2_with (first
           | (go_at_call 182;refine(isName dD _).mono ?_;rintro e w1 ⟨rfl,ai⟩;obtain⟨fU,iz⟩:=gG ai rfl;have aO:wr.heap.size<w1.heap.size:=pM ai;have kC:w.heap.size<w1.heap.size:=Agy vA aO;have dY:=ψ (da lu.e ai aN);have lP:Hid (w1.cell? ⟨wr.heap.size,0,ν⟩=φ (.string x.name)):=ψ ((fU wr.heap.size 0 (by simp)).trans (ĵ wr _ _ _ 0));clear ai)
           | (go_at_call 183;have HS:=ψ ((HV.e.take hi).still (Δ.aJ (kg dY.e) hB) λ_ _ h=>h);refine(Hj (λq=>kH q.name x.name) call184 HS.e (ϡ hB (è kC)) (λW y hW _ _=>app1 (JW (p:=⟨wr.heap.size,0,ν⟩) ((hW.cell (p:=⟨wr.heap.size,0,ν⟩) aO).trans lP.e) (ϟ aO hW.size)))).mono ?_;rintro e w2 ⟨rfl,an⟩;obtain⟨eu,oJ⟩:=gG an rfl;have aZ:wr.heap.size<w2.heap.size:=ϟ aO an.size;have pL:w.heap.size<w2.heap.size:=ϟ kC an.size;have eH:=ψ (chain dY.e an kC);clear an)
           | (go_at_call 154;refine(xX (by omega) (by omega) _).mono ?_;rintro e w3 ⟨rfl,bK⟩;obtain⟨Iw,zS⟩:=gG bK rfl;have Dr:=ψ (chain eH.e bK pL);have gw:wr.heap.size<w3.heap.size:=ϟ aZ bK.size;have Wz:w.heap.size<w3.heap.size:=ϟ pL bK.size;clear bK))
       go_ret;exact⟨bm (gW.e 1 (by unfold lI;rw[ej,oO,iX];rfl) (by omega)),kg Dr.e⟩
      |true=>
       cases Ah:cj x.bears 0 2 with
       |false=>
        go_wp2_with (first
                | (go_at_call 182;refine(isName dD _).mono ?_;rintro e w1 ⟨rfl,ai⟩;obtain⟨fU,iz⟩:=gG ai rfl;have aO:wr.heap.size<w1.heap.size:=pM ai;have kC:w.heap.size<w1.heap.size:=Agy vA aO;have dY:=ψ (da lu.e ai aN);have lP:Hid (w1.cell? ⟨wr.heap.size,0,ν⟩=φ (.string x.name)):=ψ ((fU wr.heap.size 0 (by simp)).trans (ĵ wr _ _ _ 0));clear ai)
                | (go_at_call 183;have HS:=ψ ((HV.e.take hi).still (Δ.aJ (kg dY.e) hB) λ_ _ h=>h);refine(Hj (λq=>kH q.name x.name) call184 HS.e (ϡ hB (è kC)) (λW y hW _ _=>app1 (JW (p:=⟨wr.heap.size,0,ν⟩) ((hW.cell (p:=⟨wr.heap.size,0,ν⟩) aO).trans lP.e) (ϟ aO hW.size)))).mono ?_;rintro e w2 ⟨rfl,an⟩;obtain⟨eu,oJ⟩:=gG an rfl;have aZ:wr.heap.size<w2.heap.size:=ϟ aO an.size;have pL:w.heap.size<w2.heap.size:=ϟ kC an.size;have eH:=ψ (chain dY.e an kC);clear an)
                | (go_at_call 154;refine(xX (by omega) (by omega) _).mono ?_;rintro e w3 ⟨rfl,bK⟩;obtain⟨Iw,zS⟩:=gG bK rfl;have Dr:=ψ (chain eH.e bK pL);have gw:wr.heap.size<w3.heap.size:=ϟ aZ bK.size;have Wz:w.heap.size<w3.heap.size:=ϟ pL bK.size;clear bK)
                | (go_at_call 134;refine(inside _ _ _ _).mono ?_;rintro e w' ⟨rfl,rfl⟩))
        go_ret;exact⟨bm (gW.e 1 (by unfold lI;rw[ej,oO,iX,Ah];rfl) (by omega)),kg Dr.e⟩
       |true=>
        go_wp2_with (first
                | (go_at_call 182;refine(isName dD _).mono ?_;rintro e w1 ⟨rfl,ai⟩;obtain⟨fU,iz⟩:=gG ai rfl;have aO:wr.heap.size<w1.heap.size:=pM ai;have kC:w.heap.size<w1.heap.size:=Agy vA aO;have dY:=ψ (da lu.e ai aN);have lP:Hid (w1.cell? ⟨wr.heap.size,0,ν⟩=φ (.string x.name)):=ψ ((fU wr.heap.size 0 (by simp)).trans (ĵ wr _ _ _ 0));clear ai)
                | (go_at_call 183;have HS:=ψ ((HV.e.take hi).still (Δ.aJ (kg dY.e) hB) λ_ _ h=>h);refine(Hj (λq=>kH q.name x.name) call184 HS.e (ϡ hB (è kC)) (λW y hW _ _=>app1 (JW (p:=⟨wr.heap.size,0,ν⟩) ((hW.cell (p:=⟨wr.heap.size,0,ν⟩) aO).trans lP.e) (ϟ aO hW.size)))).mono ?_;rintro e w2 ⟨rfl,an⟩;obtain⟨eu,oJ⟩:=gG an rfl;have aZ:wr.heap.size<w2.heap.size:=ϟ aO an.size;have pL:w.heap.size<w2.heap.size:=ϟ kC an.size;have eH:=ψ (chain dY.e an kC);clear an)
                | (go_at_call 154;refine(xX (by omega) (by omega) _).mono ?_;rintro e w3 ⟨rfl,bK⟩;obtain⟨Iw,zS⟩:=gG bK rfl;have Dr:=ψ (chain eH.e bK pL);have gw:wr.heap.size<w3.heap.size:=ϟ aZ bK.size;have Wz:w.heap.size<w3.heap.size:=ϟ pL bK.size;clear bK)
                | (go_at_call 134;refine(inside _ _ _ _).mono ?_;rintro e w' ⟨rfl,rfl⟩))
        go_roundw;case rel=>exact⟨i+1,by omega,by go_num,λj y hj hy=>by
                rcases Æ.1 hj with h|rfl
                ·exact HH.e.1 j y h hy
                ·rw[HX.e] at hy;cases hy;unfold lI;rw[ej,oO,iX,Ah];rfl,Dr.e⟩
        case measure=>simp[Ϭ];omega
   ·obtain rfl:i=m:=by omega
    go_wp2;go_ret;refine⟨bm ?_,kg HH.e.2⟩
    unfold jh;rw[dM.e,hlen,if_pos rfl,vP (λj x hj=>HH.e.1 j x (by have:=(Ϯ.1 hj).1;have:=dM.e;omega) hj)]
def nS{n b:Int}(h:cj n a b=θ):a<=n/\n<=b:=by simpa [cj] using h
def mU(aL:Int):Int->List Span->Int
 |_,[]=>0
 |last,k::l=>if kI k.lo k.hi 0 (aL - 1) aL then if k.lo<=last then 7 else mU aL k.hi l else 1
def iw(dZ:List bN)(x:bN):Int:=
 if nU x.name.data.toList then if dZ.any (λq=>kH q.name x.name) then 5 else if cj x.aL 1 40 then if 3<x.cM.length then 2 else mU x.aL (-1) x.cM else 1 else 4
def drop_cons{l:List α}{x:α}(h:l[i]?=φ x):l.drop i=x::l.drop (i+1):=by
 obtain⟨hi,e⟩:=Ϯ.1 h
 rw[List.drop_eq_getElem_cons hi,e]
def bt{x:bN}{kv:υ}{l:List bN}(dD:x.name.size<=ϑ)(hk:Row w B 2 Span.R kv x.cM)(hv:Row w B 3 (bN.R w B) v l)(hB:B<=w.heap.size):
 ύ prog 185 #[η #[.string x.name,ξ κ x.aL,kv],v] w λe w'=>e=Ω (ξ κ (iw l x))/\Γ w.heap.size w w':=by
 have HV:=ψ hv;have HK:=ψ hk;obtain⟨A,m,c,rfl,hl,ey,hc,hr⟩:=hk.Φ;have dM:=ψ hl;unfold ϑ at hc;have H2:=ψ hr;have vA:w.heap.size<=w.heap.size:=ϊ _;clear hl hr hk hv;cases ej:nU x.name.data.toList with
 |false=>
  go_enter func185,Tryz.ntmps185;go_wp2_with (first
   | (go_at_call 182;refine(isName dD _).mono ?_;rintro e w1 ⟨rfl,ai⟩;obtain⟨fU,iz⟩:=gG ai rfl))
  go_ret;exact⟨bm (by unfold iw;rw[ej];rfl),da (ώ _ _) ai (ϊ _)⟩
 |true=>
  cases oO:l.any (λq=>kH q.name x.name) with
  |true=>
   go_enter func185,Tryz.ntmps185;go_wp2_with (first
    | (go_at_call 182;refine(isName dD _).mono ?_;rintro e w1 ⟨rfl,ai⟩;obtain⟨fU,iz⟩:=gG ai rfl;have aO:w.heap.size<w1.heap.size:=pM ai;have dY:=ψ (da (ώ w.heap.size w) ai (ϊ _));have lP:Hid (w1.cell? ⟨w.heap.size,0,ν⟩=φ (.string x.name)):=ψ ((fU w.heap.size 0 (by simp)).trans (ĵ w _ _ _ 0));clear ai)
    | (go_at_call 205;have HS:=ψ (HV.e.still (Δ.aJ dY.e hB) λ_ _ h=>h.still (Δ.aJ dY.e hB));refine(Hk (λq=>kH q.name x.name) call206 HS.e (ϡ hB (è aO)) (λW y kv hW _ _ _=>app1 (JX (p:=⟨w.heap.size,0,ν⟩) ((hW.cell (p:=⟨w.heap.size,0,ν⟩) aO).trans lP.e) (ϟ aO hW.size)))).mono ?_;rintro e w2 ⟨rfl,an⟩;obtain⟨eu,oJ⟩:=gG an rfl;have aZ:w.heap.size<w2.heap.size:=ϟ aO an.size;have eH:=ψ (chain dY.e an (è aO));clear an))
   go_ret;exact⟨bm (by unfold iw;rw[ej,oO];rfl),eH.e⟩
  |false=>
   cases iX:cj x.aL 1 40 with
   |false=>
    go_enter func185,Tryz.ntmps185;go_wp2_with (first
     | (go_at_call 182;refine(isName dD _).mono ?_;rintro e w1 ⟨rfl,ai⟩;obtain⟨fU,iz⟩:=gG ai rfl;have aO:w.heap.size<w1.heap.size:=pM ai;have dY:=ψ (da (ώ w.heap.size w) ai (ϊ _));have lP:Hid (w1.cell? ⟨w.heap.size,0,ν⟩=φ (.string x.name)):=ψ ((fU w.heap.size 0 (by simp)).trans (ĵ w _ _ _ 0));clear ai)
     | (go_at_call 205;have HS:=ψ (HV.e.still (Δ.aJ dY.e hB) λ_ _ h=>h.still (Δ.aJ dY.e hB));refine(Hk (λq=>kH q.name x.name) call206 HS.e (ϡ hB (è aO)) (λW y kv hW _ _ _=>app1 (JX (p:=⟨w.heap.size,0,ν⟩) ((hW.cell (p:=⟨w.heap.size,0,ν⟩) aO).trans lP.e) (ϟ aO hW.size)))).mono ?_;rintro e w2 ⟨rfl,an⟩;obtain⟨eu,oJ⟩:=gG an rfl;have aZ:w.heap.size<w2.heap.size:=ϟ aO an.size;have eH:=ψ (chain dY.e an (è aO));clear an)
     | (go_at_call 134;refine(inside _ _ _ _).mono ?_;rintro e w' ⟨rfl,rfl⟩))
    go_ret;exact⟨bm (by unfold iw;rw[ej,oO,iX];rfl),eH.e⟩
   |true=>
    obtain⟨qx,Vj⟩:=nS iX;by_cases h3:3<m
    ·go_enter func185,Tryz.ntmps185
     go_wp2_with (first
      | (go_at_call 182;refine(isName dD _).mono ?_;rintro e w1 ⟨rfl,ai⟩;obtain⟨fU,iz⟩:=gG ai rfl;have aO:w.heap.size<w1.heap.size:=pM ai;have dY:=ψ (da (ώ w.heap.size w) ai (ϊ _));have lP:Hid (w1.cell? ⟨w.heap.size,0,ν⟩=φ (.string x.name)):=ψ ((fU w.heap.size 0 (by simp)).trans (ĵ w _ _ _ 0));clear ai)
      | (go_at_call 205;have HS:=ψ (HV.e.still (Δ.aJ dY.e hB) λ_ _ h=>h.still (Δ.aJ dY.e hB));refine(Hk (λq=>kH q.name x.name) call206 HS.e (ϡ hB (è aO)) (λW y kv hW _ _ _=>app1 (JX (p:=⟨w.heap.size,0,ν⟩) ((hW.cell (p:=⟨w.heap.size,0,ν⟩) aO).trans lP.e) (ϟ aO hW.size)))).mono ?_;rintro e w2 ⟨rfl,an⟩;obtain⟨eu,oJ⟩:=gG an rfl;have aZ:w.heap.size<w2.heap.size:=ϟ aO an.size;have eH:=ψ (chain dY.e an (è aO));clear an)
      | (go_at_call 134;refine(inside _ _ _ _).mono ?_;rintro e w' ⟨rfl,rfl⟩))
     go_ret;exact⟨bm (by unfold iw;rw[ej,oO,iX,dM.e];simp[h3]),eH.e⟩
    ·go_enter func185,Tryz.ntmps185
     go_wp2_with (first
      | (go_at_call 182;refine(isName dD _).mono ?_;rintro e w1 ⟨rfl,ai⟩;obtain⟨fU,iz⟩:=gG ai rfl;have aO:w.heap.size<w1.heap.size:=pM ai;have dY:=ψ (da (ώ w.heap.size w) ai (ϊ _));have lP:Hid (w1.cell? ⟨w.heap.size,0,ν⟩=φ (.string x.name)):=ψ ((fU w.heap.size 0 (by simp)).trans (ĵ w _ _ _ 0));have Y7:Hid (w1.cell? ⟨w.heap.size,1,ν⟩=φ (ξ κ x.aL)):=ψ ((fU w.heap.size 1 (by simp)).trans (ĵ w _ _ _ 1));clear ai)
      | (go_at_call 205;have HS:=ψ (HV.e.still (Δ.aJ dY.e hB) λ_ _ h=>h.still (Δ.aJ dY.e hB));refine(Hk (λq=>kH q.name x.name) call206 HS.e (ϡ hB (è aO)) (λW y kv hW _ _ _=>app1 (JX (p:=⟨w.heap.size,0,ν⟩) ((hW.cell (p:=⟨w.heap.size,0,ν⟩) aO).trans lP.e) (ϟ aO hW.size)))).mono ?_;rintro e w2 ⟨rfl,an⟩;obtain⟨eu,oJ⟩:=gG an rfl;have aZ:w.heap.size<w2.heap.size:=ϟ aO an.size;have eH:=ψ (chain dY.e an (è aO));have Y8:Hid (w2.cell? ⟨w.heap.size,1,ν⟩=φ (ξ κ x.aL)):=ψ ((eu w.heap.size 1 aO).trans Y7.e);clear an)
      | (go_at_call 134;refine(inside _ _ _ _).mono ?_;rintro e w' ⟨rfl,rfl⟩))
     clear fU iz eu oJ;go_loopw [4,5,7,30] (λr la q k wr=>∃(i:Nat) (z:Int),i<=m/\k=ξ κ i/\la=ξ κ z/\mU x.aL (-1) x.cM=mU x.aL z (x.cM.drop i)/\Γ w2.heap.size w2 wr) (λ_ _ _ k _=>m - (Ϭ k).toNat)
     case atStart=>exact⟨0,-1,Ϡ _,rfl,rfl,rfl,ώ _ _⟩
     case round=>
      obtain⟨i,z,hi,rfl,rfl,bS,hb⟩:=hrel;have HH:=ψ (Ϗ bS hb);have ef:=hb.size;have E7:w.heap.size<wr.heap.size:=ϟ aZ ef;have hlg: wr.cell? ⟨w.heap.size,1,ν⟩=φ (ξ κ x.aL):=(hb.cell (p:=⟨w.heap.size,1,ν⟩) aZ).trans Y8.e;by_cases ao:i<m
      ·obtain⟨ad,y,cs,rfl,aE,hx,rfl,-,aq⟩:=H2.e i ao
       have st:Δ B w wr:=(Δ.aJ eH.e hB).trans (Δ.aJ hb (by omega))
       have h0:=cA aq st aE rfl;have h1:=bj aq st aE 0 rfl;have HX:=ψ (drop_cons hx);clear bS hb hx aq st;cases hq:kI y.lo y.hi 0 (x.aL - 1) x.aL with
       |false=>
        go_wp2_with (first
            | (go_at_call 154;refine(xX (by omega) (by omega) _).mono ?_;rintro e w3 ⟨rfl,bK⟩;obtain⟨Iw,zS⟩:=gG bK rfl))
        go_ret;exact⟨bm (by unfold iw;rw[ej,oO,iX,dM.e];simp[h3,HH.e.1,HX.e,mU,hq]),chain eH.e (da HH.e.2 bK ef) (è aZ)⟩
       |true=>
        go_wp2_with (first
            | (go_at_call 154;refine(xX (by omega) (by omega) _).mono ?_;rintro e w3 ⟨rfl,bK⟩;obtain⟨Iw,zS⟩:=gG bK rfl;have gw:wr.heap.size<w3.heap.size:=pM bK))
        ·have hz:y.lo<=z:=by assumption
         go_ret;exact⟨bm (by unfold iw;rw[ej,oO,iX,dM.e];simp[h3,HH.e.1,HX.e,mU,hq,hz]),chain eH.e (da HH.e.2 bK ef) (è aZ)⟩
        ·have hz:z<y.lo:=by assumption
         go_roundw;case rel=>exact⟨i+1,y.hi,by omega,by go_num,rfl,by rw[HH.e.1,HX.e];simp[mU,hq];omega,da HH.e.2 bK ef⟩
         case measure=>simp[Ϭ];omega
      ·obtain rfl:i=m:=by omega
       go_wp2;go_ret;refine⟨bm ?_,chain eH.e HH.e.2 (è aZ)⟩
       unfold iw;rw[ej,oO,iX,dM.e];simp[h3,HH.e.1]
       rw[Agh (ú dM.e)];rfl
def tA{id:Nat}{Q:Exit->Act->Ψ->Prop}{a:Act}{l:List Oper}(n:Nat)(hm:P.follows .mixedOrders=θ)(hB:Region.lexTailB .any l.toArray n=θ)
 (h:wpStill P l.toArray w.drew (λa'=>wpList P l.toArray Q (l.drop n) a' w.drew) (l.take n) a):(Code.region id l.toArray θ).wp P Q a w:=
 wp_region_still_tail n hm hB h
def lB(l:List bN):Int:=if 3<l.length then 2 else scan iw [] l
def aC{n:Int}{l:List bN}(hv:Row w B 3 (bN.R w B) bv l)(hB:B<=w.heap.size):
 ύ prog 143 #[η #[ξ κ n,pv,bv,tv]] w λe w'=>e=Ω (ξ κ (lB l))/\Γ w.heap.size w w':=by
 have HV:=ψ hv;obtain⟨A,m,c,rfl,hl,ey,hc,hr⟩:=hv.Φ;have dM:=ψ hl;unfold ϑ at hc;have H2:=ψ hr;clear hl hr hv;by_cases hlen:3<m
 ·go_enter func143,Tryz.ntmps143
  go_wp2;go_ret;exact⟨bm (by unfold lB;rw[dM.e,if_pos hlen]),(ώ _ _).alloc (ϊ _) _⟩
 ·go_enter func143,Tryz.ntmps143
  go_wp2;go_loopw [2,3,4,5,15] (λr t q s k wr=>∃i:Nat,i<=m/\k=ξ κ i/\(∀(j:Nat) (x:bN),j<i->l[j]?=φ x->iw (l.take j) x=0)/\Γ (w.heap.size+1) (w.alloc (ϣ #[ξ κ n,pv,ζ A m c,tv] 117)) wr) (λ_ _ _ _ k _=>m - (Ϭ k).toNat)
  case atStart=>exact⟨0,Ϡ _,rfl,λj _ hj=>by omega,ώ _ _⟩
  case round=>
   obtain⟨i,hi,rfl,bS,hb⟩:=hrel;have HH:=ψ (Ϗ bS hb);have ef:=hb.size;have aN:w.heap.size+1<=wr.heap.size:=by simpa using ef
   have vA:w.heap.size<=wr.heap.size:=by omega
   have E7:w.heap.size<wr.heap.size:=by omega
   have ho: wr.cell? ⟨w.heap.size,2,ν⟩=φ (ζ A m c):=(hb.cell (p:=⟨w.heap.size,2,ν⟩) (by simp)).trans (by simp[go_sem])
   by_cases ao:i<m
   ·obtain⟨ad,x,cs,rfl,aE,hx,⟨kv,rfl,dD,dC⟩,-,aq⟩:=H2.e i ao
    have st:Δ B w wr:=((Δ.refl w).alloc hB _).trans (Δ.aJ hb (by omega))
    have ST:=ψ st;obtain⟨A2,c2,rfl,-⟩:=id dC;obtain⟨n2,dn⟩:∃n2,n2=x.cM.length:=⟨_,rfl⟩
    rw[<-dn] at dC aq;clear dn;have uL:=ψ dC;have h0:=cA aq st aE rfl;have h1:=bj aq st aE 0 rfl;have h2:=bj aq st aE 1 rfl;have HX:=ψ hx;clear bS hb hx aq st ef dC;have lu:=ψ HH.e.2;have EJ:i<=c:=by omega
    go_wp2;refine tA 6 (by kernel_rfl) (by kernel_rfl) ?_
    simp only[ê,ë,ñ,ò];repeat still_step
    refine wpStill_nil ?_
    have HS:Hid (Δ B w (wr.alloc (ϣ #[Value.string x.name,Ϝ ϙ x.aL,Value.slice A2 n2 c2] 59)).drew):=ψ λp hp=>(ù wr _ p (by omega)).trans (ST.e p hp)
    have HR:=ψ ((HV.e.take hi).still HS.e λ_ _ h=>h.still HS.e)
    have GM:=ψ (uL.e.still HS.e λ_ _ h=>h)
    by_cases hz:iw (l.take i) x=0
    ·go_wp2_with (first
      | (go_at_call 185;refine(bt dD GM.e HR.e (by simp;omega)).mono ?_;rintro e w1 ⟨rfl,ai⟩;have dY:=ψ (da lu.e (uN ai) aN);clear ai))
     go_roundw;case rel=>exact⟨i+1,by omega,by go_num,λj y hj hy=>by
      rcases Æ.1 hj with h|rfl
      ·exact HH.e.1 j y h hy
      ·rw[HX.e] at hy;cases hy;exact hz,dY.e⟩
     case measure=>simp[Ϭ];omega
    ·go_wp2_with (first
      | (go_at_call 185;refine(bt dD GM.e HR.e (by simp;omega)).mono ?_;rintro e w1 ⟨rfl,ai⟩;have dY:=ψ (da lu.e (uN ai) aN);clear ai))
     go_ret;exact⟨bm (by unfold lB;rw[dM.e,if_neg hlen,vQ HX.e HH.e.1 hz]),kg dY.e⟩
   ·obtain rfl:i=m:=by omega
    go_wp2;go_ret;refine⟨bm ?_,kg HH.e.2⟩
    unfold lB;rw[dM.e,if_neg hlen,vP (λj x hj=>HH.e.1 j x (by have:=(Ϯ.1 hj).1;have:=dM.e;omega) hj)]
def eN(np:Int):Option Int->List Int->Int
 |_,[]=>0
 |none,k::l=>if cj k 0 (np - 1) then eN np (φ k) l else 6
 |some p,k::l=>if cj k 0 (np - 1) then if k<=p then 7 else eN np (φ k) l else 6
def lh(np:Int)(t:Tape):Int:=
 if t.pieces.length=0 then 2 else if eN np ν t.pieces≠0 then eN np ν t.pieces else if kI t.sum.lo t.sum.hi 0 120 121 then 0 else 1
def lJ(np:Int)(l:List Tape):Int:=if 4<l.length then 2 else scan (λ_ t=>lh np t) [] l
def mY(l:List Int)(i:Nat):Option Int:=if i=0 then ν else l[i - 1]?
def aI{n:Int}{lp:List Piece}{l:List Tape}(hp:Row w B 4 Piece.R pv lp)(hv:Row w B 3 (Tape.R w B) tv l)(hB:B<=w.heap.size):
 ύ prog 144 #[η #[ξ κ n,pv,bv,tv]] w λe w'=>e=Ω (ξ κ (lJ lp.length l))/\Γ w.heap.size w w':=by
 obtain⟨PA,np,pc,rfl,kX,rV,xO,-⟩:=hp.Φ;obtain⟨A,m,c,rfl,hl,ey,hc,hr⟩:=hv.Φ;have dM:=ψ hl;have EW:=ψ kX;unfold ϑ at hc xO;have H2:=ψ hr;clear hl hr hv kX hp;by_cases hlen:4<m
 ·go_enter func144,Tryz.ntmps144
  go_wp2;go_ret;exact⟨bm (by unfold lJ;rw[dM.e,if_pos hlen]),(ώ _ _).alloc (ϊ _) _⟩
 ·go_enter func144,Tryz.ntmps144
  go_wp2;go_loopw [2,4,5,6,16] (λr t q s k wr=>∃i:Nat,i<=m/\k=ξ κ i/\(∀(j:Nat) (x:Tape),j<i->l[j]?=φ x->lh np x=0)/\Γ (w.heap.size+1) (w.alloc (ϣ #[ξ κ n,ζ PA np pc,bv,ζ A m c] 117)) wr) (λ_ _ _ _ k _=>m - (Ϭ k).toNat)
  case atStart=>exact⟨0,Ϡ _,rfl,λj _ hj=>by omega,ώ _ _⟩
  case round=>
   obtain⟨i,hi,rfl,bS,hb⟩:=hrel;have HH:=ψ (Ϗ bS hb);have ef:=hb.size;have aN:w.heap.size+1<=wr.heap.size:=by simpa using ef
   have vA:w.heap.size<=wr.heap.size:=by omega
   have E7:w.heap.size<wr.heap.size:=by omega
   have ho: wr.cell? ⟨w.heap.size,1,ν⟩=φ (ζ PA np pc):=(hb.cell (p:=⟨w.heap.size,1,ν⟩) (by simp)).trans (by simp[go_sem])
   by_cases ao:i<m
   ·obtain⟨ad,x,cs,rfl,aE,hx,⟨kv,rfl,dC⟩,-,aq⟩:=H2.e i ao
    have st:Δ B w wr:=((Δ.refl w).alloc hB _).trans (Δ.aJ hb (by omega))
    obtain⟨KA,kn,kc,rfl,cP,Vr,EO,zY⟩:=dC.Φ;unfold ϑ at EO;have ST:=ψ st;have KL:=ψ cP;have KR:=ψ zY;have h0:=cA aq st aE rfl;have h1:=bj aq st aE 0 rfl;have h2:=bj aq st aE 1 rfl;have HX:=ψ hx;clear bS hb hx aq st ef dC cP zY;have lu:=ψ HH.e.2;have bad:∀s:Int,lh np x=s->s≠0->s=lJ lp.length l:=λs hs h0=>by
     unfold lJ;rw[dM.e,if_neg hlen,EW.e,vQ (f:=λ_ t=>lh np t) HX.e HH.e.1 (by rw[hs];exact h0),hs]
    have gW:=ψ bad;clear bad;by_cases iA:kn=0
    ·subst iA
     go_wp2;go_ret;exact⟨bm (gW.e 2 (by unfold lh;rw[KL.e];rfl) (by omega)),kg (lu.e.trans ((ώ _ _).alloc aN _))⟩
    ·have IG:0<kn:=by omega
     have eP:((kn:Int)==0)=χ:=by simp;omega
     go_wp2
     go_loop [2,5,6,27] (λr q s k=>∃j:Nat,j<=kn/\k=ξ κ j/\eN np ν x.pieces=eN np (mY x.pieces j) (x.pieces.drop j)) (λ_ _ _ k=>kn - (Ϭ k).toNat)
     case atStart=>exact⟨0,Ϡ _,rfl,rfl⟩
     case round=>
      obtain⟨j,hj,rfl,xP⟩:=hrel;have RE:=ψ xP;clear xP;by_cases oL:j<kn
      ·obtain⟨kd,y,ju,rfl,rR,hy,rfl,-,fa⟩:=KR.e j oL
       have g0:=cA fa ST.e rR rfl;rw[Ī] at g0;have g1:(wr.alloc (ϣ #[Value.slice (φ kd) kn kc,Ϝ ϙ x.sum.lo,Ϝ ϙ x.sum.hi] 95)).cell? (kd.add j)=φ (ξ κ y):=(ù wr _ _ (by rw[b9];omega)).trans g0
       clear g0;have HY:=ψ hy;clear hy fa;cases dc:cj y 0 (np - 1) with
       |false=>
        go_wp2_with (first
            | (go_at_call 134;refine(inside _ _ _ _).mono ?_;rintro e w' ⟨rfl,rfl⟩))
        go_ret;refine⟨bm (gW.e 6 ?_ (by omega)),kg (lu.e.trans ((ώ _ _).alloc aN _))⟩
        have e:eN np ν x.pieces=6:=by
            rw[RE.e,drop_cons HY.e];cases mY x.pieces j<;>simp[eN,dc]
        unfold lh;rw[KL.e,if_neg iA,e];rfl
       |true=>
        rcases Nat.eq_zero_or_pos j with wZ|wZ
        ·subst wZ
         rw[show kd.add 0=kd from rfl] at g1
         go_wp2_with (first
            | (go_at_call 134;refine(inside _ _ _ _).mono ?_;rintro e w' ⟨rfl,rfl⟩))
         have hrel:eN np ν x.pieces=eN np (mY x.pieces 1) (x.pieces.drop 1):=by rw[RE.e,drop_cons HY.e];simp[mY,eN,dc,HY.e]
         go_round
         case rel=>exact⟨1,oL,by go_num,hrel⟩
         case measure=>simp[Ϭ];omega
        ·obtain⟨q,rfl⟩:∃q,j=q+1:=⟨j - 1,by omega⟩
         obtain⟨fl,z,TL,DY,Vs,hz,rfl,-,xm⟩:=KR.e q (by omega)
         cases DY;rw[show kd.add (q+1)=⟨kd.block,kd.off+(q+1),ν⟩ from rfl] at g1
         have g2:=cA xm ST.e rR rfl;rw[Ī] at g2;have g3:(wr.alloc (ϣ #[Value.slice (φ kd) kn kc,Ϝ ϙ x.sum.lo,Ϝ ϙ x.sum.hi] 95)).cell? (kd.add q)=φ (ξ κ z):=(ù wr _ _ (by rw[b9];omega)).trans g2
         have HZ:=ψ hz;clear g2 hz xm;go_wp2_with (first
            | (go_at_call 134;refine(inside _ _ _ _).mono ?_;rintro e w' ⟨rfl,rfl⟩))
         ·have sa:y<=z:=by assumption
          go_ret;refine⟨bm (gW.e 7 ?_ (by omega)),kg (lu.e.trans ((ώ _ _).alloc aN _))⟩
          have e:eN np ν x.pieces=7:=by
              rw[RE.e,drop_cons HY.e];simp[mY,HZ.e,eN,dc,sa]
          unfold lh;rw[KL.e,if_neg iA,e];rfl
         ·have sa:z<y:=by assumption
          have hrel:eN np ν x.pieces=eN np (mY x.pieces (q+2)) (x.pieces.drop (q+2)):=by rw[RE.e,drop_cons HY.e];simp[mY,HZ.e,HY.e,eN,dc];omega
          go_round
          case rel=>exact⟨q+2,by omega,by go_num,hrel⟩
          case measure=>simp[Ϭ];omega
      ·obtain rfl:j=kn:=by omega
       have e:eN np ν x.pieces=0:=by
           rw[RE.e,Agh (ú KL.e)];cases mY x.pieces j<;>rfl
       have HE:=ψ e;clear e;cases mQ:kI x.sum.lo x.sum.hi 0 120 121 with
       |false=>
        go_wp2_with (first
            | (go_at_call 154;refine(xX (by omega) (by omega) _).mono ?_;rintro e w3 ⟨rfl,bK⟩))
        go_ret;exact⟨bm (gW.e 1 (by unfold lh;rw[KL.e,if_neg iA,HE.e,mQ];rfl) (by omega)),kg (da lu.e bK aN)⟩
       |true=>
        go_wp2_with (first
            | (go_at_call 154;refine(xX (by omega) (by omega) _).mono ?_;rintro e w3 ⟨rfl,bK⟩))
        go_roundw;case rel=>exact⟨i+1,by omega,by go_num,λk y hk hy=>by
            rcases Æ.1 hk with h|rfl
            ·exact HH.e.1 k y h hy
            ·rw[HX.e] at hy;cases hy;unfold lh;rw[KL.e,if_neg iA,HE.e,mQ];rfl,da lu.e bK aN⟩
        case measure=>simp[Ϭ];omega
   ·obtain rfl:i=m:=by omega
    go_wp2;go_ret;refine⟨bm ?_,kg HH.e.2⟩
    unfold lJ;rw[dM.e,if_neg hlen,EW.e,vP (f:=λ_ t=>lh np t) (λj x hj=>HH.e.1 j x (by have:=(Ϯ.1 hj).1;have:=dM.e;omega) hj)]
def kR(b:eR):List Int:=[if cj b.ab 0 3 then 0 else 1,jh b.pieces,lB b.aC,lJ b.pieces.length b.aI]
def cZ(b:eR):Int:=scan (λ_ s=>s) [] (kR b)
def qU(w:Ψ)(s:Int)(p q r:υ):Ψ:=
 ((w.alloc (ϣ #[Ϝ ϙ s,p,q,r] 26)).alloc (ϣ #[Ϝ ϙ s,p,q,r] 117)).alloc
   (ϣ #[Value.func (Fn.func 141) #[Value.agg #[Ϝ ϙ s,p,q,r]] #[],Value.func (Fn.func 142) #[Value.agg #[Ϝ ϙ s,p,q,r]] #[],Value.func (Fn.func 143) #[Value.agg #[Ϝ ϙ s,p,q,r]] #[],Value.func (Fn.func 144) #[Value.agg #[Ϝ ϙ s,p,q,r]] #[]] 175)
section
variable (w:Ψ)(s:Int)(p q r:υ)
def aqv:(qU w s p q r).heap.size=w.heap.size+3:=by simp[qU]
def aqq:Γ w.heap.size w (qU w s p q r):=(((ώ _ _).alloc (ϊ _) _).alloc (by simp) _).alloc (by simp;omega) _
def aqr:(qU w s p q r).cell? ⟨w.heap.size+1+1,0,ν⟩=φ (Value.func (Fn.func 141) #[Value.agg #[Ϝ ϙ s,p,q,r]] #[]):=by simp[qU,go_sem]
def aqs:(qU w s p q r).cell? ⟨w.heap.size+1+1,1,ν⟩=φ (Value.func (Fn.func 142) #[Value.agg #[Ϝ ϙ s,p,q,r]] #[]):=by simp[qU,go_sem]
def aqt:(qU w s p q r).cell? ⟨w.heap.size+1+1,2,ν⟩=φ (Value.func (Fn.func 143) #[Value.agg #[Ϝ ϙ s,p,q,r]] #[]):=by simp[qU,go_sem]
def aqu:(qU w s p q r).cell? ⟨w.heap.size+1+1,3,ν⟩=φ (Value.func (Fn.func 144) #[Value.agg #[Ϝ ϙ s,p,q,r]] #[]):=by simp[qU,go_sem]
end
def MD{b:eR}(hb:aQ w B b pv bv tv)(hB:B<=w.heap.size):
 ύ prog 68 #[η #[ξ κ b.ab,pv,bv,tv]] w λe w'=>e=Ω (ξ κ (cZ b))/\Γ w.heap.size w w':=by
 have HB:=ψ hb;obtain⟨A1,c1,e1,-⟩:=id hb.pieces;obtain⟨A2,c2,e2,-⟩:=id hb.aC;obtain⟨A3,c3,e3,-⟩:=id hb.aI;obtain⟨n1,h1⟩:∃n,n=b.pieces.length:=⟨_,rfl⟩
 obtain⟨n2,h2⟩:∃n,n=b.aC.length:=⟨_,rfl⟩
 obtain⟨n3,h3⟩:∃n,n=b.aI.length:=⟨_,rfl⟩
 rw[<-h1] at e1;rw[<-h2] at e2;rw[<-h3] at e3
 subst e1;subst e2;subst e3
 clear hb h1 h2 h3;go_enter func68,Tryz.ntmps68;go_wp2;go_loopw [2,5,6,19] (λa f u k wr=>∃i:Nat,i<=4/\k=ξ κ i/\(∀(j:Nat) (x:Int),j<i->(kR b)[j]?=φ x->x=0)/\Γ (w.heap.size+3) (qU w b.ab (ζ A1 n1 c1) (ζ A2 n2 c2) (ζ A3 n3 c3)) wr) (λ_ _ _ k _=>4 - (Ϭ k).toNat)
 case atStart=>exact⟨0,Ϡ _,rfl,λj _ hj=>by omega,ώ _ _⟩
 case round=>
  obtain⟨i,hi,rfl,bS,gU⟩:=hrel;have HH:=ψ (Ϗ bS gU);have aN:w.heap.size+3<=wr.heap.size:=by have:=gU.size;rw[aqv] at this;exact this
  have rh:=ψ ((aqq w b.ab (ζ A1 n1 c1) (ζ A2 n2 c2) (ζ A3 n3 c3)).trans (gU.mono (by omega)))
  have bD:=ψ (HB.e.still (Δ.aJ rh.e hB));have Nl:B<=wr.heap.size:=by omega
  clear bS;have done:∀(s:Int),(kR b)[i]?=φ s->s≠0->s=cZ b:=λs hs h0=>(vQ (f:=λ_ s=>s) hs HH.e.1 h0).symm
  have GG:=ψ done;clear done;have next:∀(s:Int),(kR b)[i]?=φ s->s=0->∀(j:Nat) (x:Int),j<i+1->(kR b)[j]?=φ x->x=0:=λs hs h0 j x hj hx=>by
   rcases Æ.1 hj with h|rfl
   ·exact HH.e.1 j x h hx
   ·rw[hs] at hx;cases hx;exact h0
  have GW:=ψ next
  clear next
  by_cases ao:i<4
  ·match i,ao with
   |0,_=>
    have g:=(gU.cell (p:=⟨w.heap.size+1+1,0,ν⟩) (by simp)).trans (aqr _ _ _ _ _)
    clear gU;have call:ύ prog 141 #[η #[ξ κ b.ab,ζ A1 n1 c1,ζ A2 n2 c2,ζ A3 n3 c3]] wr λe w'=>e=Ω (ξ κ (if cj b.ab 0 3 then 0 else 1))/\Γ wr.heap.size wr w':=(ab _)
    obtain⟨s,hs⟩:∃s:Int,s=(if cj b.ab 0 3 then 0 else 1):=⟨_,rfl⟩
    rw[<-hs] at call;have cI:(kR b)[0]?=φ s:=by rw[hs];rfl
    have HS:=ψ cI;have aG:=ψ call;clear hs cI call;by_cases h0:s=0
    ·go_wp2_with (first
      | (go_at_call 141;refine aG.e.mono ?_;rintro e w1 ⟨rfl,ai⟩;have aW:=ψ ai;clear ai))
     go_roundw;case rel=>exact⟨0+1,by omega,by go_num,GW.e s HS.e h0,HH.e.2.trans (aW.e.mono aN)⟩
     case measure=>simp[Ϭ]
    ·go_wp2_with (first
      | (go_at_call 141;refine aG.e.mono ?_;rintro e w1 ⟨rfl,ai⟩;have aW:=ψ ai;clear ai))
     go_ret;exact⟨bm (GG.e s HS.e h0),rh.e.trans (aW.e.mono (by omega))⟩
   |1,_=>
    have g:=(gU.cell (p:=⟨w.heap.size+1+1,1,ν⟩) (by simp)).trans (aqs _ _ _ _ _)
    clear gU;have call:ύ prog 142 #[η #[ξ κ b.ab,ζ A1 n1 c1,ζ A2 n2 c2,ζ A3 n3 c3]] wr λe w'=>e=Ω (ξ κ (jh b.pieces))/\Γ wr.heap.size wr w':=(pieces bD.e.pieces Nl)
    obtain⟨s,hs⟩:∃s:Int,s=(jh b.pieces):=⟨_,rfl⟩
    rw[<-hs] at call;have cI:(kR b)[1]?=φ s:=by rw[hs];rfl
    have HS:=ψ cI;have aG:=ψ call;clear hs cI call;by_cases h0:s=0
    ·go_wp2_with (first
      | (go_at_call 142;refine aG.e.mono ?_;rintro e w1 ⟨rfl,ai⟩;have aW:=ψ ai;clear ai))
     go_roundw;case rel=>exact⟨1+1,by omega,by go_num,GW.e s HS.e h0,HH.e.2.trans (aW.e.mono aN)⟩
     case measure=>simp[Ϭ]
    ·go_wp2_with (first
      | (go_at_call 142;refine aG.e.mono ?_;rintro e w1 ⟨rfl,ai⟩;have aW:=ψ ai;clear ai))
     go_ret;exact⟨bm (GG.e s HS.e h0),rh.e.trans (aW.e.mono (by omega))⟩
   |2,_=>
    have g:=(gU.cell (p:=⟨w.heap.size+1+1,2,ν⟩) (by simp)).trans (aqt _ _ _ _ _)
    clear gU;have call:ύ prog 143 #[η #[ξ κ b.ab,ζ A1 n1 c1,ζ A2 n2 c2,ζ A3 n3 c3]] wr λe w'=>e=Ω (ξ κ (lB b.aC))/\Γ wr.heap.size wr w':=(aC bD.e.aC Nl)
    obtain⟨s,hs⟩:∃s:Int,s=(lB b.aC):=⟨_,rfl⟩
    rw[<-hs] at call;have cI:(kR b)[2]?=φ s:=by rw[hs];rfl
    have HS:=ψ cI;have aG:=ψ call;clear hs cI call;by_cases h0:s=0
    ·go_wp2_with (first
      | (go_at_call 143;refine aG.e.mono ?_;rintro e w1 ⟨rfl,ai⟩;have aW:=ψ ai;clear ai))
     go_roundw;case rel=>exact⟨2+1,by omega,by go_num,GW.e s HS.e h0,HH.e.2.trans (aW.e.mono aN)⟩
     case measure=>simp[Ϭ]
    ·go_wp2_with (first
      | (go_at_call 143;refine aG.e.mono ?_;rintro e w1 ⟨rfl,ai⟩;have aW:=ψ ai;clear ai))
     go_ret;exact⟨bm (GG.e s HS.e h0),rh.e.trans (aW.e.mono (by omega))⟩
   |3,_=>
    have g:=(gU.cell (p:=⟨w.heap.size+1+1,3,ν⟩) (by simp)).trans (aqu _ _ _ _ _)
    clear gU;have call:ύ prog 144 #[η #[ξ κ b.ab,ζ A1 n1 c1,ζ A2 n2 c2,ζ A3 n3 c3]] wr λe w'=>e=Ω (ξ κ (lJ b.pieces.length b.aI))/\Γ wr.heap.size wr w':=(aI bD.e.pieces bD.e.aI Nl)
    obtain⟨s,hs⟩:∃s:Int,s=(lJ b.pieces.length b.aI):=⟨_,rfl⟩
    rw[<-hs] at call;have cI:(kR b)[3]?=φ s:=by rw[hs];rfl
    have HS:=ψ cI;have aG:=ψ call;clear hs cI call;by_cases h0:s=0
    ·go_wp2_with (first
      | (go_at_call 144;refine aG.e.mono ?_;rintro e w1 ⟨rfl,ai⟩;have aW:=ψ ai;clear ai))
     go_roundw;case rel=>exact⟨3+1,by omega,by go_num,GW.e s HS.e h0,HH.e.2.trans (aW.e.mono aN)⟩
     case measure=>simp[Ϭ]
    ·go_wp2_with (first
      | (go_at_call 144;refine aG.e.mono ?_;rintro e w1 ⟨rfl,ai⟩;have aW:=ψ ai;clear ai))
     go_ret;exact⟨bm (GG.e s HS.e h0),rh.e.trans (aW.e.mono (by omega))⟩
  ·obtain rfl:i=4:=by omega
   clear gU;go_wp2;go_ret;refine⟨bm (vP (f:=λ_ s=>s) (λj x hx=>HH.e.1 j x (by have:=(Ϯ.1 hx).1;simpa [kR] using this) hx)).symm,rh.e⟩
def fO(c d:Cut):Int:=if c.bt≠d.bt then c.bt - d.bt else c.from_ - d.from_
def less{c d:Cut}(h1:0<=c.bt)(h2:0<=d.bt)(h3:0<=c.from_)(h4:0<=d.from_)(h5:c.bt<=1000)(h6:d.bt<=1000)(h7:c.from_<=1000)(h8:d.from_<=1000):
 ύ prog 173 #[η #[ξ κ c.bt,ξ κ c.from_],η #[ξ κ d.bt,ξ κ d.from_]] w λe w'=>e=Ω (ξ κ (fO c d))/\Γ w.heap.size w w':=by
 by_cases h:c.bt=d.bt
 ·have hb:(c.bt !=d.bt)=χ:=by simp[h]
  have H:=ψ h;clear h;go_enter func173,Tryz.ntmps173;go_wp2;go_ret;exact⟨bm (by unfold fO;rw[if_neg (by simp[H.e])]),((ώ _ _).alloc (ϊ _) _).alloc (by simp) _⟩
 ·have hb:(c.bt !=d.bt)=θ:=by simp[h]
  have H:=ψ h;clear h;go_enter func173,Tryz.ntmps173;go_wp2;go_ret;exact⟨bm (by unfold fO;rw[if_pos H.e]),((ώ _ _).alloc (ϊ _) _).alloc (by simp) _⟩
def nA(s:Int)(c d:Cut)(n m:Int):Bool:= !(c.bt==d.bt) || (decide (c.from_+n+s<=d.from_) ||decide (d.from_+m+s<=c.from_))
def apart{n m:Int}{c d:Cut}(h1:0<=s/\s<=1000)(h2:0<=n/\n<=1000)(h3:0<=m/\m<=1000)(h4:0<=c.from_/\c.from_<=1000)(h5:0<=d.from_/\d.from_<=1000)
 (hp:∃A n c,pv=ζ A n c)(hb:∃A n c,bv=ζ A n c)(ht:∃A n c,tv=ζ A n c):
 ύ prog 166 #[η #[ξ κ s,pv,bv,tv],η #[ξ κ c.bt,ξ κ c.from_],η #[ξ κ d.bt,ξ κ d.from_],ξ κ n,ξ κ m] w λe w'=>e=Ω (.bool (nA s c d n m))/\Γ w.heap.size w w':=by
 obtain⟨A1,n1,c1,rfl⟩:=hp;obtain⟨A2,n2,c2,rfl⟩:=hb;obtain⟨A3,n3,c3,rfl⟩:=ht;obtain⟨h1,du⟩:=h1;obtain⟨h2,ei⟩:=h2;obtain⟨h3,xd⟩:=h3;obtain⟨h4,h4'⟩:=h4;obtain⟨h5,H9⟩:=h5;by_cases h:c.bt=d.bt
 ·have hb:(c.bt !=d.bt)=χ:=by simp[h]
  have H:=ψ h;clear h;go_enter func166,Tryz.ntmps166;go_wp2;all_goals go_ret
  all_goals refine⟨bU ?_,(((ώ _ _).alloc (ϊ _) _).alloc (by simp) _).alloc (by simp;omega) _⟩
  all_goals (unfold nA;simp[H.e];try omega)
 ·have hb:(c.bt !=d.bt)=θ:=by simp[h]
  have H:=ψ h;clear h;go_enter func166,Tryz.ntmps166;go_wp2;go_ret;exact⟨bU (by unfold nA;simp[H.e]),(((ώ _ _).alloc (ϊ _) _).alloc (by simp) _).alloc (by simp;omega) _⟩
def Xl(n:Int)(w:Ψ):ύ prog 178 (#[ξ κ n]++#[]) w λe w'=>e=Ω (.bool (!cj n 1 40))/\Γ w.heap.size w w':=by
 have e:(#[ξ κ n]++#[]:Array υ)=#[ξ κ n]:=by simp
 rw[e];go_enter func178,Tryz.ntmps178;go_wp2_with (first
  | (go_at_call 134;refine(inside _ _ _ _).mono ?_;rintro e w' ⟨rfl,rfl⟩))
 go_ret;exact⟨bU rfl,ώ _ _⟩
def sf(b:eR)(l:List Int):Int:=if l.length≠b.pieces.length then 2 else if l.any (λn=> !cj n 1 40) then 1 else 0
def akv{b:eR}(hb:aQ w B b pv bv tv)(hl:Row w B 1 bI lv l)(hB:B<=w.heap.size):
 ύ prog 127 #[η #[ξ κ b.ab,pv,bv,tv],lv] w λe w'=>e=Ω (ξ κ (sf b l))/\Γ w.heap.size w w':=by
 have HB:=ψ hb;have HL:=ψ hl;obtain⟨A1,n1,c1,rfl,e1,h1,du,-⟩:=hb.pieces.Φ;obtain⟨A2,n2,c2,rfl,-⟩:=hb.aC.Φ;obtain⟨A3,n3,c3,rfl,-⟩:=hb.aI.Φ;obtain⟨A,m,c,rfl,e2,h2,ei,-⟩:=hl.Φ;unfold ϑ at du ei;have E1:=ψ e1;have E2:=ψ e2;clear hb hl e1 e2;by_cases iB:m=n1
 ·have hq:((m:Int) !=(n1:Int))=χ:=by simp[iB]
  have HQ:=ψ iB;clear iB;cases ha:l.any (λn=> !cj n 1 40) with
  |true=>
   go_enter func127,Tryz.ntmps127;go_wp2_with (first
    | (go_at_call 177;refine(TJ (λn=> !cj n 1 40) call178 (HL.e.still (Δ.aJ ((ώ w.heap.size w).alloc (ϊ _) _) hB) λ_ _ h=>h) (by simp;omega) (λW x _ _=>Xl x W)).mono ?_;rintro e w1 ⟨rfl,ai⟩))
   go_ret;exact⟨bm (by unfold sf;rw[E1.e,E2.e,if_neg (by simp[HQ.e]),ha];rfl),da (ώ _ _) ai (ϊ _)⟩
  |false=>
   go_enter func127,Tryz.ntmps127;go_wp2_with (first
    | (go_at_call 177;refine(TJ (λn=> !cj n 1 40) call178 (HL.e.still (Δ.aJ ((ώ w.heap.size w).alloc (ϊ _) _) hB) λ_ _ h=>h) (by simp;omega) (λW x _ _=>Xl x W)).mono ?_;rintro e w1 ⟨rfl,ai⟩))
   go_ret;exact⟨bm (by unfold sf;rw[E1.e,E2.e,if_neg (by simp[HQ.e]),ha];rfl),da (ώ _ _) ai (ϊ _)⟩
 ·have hq:((m:Int) !=(n1:Int))=θ:=by simp;omega
  have HQ:=ψ iB;clear iB;go_enter func127,Tryz.ntmps127;go_wp2;go_ret;exact⟨bm (by unfold sf;rw[E1.e,E2.e,if_pos HQ.e]),(ώ _ _).alloc (ϊ _) _⟩
def lW(w:Ψ)(s:Int)(p q r:υ)(k f:Int)(nm:ByteArray)(aL:Int)(kv:υ):Ψ:=
 ((w.alloc (ϣ #[ξ κ s,p,q,r] 117)).alloc (ϣ #[ξ κ k,ξ κ f] 56)).alloc (ϣ #[.string nm,ξ κ aL,kv] 59)
section
variable (w:Ψ)(s:Int)(p q r:υ)(k f:Int)(nm:ByteArray)(aL:Int)(kv:υ)
def ajU:(lW w s p q r k f nm aL kv).heap.size=w.heap.size+3:=by simp[lW]
def ajT:Γ w.heap.size w (lW w s p q r k f nm aL kv):=(((ώ _ _).alloc (ϊ _) _).alloc (by simp) _).alloc (by simp;omega) _
def ajO:(lW w s p q r k f nm aL kv).cell? ⟨w.heap.size,1,ν⟩=φ p:=by simp[lW,go_sem]
def ajP:(lW w s p q r k f nm aL kv).cell? ⟨w.heap.size+1,1,ν⟩=φ (ξ κ f):=by simp[lW,go_sem]
def ajQ:(lW w s p q r k f nm aL kv).cell? ⟨w.heap.size+1+1,0,ν⟩=φ (.string nm):=by simp[lW,go_sem]
def ajR:(lW w s p q r k f nm aL kv).cell? ⟨w.heap.size+1+1,1,ν⟩=φ (ξ κ aL):=by simp[lW,go_sem]
def ajS:(lW w s p q r k f nm aL kv).cell? ⟨w.heap.size+1+1,2,ν⟩=φ kv:=by simp[lW,go_sem]
end
def pO(x:bN)(bears length:Int)(c:Cut):Bool:=decide (c.from_+length - 1<x.aL) && decide (lG x.cM c.from_ (c.from_+length - 1)<=bears)
def Xi{b:eR}{p:Piece}{x:bN}{from_ length:Int}(hb:aQ w B b pv bv tv)(hB:B<=w.heap.size)
 (hp:b.pieces[i]?=φ p)(hx:b.aC[k]?=φ x)(hf:0<=from_/\from_<=1000)(hl:0<=length/\length<=1000):
 ύ prog 165 #[η #[ξ κ b.ab,pv,bv,tv],ξ κ i,ξ κ length,η #[ξ κ k,ξ κ from_]] w λe w'=>e=Ω (.bool (pO x p.bears length ⟨k,from_⟩))/\Γ w.heap.size w w':=by
 have HB:=ψ hb;obtain⟨A1,n1,c1,rfl,e1,h1,du,r1⟩:=hb.pieces.Φ;obtain⟨A2,n2,c2,rfl,e2,h2,ei,r2⟩:=hb.aC.Φ;obtain⟨A3,n3,c3,rfl,-⟩:=hb.aI.Φ;unfold ϑ at du ei;have hi:i<n1:=by have:=(Ϯ.1 hp).1;omega
 have hk:k<n2:=by have:=(Ϯ.1 hx).1;omega
 obtain⟨er,p',wT,rfl,B3,E0,⟨rfl,VZ⟩,-,fU⟩:=r1 i hi;obtain⟨cR,x',ju,rfl,gT,ij,⟨kv,rfl,V0,dC⟩,-,eu⟩:=r2 k hk;obtain rfl:p'=p:=by rw[E0] at hp;exact Ϟ hp
 obtain rfl:x'=x:=by rw[ij] at hx;exact Ϟ hx
 obtain⟨A4,n4,c4,rfl,-⟩:=dC.Φ;have st:=Δ.refl (B:=B) w;have g3:=bj fU st B3 2 rfl;have b0:=cA eu st gT rfl;have b1:=bj eu st gT 0 rfl;have b2:=bj eu st gT 1 rfl;have uL:=ψ dC;obtain⟨hf,Iz⟩:=hf;obtain⟨hl,dM⟩:=hl;clear hb e1 e2 r1 r2 hp hx E0 ij fU eu dC st;have q0:(cR.add (k * 3)).block<w.heap.size:=by rw[b9];omega
 have q1:(cR.add (k * 3)).block<=w.heap.size:=by omega
 have q2:(cR.add (k * 3)).block<=w.heap.size+1:=by omega
 have s0:(er.add (i * 4)).block<w.heap.size:=by rw[b9];omega
 have s1:(er.add (i * 4)).block<=w.heap.size:=by omega
 have s2:(er.add (i * 4)).block<=w.heap.size+1:=by omega
 by_cases VD:from_+length - 1<x'.aL
 ·go_enter func165,Tryz.ntmps165
  go_wp2;have HW:=ψ (ajT w b.ab (ζ (φ er) n1 c1) (ζ (φ cR) n2 c2) (ζ A3 n3 c3) k from_ x'.name x'.aL (ζ A4 n4 c4));have k1:=ajO w b.ab (ζ (φ er) n1 c1) (ζ (φ cR) n2 c2) (ζ A3 n3 c3) k from_ x'.name x'.aL (ζ A4 n4 c4);have k2:=ajP w b.ab (ζ (φ er) n1 c1) (ζ (φ cR) n2 c2) (ζ A3 n3 c3) k from_ x'.name x'.aL (ζ A4 n4 c4);have Ay:=ajQ w b.ab (ζ (φ er) n1 c1) (ζ (φ cR) n2 c2) (ζ A3 n3 c3) k from_ x'.name x'.aL (ζ A4 n4 c4);have Az:=ajR w b.ab (ζ (φ er) n1 c1) (ζ (φ cR) n2 c2) (ζ A3 n3 c3) k from_ x'.name x'.aL (ζ A4 n4 c4);have Pq:=ajS w b.ab (ζ (φ er) n1 c1) (ζ (φ cR) n2 c2) (ζ A3 n3 c3) k from_ x'.name x'.aL (ζ A4 n4 c4);have HS:=ψ (ajU w b.ab (ζ (φ er) n1 c1) (ζ (φ cR) n2 c2) (ζ A3 n3 c3) k from_ x'.name x'.aL (ζ A4 n4 c4));change Code.wp _ _ _ _ (lW w b.ab (ζ (φ er) n1 c1) (ζ (φ cR) n2 c2) (ζ A3 n3 c3) k from_ x'.name x'.aL (ζ A4 n4 c4));generalize lW w b.ab (ζ (φ er) n1 c1) (ζ (φ cR) n2 c2) (ζ A3 n3 c3) k from_ x'.name x'.aL (ζ A4 n4 c4)=W3 at HW k1 k2 Ay Az Pq HS |-
  have k4: W3.cell? ⟨(er.add (i * 4)).block,(er.add (i * 4)).off+(2+1),ν⟩=φ (ξ κ p'.bears):=(HW.e.cell (p:=⟨(er.add (i * 4)).block,(er.add (i * 4)).off+(2+1),ν⟩) s0).trans g3;have lx:Hid (Γ (w.heap.size+3) W3 W3.drew):=ψ (dT (ώ _ _));have LL:Hid (Row W3.drew B 2 Span.R (ζ A4 n4 c4) x'.cM):=ψ (uL.e.still (Δ.aJ (dT HW.e) hB) λ_ _ h=>h)
  have HT:Hid (W3.drew.heap.size=w.heap.size+3):=ψ HS.e;go_region_held3 (λw'=> w'.cell? ⟨w.heap.size,1,ν⟩=φ (ζ (φ er) n1 c1)/\ w'.cell? ⟨w.heap.size+1,1,ν⟩=φ (ξ κ from_)/\ w'.cell? ⟨w.heap.size+1+1,0,ν⟩=φ (.string x'.name)/\ w'.cell? ⟨w.heap.size+1+1,1,ν⟩=φ (ξ κ x'.aL)/\ w'.cell? ⟨w.heap.size+1+1,2,ν⟩=φ (ζ A4 n4 c4)/\ w'.cell? ⟨(er.add (i * 4)).block,(er.add (i * 4)).off+(2+1),ν⟩=φ (ξ κ p'.bears)/\Hid (Γ (w.heap.size+3) W3 w')) (first|exact⟨k1,k2,Ay,Az,Pq,k4,lx⟩ |exact⟨m1,m2,m30,m31,m32,m4,ow⟩)
   (first| (go_at_call 132;refine(met LL.e (by rw[HT.e];omega)).mono ?_;rintro e w1 ⟨rfl,ai⟩
            have m1:=(ai.cell (p:=⟨w.heap.size,1,ν⟩) (by rw[HT.e];simp)).trans k1
            have m2:=(ai.cell (p:=⟨w.heap.size+1,1,ν⟩) (by rw[HT.e];simp)).trans k2
            have m30:=(ai.cell (p:=⟨w.heap.size+1+1,0,ν⟩) (by rw[HT.e];simp)).trans Ay
            have m31:=(ai.cell (p:=⟨w.heap.size+1+1,1,ν⟩) (by rw[HT.e];simp)).trans Az
            have m32:=(ai.cell (p:=⟨w.heap.size+1+1,2,ν⟩) (by rw[HT.e];simp)).trans Pq
            have m4:=(ai.cell (p:=⟨(er.add (i * 4)).block,(er.add (i * 4)).off+(2+1),ν⟩) (by rw[HT.e];simp;omega)).trans k4
            have ow:Hid (Γ (w.heap.size+3) W3 w1):=ψ (uN (ai.mono (by rw[HT.e];omega)))))
  go_wp2;go_ret;refine⟨bU ?_,HW.e.trans (ow.e.mono (by omega))⟩
  simp[pO,VD]
 ·have hd:decide (from_+length - 1<x'.aL)=χ:=by simpa using VD
  go_enter func165,Tryz.ntmps165;go_wp2;go_quiet (fail);go_wp2;go_ret;refine⟨bU ?_,jr ((((ώ _ _).alloc (ϊ _) _).alloc (by simp) _).alloc (by simp;omega) _) _⟩
  simp[pO,hd]
def mK(nb:Int)(c:Cut):Int:=if cj c.bt 0 (nb - 1) then if cj c.from_ 0 40 then 0 else 1 else 6
def gZ(b:eR)(l:List Cut):Int:=if l.length≠b.pieces.length then 2 else scan (λ_ c=>mK b.aC.length c) [] l
def MK{b:eR}{l:List Cut}(hb:aQ w B b pv bv tv)(hl:Row w B 2 Cut.R lv l)(hB:B<=w.heap.size):
 ύ prog 109 #[η #[ξ κ b.ab,pv,bv,tv],lv] w λe w'=>e=Ω (ξ κ (gZ b l))/\Γ w.heap.size w w':=by
 obtain⟨A1,n1,c1,rfl,e1,h1,du,-⟩:=hb.pieces.Φ;obtain⟨A2,nb,c2,rfl,eb,h2,ei,-⟩:=hb.aC.Φ;obtain⟨A3,n3,c3,rfl,-⟩:=hb.aI.Φ;obtain⟨A,m,c,rfl,e2,h3,xd,hr⟩:=hl.Φ;unfold ϑ at du ei xd;have E1:=ψ e1;have EB:=ψ eb;have E2:=ψ e2;have H2:=ψ hr;clear hb hl e1 eb e2 hr;by_cases iB:m=n1
 ·have hq:((m:Int) !=(n1:Int))=χ:=by simp[iB]
  have HQ:=ψ iB;clear iB;have QD:gZ b l=scan (λ_ c=>mK nb c) [] l:=by unfold gZ;rw[E1.e,E2.e,EB.e,if_neg (by simp[HQ.e])]
  have SN:=ψ QD;clear QD;go_enter func109,Tryz.ntmps109;go_wp2;go_loopw [4,6,7,17] (λr t q k wr=>∃i:Nat,i<=m/\k=ξ κ i/\(∀(j:Nat) (x:Cut),j<i->l[j]?=φ x->mK nb x=0)/\Γ (w.heap.size+1) (w.alloc (ϣ #[ξ κ b.ab,ζ A1 n1 c1,ζ A2 nb c2,ζ A3 n3 c3] 117)) wr) (λ_ _ _ k _=>m - (Ϭ k).toNat)
  case atStart=>exact⟨0,Ϡ _,rfl,λj _ hj=>by omega,ώ _ _⟩
  case round=>
   obtain⟨i,hi,rfl,bS,hb⟩:=hrel;have HH:=ψ (Ϗ bS hb);have ef:=hb.size;have aN:w.heap.size+1<=wr.heap.size:=by simpa using ef
   have vA:w.heap.size<=wr.heap.size:=by omega
   have E7:w.heap.size<wr.heap.size:=by omega
   have ho: wr.cell? ⟨w.heap.size,2,ν⟩=φ (ζ A2 nb c2):=(hb.cell (p:=⟨w.heap.size,2,ν⟩) (by simp)).trans (by simp[go_sem])
   by_cases ao:i<m
   ·obtain⟨ad,x,cs,rfl,aE,hx,rfl,-,aq⟩:=H2.e i ao
    have st:Δ B w wr:=((Δ.refl w).alloc hB _).trans (Δ.aJ hb (by omega))
    have h0:=cA aq st aE rfl;have h1:=bj aq st aE 0 rfl;have HX:=ψ hx;clear bS hb hx aq st ef;have lu:=ψ HH.e.2;have bad:∀s:Int,mK nb x=s->s≠0->s=gZ b l:=λs hs h0=>by
     rw[SN.e,vQ (f:=λ_ c=>mK nb c) HX.e HH.e.1 (by rw[hs];exact h0),hs]
    have gW:=ψ bad;clear bad;cases ej:cj x.bt 0 (nb - 1) with
    |false=>
     go_wp2_with (first
      | (go_at_call 100;refine(there _ _ (by omega) _ (by omega)).mono ?_;rintro e w' ⟨rfl,rfl⟩;simp only[ej]))
     go_ret;exact⟨bm (gW.e 6 (by unfold mK;rw[ej];rfl) (by omega)),kg (lu.e.trans ((ώ _ _).alloc aN _))⟩
    |true=>
     cases oO:cj x.from_ 0 40 with
     |false=>
      go_wp2_with (first
       | (go_at_call 100;refine(there _ _ (by omega) _ (by omega)).mono ?_;rintro e w' ⟨rfl,rfl⟩;simp only[ej])
       | (go_at_call 134;refine(inside _ _ _ _).mono ?_;rintro e w' ⟨rfl,rfl⟩))
      go_ret;exact⟨bm (gW.e 1 (by unfold mK;rw[ej,oO];rfl) (by omega)),kg (lu.e.trans ((ώ _ _).alloc aN _))⟩
     |true=>
      go_wp2_with (first
       | (go_at_call 100;refine(there _ _ (by omega) _ (by omega)).mono ?_;rintro e w' ⟨rfl,rfl⟩;simp only[ej])
       | (go_at_call 134;refine(inside _ _ _ _).mono ?_;rintro e w' ⟨rfl,rfl⟩))
      go_roundw;case rel=>exact⟨i+1,by omega,by go_num,λj y hj hy=>by
       rcases Æ.1 hj with h|rfl
       ·exact HH.e.1 j y h hy
       ·rw[HX.e] at hy;cases hy;unfold mK;rw[ej,oO];rfl,lu.e.trans ((ώ _ _).alloc aN _)⟩
      case measure=>simp[Ϭ];omega
   ·obtain rfl:i=m:=by omega
    go_wp2;go_ret;refine⟨bm ?_,kg HH.e.2⟩
    rw[SN.e,vP (f:=λ_ c=>mK nb c) (λj x hj=>HH.e.1 j x (by have:=(Ϯ.1 hj).1;have:=E2.e;omega) hj)]
 ·have hq:((m:Int) !=(n1:Int))=θ:=by simp;omega
  have HQ:=ψ iB;clear iB;go_enter func109,Tryz.ntmps109;go_wp2;go_ret;exact⟨bm (by unfold gZ;rw[E1.e,E2.e,if_pos HQ.e]),(ώ _ _).alloc (ϊ _) _⟩
def al.at(L:al)(i:Nat):Int:=if i=0 then L.a else if i=1 then L.b else L.c
def pN(b:eR)(i:Nat)(n:Int)(c:Cut):Bool:=match b.pieces[i]?,b.aC[c.bt.toNat]? with
 |some p,φ x=>pO x p.bears n c
 |_,_=>χ
def sg(b:eR)(L:al)(l:List Cut)(i:Nat)(c:Cut)(k:Nat):Bool:=match l[k]? with
 |some d=>nA b.ab c d (L.at i) (L.at k)
 |none=>θ
def ql(b:eR)(L:al)(l:List Cut)(i:Nat):Bool:=match l[i]? with
 |some c=>pN b i (L.at i) c && (ε i).all (sg b L l i c)
 |none=>θ
def db(b:eR)(L:al)(l:List Cut):Bool:=(ε l.length).all (ql b L l)
def j7{f:Nat->Bool}:(ε n).all f=θ↔∀i,i<n->f i=θ:=by simp
def G5{f:Nat->Bool}(hi:i<n)(h:f i=χ):(ε n).all f=χ:=by
 cases e:(ε n).all f with
 |false=>rfl
 |true=>have:=j7.1 e i hi;rw[h] at this;cases this
structure q9(b:eR)(c:Cut):Prop where
 bt:∃k:Nat,c.bt=k/\k<b.aC.length
 from_:0<=c.from_/\c.from_<=40
structure DH(w:Ψ)(s:Int)(p q r:υ)(L:al)(W:Ψ):Prop where
 size:w.heap.size+2<=W.heap.size
 f0: W.cell? ⟨w.heap.size,0,ν⟩=φ (ξ κ s)
 f1: W.cell? ⟨w.heap.size,1,ν⟩=φ p
 f2: W.cell? ⟨w.heap.size,2,ν⟩=φ q
 f3: W.cell? ⟨w.heap.size,3,ν⟩=φ r
 g:∀i,i<3-> W.cell? ⟨w.heap.size+1,i,ν⟩=φ (ξ κ (L.at i))
def DH.below{p q r:υ}{L:al}(h:DH w s p q r L W)(hb:Γ B W W')(hB:w.heap.size+2<=B):DH w s p q r L W':=
 ⟨ϡ h.size hb.size,(hb.cell (p:=⟨w.heap.size,0,ν⟩) (by simp;omega)).trans h.f0,(hb.cell (p:=⟨w.heap.size,1,ν⟩) (by simp;omega)).trans h.f1,(hb.cell (p:=⟨w.heap.size,2,ν⟩) (by simp;omega)).trans h.f2,
   (hb.cell (p:=⟨w.heap.size,3,ν⟩) (by simp;omega)).trans h.f3,λi hi=>(hb.cell (p:=⟨w.heap.size+1,i,ν⟩) (by simp;omega)).trans (h.g i hi)⟩
def DH.start(w:Ψ)(s:Int)(p q r:υ)(L:al):DH w s p q r L ((w.alloc (ϣ #[ξ κ s,p,q,r] 117)).alloc (ϣ #[ξ κ L.a,ξ κ L.b,ξ κ L.c] 128)):=by
 refine⟨by simp,by simp[go_sem],by simp[go_sem],by simp[go_sem],by simp[go_sem],λi hi=>?_⟩
 match i,hi with
 |0,_=>simp[go_sem,al.at]
 |1,_=>simp[go_sem,al.at]
 |2,_=>simp[go_sem,al.at]
def MN{b:eR}{L:al}{l:List Cut}(hb:aQ w B b pv bv tv)(hl:Row w B 2 Cut.R lv l)(hB:B<=w.heap.size)
 (hlen:l.length=b.pieces.length)(iX:b.pieces.length<=3)(cD:∀(i:Nat) (c:Cut),l[i]?=φ c->q9 b c)(hL:∀i,0<=L.at i/\L.at i<=1000)(r8:0<=b.ab/\b.ab<=1000):
 ύ prog 110 #[η #[ξ κ b.ab,pv,bv,tv],η #[ξ κ L.a,ξ κ L.b,ξ κ L.c],lv] w λe w'=>e=Ω (.bool (db b L l))/\Γ w.heap.size w w':=by
 have bD:=ψ hb;obtain⟨A1,n1,c1,rfl,e1,h1,du,-⟩:=hb.pieces.Φ;obtain⟨A2,nb,c2,rfl,eb,h2,ei,-⟩:=hb.aC.Φ;obtain⟨A3,n3,c3,rfl,-⟩:=hb.aI.Φ;obtain⟨A,m,c,rfl,e2,h3,xd,hr⟩:=hl.Φ;unfold ϑ at du ei xd;have IL:m<=3:=by omega
 have E2:=ψ e2;have EN:=ψ hlen;have H2:=ψ hr;have OK:=ψ cD;have HL:=ψ hL;have ZO:=ψ r8;clear hb hl e1 eb e2 hr cD hL r8 hlen iX;go_enter func110,Tryz.ntmps110;go_wp2;go_loopw [6,7,8,9,10,13,28,29,30] (λr t q s u k x y z wr=>∃i:Nat,i<=m/\k=ξ κ i/\(∀j:Nat,j<i->ql b L l j=θ)/\Hid (DH w b.ab (ζ A1 n1 c1) (ζ A2 nb c2) (ζ A3 n3 c3) L wr)/\Γ w.heap.size w wr) (λ_ _ _ _ _ k _ _ _ _=>m - (Ϭ k).toNat)
 case atStart=>exact⟨0,Ϡ _,rfl,λj hj=>by omega,ψ (DH.start w b.ab _ _ _ L),((ώ _ _).alloc (ϊ _) _).alloc (by simp) _⟩
 case round=>
  obtain⟨wo,rfl⟩:∃wo:Ψ,wo=wr:=⟨_,rfl⟩
  obtain⟨i,hi,rfl,bS,zR,hb⟩:=hrel;have HH:=ψ (Ϗ bS hb);have aN:w.heap.size+2<=wo.heap.size:=zR.e.size;by_cases ao:i<m
  ·obtain⟨ad,x,cs,rfl,aE,hx,rfl,-,aq⟩:=H2.e i ao
   have st:Δ B w wo:=Δ.aJ hb hB;have ok:=OK.e i x hx;obtain⟨bd,fr⟩:=x;obtain⟨k,hk,cP⟩:=ok.bt;obtain rfl:bd=(k:Int):=hk;have cq:0<=fr/\fr<=40:=ok.from_;have h0:=cA aq st aE rfl;have h1:=bj aq st aE 0 rfl;have HX:=ψ hx;have f0:=zR.e.f0;have f1:=zR.e.f1;have f2:=zR.e.f2;have f3:=zR.e.f3;have gi:=zR.e.g i (by omega)
   have a0:w.heap.size<wo.heap.size:=by omega
   have a1:w.heap.size<=wo.heap.size:=by omega
   have a2:w.heap.size+1<wo.heap.size:=by omega
   have a3:w.heap.size+1<=wo.heap.size:=by omega
   have i3:i<3:=by omega
   have i3':(i:Int)<3:=by omega
   have EJ:i<=c:=by omega
   clear bS hb hx aq ok;go_wp2;refine tA 6 (by kernel_rfl) (by kernel_rfl) ?_
   simp only[ê,ë,ñ,ò];repeat still_step
   refine wpStill_nil ?_
   have hp:∃p,b.pieces[i]?=φ p:=⟨_,Ã (by have:=E2.e;have:=EN.e;omega)⟩
   obtain⟨p,hp⟩:=hp;have nH:b.aC[k]?=φ (b.aC[k]):=Ã cP
   obtain⟨bx,nH⟩:∃bx,b.aC[k]?=φ bx:=⟨_,nH⟩
   have Ot:pN b i (L.at i) ⟨k,fr⟩=pO bx p.bears (L.at i) ⟨k,fr⟩:=by unfold pN;simp[hp,nH]
   have Lt:=ψ Ot;have call:ύ prog 165 #[η #[ξ κ b.ab,ζ A1 n1 c1,ζ A2 nb c2,ζ A3 n3 c3],ξ κ i,ξ κ (L.at i),η #[ξ κ k,ξ κ fr]] (wo.alloc (ϣ #[Ϝ ϙ ↑k,Ϝ ϙ fr] 56)).drew
    λe w'=>e=Ω (.bool (pO bx p.bears (L.at i) ⟨k,fr⟩))/\Γ (wo.alloc (ϣ #[Ϝ ϙ ↑k,Ϝ ϙ fr] 56)).drew.heap.size (wo.alloc (ϣ #[Ϝ ϙ ↑k,Ϝ ϙ fr] 56)).drew w':=
    Xi (B:=B) (bD.e.still λq hq=>(ù wo _ q (by omega)).trans (st q hq)) (by simp;omega) hp nH ⟨cq.1,by omega⟩ (HL.e i)
   have aG:=ψ call;clear call hp nH Ot st;cases Cg:pO bx p.bears (L.at i) ⟨k,fr⟩ with
   |false=>
    go_wp2_with (first
     | (go_at_call 165;refine aG.e.mono ?_;rintro e w1 ⟨rfl,ai⟩;have dY:=ψ (da HH.e.2 (uN ai) a1);clear ai))
    go_ret;refine⟨bU ?_,dY.e⟩
    unfold db;rw[E2.e]
    exact(G5 ao (by unfold ql;rw[HX.e];simp[Lt.e,Cg])).symm
   |true=>
    go_wp2_with (first
     | (go_at_call 165;refine aG.e.mono ?_;rintro e w1 ⟨rfl,ai⟩;have dY:=ψ (da HH.e.2 (uN ai) a1);have Xc:=ψ (zR.e.below (da (ώ (w.heap.size+2) wo) (uN ai) aN) (ϊ _));have Bg:=ψ (uN ai);clear ai))
    have aO:wo.heap.size<w1.heap.size:=pM Bg.e;have UW: w1.cell? ⟨wo.heap.size,0,ν⟩=φ (ξ κ k):=(Bg.e.cell (p:=⟨wo.heap.size,0,ν⟩) (by simp)).trans (by simp[go_sem])
    have UX: w1.cell? ⟨wo.heap.size,1,ν⟩=φ (ξ κ fr):=(Bg.e.cell (p:=⟨wo.heap.size,1,ν⟩) (by simp)).trans (by simp[go_sem])
    have sx:=ψ (Ϗ UW (Ϗ UX aO));clear UW UX f0 f1 f2 f3 gi h0 h1 aO;go_loopw [6,9,10,30] (λr s u z W=>∃j:Nat,j<=i/\z=ξ κ j/\(∀q:Nat,q<j->sg b L l i ⟨k,fr⟩ q=θ)/\Hid (DH w b.ab (ζ A1 n1 c1) (ζ A2 nb c2) (ζ A3 n3 c3) L W)/\Hid (W.cell? ⟨wo.heap.size,0,ν⟩=φ (ξ κ k)/\ W.cell? ⟨wo.heap.size,1,ν⟩=φ (ξ κ fr)/\wo.heap.size<W.heap.size)/\Γ w.heap.size w W) (λ_ _ _ z _=>i - (Ϭ z).toNat)
    case atStart=>exact⟨0,Ϡ _,rfl,λj hj=>by omega,Xc,sx,dY.e⟩
    case round=>
     obtain⟨j,hj,rfl,UR,vh,dg,zK⟩:=hrel;have HJ:=ψ (Ϗ UR zK);have aiM:w.heap.size+2<=wr.heap.size:=vh.e.size;clear UR;by_cases oL:j<i
     ·obtain⟨DE,y,bu,lZ,ag7,hy,rfl,-,Cb⟩:=H2.e j (by omega)
      cases lZ;have QI:Δ B w wr:=Δ.aJ zK hB;have XP:=OK.e j y hy;obtain⟨nC,jv⟩:=y;have nI:0<=jv/\jv<=40:=XP.from_;have h0:=cA Cb QI aE rfl;have h1:=bj Cb QI aE 0 rfl;have HY:=ψ hy;have f0:=vh.e.f0;have f1:=vh.e.f1;have f2:=vh.e.f2;have f3:=vh.e.f3;have gi:=vh.e.g i i3;have gj:=vh.e.g j (by omega)
      obtain⟨Mw,Mx,Pb⟩:=dg.e;have b0:w.heap.size<wr.heap.size:=by omega
      have b1:w.heap.size<=wr.heap.size:=by omega
      have b2:w.heap.size+1<wr.heap.size:=by omega
      have b3:w.heap.size+1<=wr.heap.size:=by omega
      have b4:wo.heap.size<=wr.heap.size:=by omega
      have j3:(j:Int)<3:=by omega
      clear zK hy Cb XP QI;go_wp2;refine tA 9 (by kernel_rfl) (by kernel_rfl) ?_
      simp only[ê,ë,ñ,ò];repeat still_step
      refine wpStill_nil ?_
      have B6:sg b L l i ⟨k,fr⟩ j=nA b.ab ⟨k,fr⟩ ⟨nC,jv⟩ (L.at i) (L.at j):=by unfold sg;rw[HY.e]
      have Dt:=ψ B6;clear B6;have call:∀W:Ψ,ύ prog 166 #[η #[ξ κ b.ab,ζ A1 n1 c1,ζ A2 nb c2,ζ A3 n3 c3],η #[ξ κ k,ξ κ fr],η #[ξ κ nC,ξ κ jv],ξ κ (L.at i),ξ κ (L.at j)] W
            λe w'=>e=Ω (.bool (nA b.ab ⟨k,fr⟩ ⟨nC,jv⟩ (L.at i) (L.at j)))/\Γ W.heap.size W w':=λW=>
          apart (c:=⟨k,fr⟩) (d:=⟨nC,jv⟩) ZO.e (HL.e i) (HL.e j) ⟨cq.1,by have:=cq.2;show fr<=1000;omega⟩ ⟨nI.1,by have:=nI.2;show jv<=1000;omega⟩ ⟨_,_,_,rfl⟩ ⟨_,_,_,rfl⟩ ⟨_,_,_,rfl⟩
      have wh:=ψ call;clear call;cases EP:nA b.ab ⟨k,fr⟩ ⟨nC,jv⟩ (L.at i) (L.at j) with
      |false=>
       go_wp2_with (first
            | (go_at_call 166;refine(wh.e _).mono ?_;rintro e w2 ⟨rfl,an⟩;have eH:=ψ (da HJ.e.2 (uN an) b1);clear an))
       go_ret;refine⟨bU ?_,eH.e⟩
       unfold db;rw[E2.e]
       refine(G5 ao ?_).symm
       unfold ql;rw[HX.e]
       simp only[Lt.e,Cg,Bool.true_and];exact G5 oL (by rw[Dt.e,EP])
      |true=>
       go_wp2_with (first
            | (go_at_call 166;refine(wh.e _).mono ?_;rintro e w2 ⟨rfl,an⟩;have eH:=ψ (da HJ.e.2 (uN an) b1);have uJ:=ψ (da (ώ wr.heap.size wr) (uN an) (ϊ _));clear an))
       go_roundw;case rel=>exact⟨j+1,by omega,by go_num,λq hq=>by
            rcases Æ.1 hq with h|rfl
            ·exact HJ.e.1 q h
            ·rw[Dt.e,EP],ψ (vh.e.below uJ.e aiM),ψ ⟨(uJ.e.cell (p:=⟨wo.heap.size,0,ν⟩) Pb).trans Mw,(uJ.e.cell (p:=⟨wo.heap.size,1,ν⟩) Pb).trans Mx,ϟ Pb uJ.e.size⟩,eH.e⟩
       case measure=>simp[Ϭ];omega
     ·obtain rfl:j=i:=by omega
      clear zK;go_wp2;go_roundw;case rel=>exact⟨j+1,by omega,by go_num,λq hq=>by
          rcases Æ.1 hq with h|rfl
          ·exact HH.e.1 q h
          ·unfold ql;rw[HX.e];simp only[Lt.e,Cg,Bool.true_and];exact j7.2 HJ.e.1,vh,HJ.e.2⟩
      case measure=>simp[Ϭ];omega
  ·obtain rfl:i=m:=by omega
   clear hb;go_wp2;go_ret;refine⟨bU ?_,HH.e.2⟩
   unfold db;rw[E2.e];exact(j7.2 HH.e.1).symm
def tE(L:al)(l:List Int):Int:=(l.map λk=>L.at k.toNat).sum
def apE(L:al)(l:List Int)(k:Int):tE L (l++ [k])=tE L l+L.at k.toNat:=by simp[tE]
def QM(L:al)(hL:∀i,0<=L.at i/\L.at i<=1000):∀l:List Int,0<=tE L l/\tE L l<=1000 * l.length
 | []=>by simp[tE]
 |k::l=>by
  have:=QM L hL l;have:=hL k.toNat;simp[tE] at *;omega
def Gr(L:al)(t:Tape):Bool:= !cj (tE L t.pieces) t.sum.lo t.sum.hi
def anO{t:Tape}{L:al}{g:Nat}(qG:Row w B 1 bI pv t.pieces)(hB:B<=w.heap.size)(hg:g<w.heap.size)
 (hc:∀i,i<3-> w.cell? ⟨g,i,ν⟩=φ (ξ κ (L.at i)))(hk:∀k∈t.pieces,0<=k/\k<3)(h3:t.pieces.length<=3)(hL:∀i,0<=L.at i/\L.at i<=1000):
 ύ prog 209 #[η #[pv,ξ κ t.sum.lo,ξ κ t.sum.hi],π (φ ⟨g,0,ν⟩)] w λe w'=>e=Ω (.bool (Gr L t))/\Γ w.heap.size w w':=by
 obtain⟨A,n,c,rfl,hl,ey,dg,hr⟩:=qG.Φ;have iW:n<=3:=by omega
 have ox:=ψ hl;have H2:=ψ hr;have HC:=ψ hc;have HK:=ψ hk;have HL:=ψ hL;have fD:g<=w.heap.size:=by omega
 clear hl hr hc hk hL qG dg h3;go_enter func209,Tryz.ntmps209;go_wp2
 go_loop [4,6,10] (λs q k=>∃i:Nat,i<=n/\k=ξ κ i/\s=ξ κ (tE L (t.pieces.take i))) (λ_ _ k=>n - (Ϭ k).toNat)
 case atStart=>exact⟨0,Ϡ _,rfl,rfl⟩
 case round=>
  obtain⟨i,hi,rfl,rfl⟩:=hrel;have xR:=(QM L HL.e (t.pieces.take i)).1;have xQ:tE L (t.pieces.take i)<=3000:=by
   have:=(QM L HL.e (t.pieces.take i)).2;have:(t.pieces.take i).length<=i:=Age _ _;omega
  by_cases ao:i<n
  ·obtain⟨ad,x,cs,rfl,aE,hx,rfl,-,aq⟩:=H2.e i ao
   have Wy:=HK.e x (Ϩ hx);obtain⟨j,rfl⟩:=Int.eq_ofNat_of_zero_le Wy.1;have RF:j<3:=by omega
   have Vo:(j:Int)<3:=by omega
   have h0:=cA aq (Δ.refl (B:=B) w) aE rfl;rw[Ī] at h0;have q0:(ad.add i).block<w.heap.size:=by rw[b9];omega
   have gj:=HC.e j RF;have HX:=ψ hx;have VH:=HL.e j;obtain⟨VH,asm⟩:=VH;clear hx aq Wy;go_wp2
   go_round
   case rel=>exact⟨i+1,by omega,by go_num,by rw[pT HX.e,apE];rfl⟩
   case measure=>simp[Ϭ];omega
  ·obtain rfl:i=n:=by omega
   go_wp2_with (first
    | (go_at_call 134;refine(inside _ _ _ _).mono ?_;rintro e w' ⟨rfl,rfl⟩))
   go_ret;refine⟨bU ?_,(ώ _ _).alloc (ϊ _) _⟩
   unfold Gr;rw[Ċ (ú ox.e)]
def Bs(b:eR):Prop:=∀t∈b.aI,(∀k∈t.pieces,0<=k/\k<3)/\t.pieces.length<=3
def tC(L:al)(l:List Tape):Bool:= !(l.any (Gr L))
def right{b:eR}{L:al}(hb:aQ w B b pv bv tv)(hB:B<=w.heap.size)(cD:Bs b)(hL:∀i,0<=L.at i/\L.at i<=1000):
 ύ prog 189 #[η #[ξ κ b.ab,pv,bv,tv],η #[ξ κ L.a,ξ κ L.b,ξ κ L.c]] w λe w'=>e=Ω (.bool (tC L b.aI))/\Γ w.heap.size w w':=by
 have bD:=ψ hb;obtain⟨A1,n1,c1,rfl,-⟩:=hb.pieces.Φ;obtain⟨A2,nb,c2,rfl,-⟩:=hb.aC.Φ;obtain⟨A3,n3,c3,rfl,-⟩:=hb.aI.Φ;have OK:=ψ cD;have HL:=ψ hL;have ST:Hid (Δ B w ((w.alloc (ϣ #[ξ κ b.ab,ζ A1 n1 c1,ζ A2 nb c2,ζ A3 n3 c3] 117)).alloc (ϣ #[ξ κ L.a,ξ κ L.b,ξ κ L.c] 128))):=ψ (((Δ.refl w).alloc hB _).alloc (by simp;omega) _)
 have HD:=ψ (DH.start w b.ab (ζ A1 n1 c1) (ζ A2 nb c2) (ζ A3 n3 c3) L);clear hb cD hL;have call:ύ prog 208 #[ζ A3 n3 c3,fv 209 #[π (φ ⟨w.heap.size+1,0,ν⟩)]] ((w.alloc (ϣ #[ξ κ b.ab,ζ A1 n1 c1,ζ A2 nb c2,ζ A3 n3 c3] 117)).alloc (ϣ #[ξ κ L.a,ξ κ L.b,ξ κ L.c] 128))
  λe w'=>e=Ω (.bool (b.aI.any (Gr L)))/\Γ ((w.alloc (ϣ #[ξ κ b.ab,ζ A1 n1 c1,ζ A2 nb c2,ζ A3 n3 c3] 117)).alloc (ϣ #[ξ κ L.a,ξ κ L.b,ξ κ L.c] 128)).heap.size _ w':=
  ad6 (Gr L) call209 ((bD.e.still ST.e).aI) (by simp;omega) λW x kv hW dC hx=>app1 (anO (B:=B) (dC.still (Δ.aJ hW (by simp;omega)) λ_ _ h=>h)
   (ϡ (by simp;omega) hW.size) (ϟ (by simp) hW.size) (λi hi=>(hW.cell (p:=⟨w.heap.size+1,i,ν⟩) (by simp)).trans (HD.e.g i hi)) (OK.e x hx).1 (OK.e x hx).2 HL.e)
 have aG:=ψ call;clear call;go_enter func189,Tryz.ntmps189;go_wp2_with (first
  | (go_at_call 208;refine aG.e.mono ?_;rintro e w1 ⟨rfl,ai⟩))
 go_ret;exact⟨bU rfl,(((ώ _ _).alloc (ϊ _) _).alloc (by simp) _).trans (ai.mono (by simp;omega))⟩
def first(hv:Row w B 1 bI v l):
 ύ prog 126 #[v] w λe w'=>e=Ω (ξ κ (scan (λ_ s=>s) [] l))/\w=w':=by
 obtain⟨A,n,c,rfl,hl,ey,dg,hr⟩:=hv.Φ;unfold ϑ at dg;have ox:=ψ hl;have H2:=ψ hr;clear hl hr hv;go_enter func126,Tryz.ntmps126;go_wp2
 go_loop [2,4,7] (λr q k=>∃i:Nat,i<=n/\k=ξ κ i/\(∀(j:Nat) (x:Int),j<i->l[j]?=φ x->x=0)) (λ_ _ k=>n - (Ϭ k).toNat)
 case atStart=>exact⟨0,Ϡ _,rfl,λj _ hj=>by omega⟩
 case round=>
  obtain⟨i,hi,rfl,bS⟩:=hrel;have HA:=ψ bS;clear bS;by_cases ao:i<n
  ·obtain⟨ad,x,cs,rfl,aE,hx,rfl,-,aq⟩:=H2.e i ao
   have h0:=cA aq (Δ.refl (B:=B) w) aE rfl;rw[Ī] at h0;have HX:=ψ hx;clear hx aq;by_cases xW:x=0
   ·go_wp2
    go_round
    case rel=>exact⟨i+1,by omega,by go_num,λj y hj hy=>by
     rcases Æ.1 hj with h|rfl
     ·exact HA.e j y h hy
     ·rw[HX.e] at hy;cases hy;exact xW⟩
    case measure=>simp[Ϭ];omega
   ·go_wp2
    go_ret;exact⟨bm (vQ (f:=λ_ s=>s) HX.e HA.e xW).symm,rfl⟩
  ·obtain rfl:i=n:=by omega
   go_wp2;go_ret;exact⟨bm (vP (f:=λ_ s=>s) (λj x hx=>HA.e j x (by have:=(Ϯ.1 hx).1;have:=ox.e;omega) hx)).symm,rfl⟩
def ack{a b c:υ}{R:Ending->Ψ->Prop}(h:ύ P f #[a,b,c] w R):ύ P f (#[a]++#[b,c]) w R:=by
 have e:(#[a]++#[b,c]:Array υ)=#[a,b,c]:=by simp
 rw[e];exact h
structure K4(b:eR)(l:List Cut):Prop where
 len:l.length=b.pieces.length
 three:b.pieces.length<=3
 lC:∀(i:Nat) (c:Cut),l[i]?=φ c->q9 b c
 ab:0<=b.ab/\b.ab<=1000
def al.Ok(L:al):Prop:=∀i,0<=L.at i/\L.at i<=1000
def apH{b:eR}{L:al}{l:List Cut}{g1 g2:Nat}(hb:aQ w B b pv bv tv)(hl:Row w B 2 Cut.R lv l)(hB:B<=w.heap.size)(ok:K4 b l)(hL:L.Ok)
 (fD:g1<w.heap.size)(oK:g2<w.heap.size)(f0: w.cell? ⟨g1,0,ν⟩=φ (ξ κ b.ab))(f1: w.cell? ⟨g1,1,ν⟩=φ pv)(f2: w.cell? ⟨g1,2,ν⟩=φ bv)(f3: w.cell? ⟨g1,3,ν⟩=φ tv)
 (f4: w.cell? ⟨g2,0,ν⟩=φ lv):
 ύ prog 169 #[η #[ξ κ L.a,ξ κ L.b,ξ κ L.c],π (φ ⟨g1,0,ν⟩),π (φ ⟨g2,0,ν⟩)] w λe w'=>e=Ω (.bool (!db b L l))/\Γ w.heap.size w w':=by
 have call:=MN (w:=w.alloc (ϣ #[ξ κ L.a,ξ κ L.b,ξ κ L.c] 128)) (B:=B) (hb.still ((Δ.refl w).alloc hB _)) (hl.still ((Δ.refl w).alloc hB _) λ_ _ h=>h) (by simp;omega) ok.len ok.three ok.lC hL ok.ab
 have aG:=ψ call;have xu:g1<=w.heap.size:=by omega
 have ar8:g2<=w.heap.size:=by omega
 obtain⟨A1,n1,c1,rfl,-⟩:=hb.pieces.Φ;obtain⟨A2,nb,c2,rfl,-⟩:=hb.aC.Φ;obtain⟨A3,n3,c3,rfl,-⟩:=hb.aI.Φ;obtain⟨A,n,c,rfl,-⟩:=hl.Φ;clear call hb hl ok hL;go_enter func169,Tryz.ntmps169;go_wp2_with (first
  | (go_at_call 110;refine aG.e.mono ?_;rintro e w1 ⟨rfl,ai⟩))
 go_ret;exact⟨bU rfl,da (ώ _ _) ai (ϊ _)⟩
def Gk(b:eR)(am4:List al)(l:List Cut):Bool:= !(am4.any λL=> !db b L l)
def Y1{b:eR}{ps:List al}{l:List Cut}(hb:aQ w B b pv bv tv)(hs:Row w B 3 al.R sv ps)(hl:Row w B 2 Cut.R lv l)(hB:B<=w.heap.size)(ok:K4 b l)(hL:∀L∈ps,L.Ok):
 ύ prog 114 #[η #[ξ κ b.ab,pv,bv,tv,sv],lv] w λe w'=>e=Ω (.bool (Gk b ps l))/\Γ w.heap.size w w':=by
 have ST:Hid (Δ B w ((w.alloc (ϣ #[ξ κ b.ab,pv,bv,tv,sv] 122)).alloc (ϣ #[lv] 27))):=ψ (((Δ.refl w).alloc hB _).alloc (by simp;omega) _)
 have call:ύ prog 150 #[sv,fv 169 #[π (φ ⟨w.heap.size,0,ν⟩),π (φ ⟨w.heap.size+1,0,ν⟩)]] ((w.alloc (ϣ #[ξ κ b.ab,pv,bv,tv,sv] 122)).alloc (ϣ #[lv] 27))
  λe w'=>e=Ω (.bool (ps.any λL=> !db b L l))/\Γ ((w.alloc (ϣ #[ξ κ b.ab,pv,bv,tv,sv] 122)).alloc (ϣ #[lv] 27)).heap.size _ w':=
  ad5 (λL=> !db b L l) call169 (hs.still ST.e λ_ _ h=>h) (by simp;omega) λW x hW hx=>by
   have sW:Δ B w W:=ST.e.trans (Δ.aJ hW (by simp;omega))
   have hz:w.heap.size+2<=W.heap.size:=by have:=hW.size;simpa using this
   exact ack (apH (B:=B) (hb.still sW) (hl.still sW λ_ _ h=>h) (by omega) ok (hL x hx) (by omega) (by omega)
    ((hW.cell (p:=⟨w.heap.size,0,ν⟩) (by simp;try omega)).trans (by simp[go_sem])) ((hW.cell (p:=⟨w.heap.size,1,ν⟩) (by simp;try omega)).trans (by simp[go_sem])) ((hW.cell (p:=⟨w.heap.size,2,ν⟩) (by simp;try omega)).trans (by simp[go_sem]))
    ((hW.cell (p:=⟨w.heap.size,3,ν⟩) (by simp;try omega)).trans (by simp[go_sem])) ((hW.cell (p:=⟨w.heap.size+1,0,ν⟩) (by simp;try omega)).trans (by simp[go_sem])))
 have aG:=ψ call;obtain⟨A1,n1,c1,rfl,-⟩:=hb.pieces.Φ;obtain⟨A2,nb,c2,rfl,-⟩:=hb.aC.Φ;obtain⟨A3,n3,c3,rfl,-⟩:=hb.aI.Φ;obtain⟨A4,n4,c4,rfl,-⟩:=hs.Φ;obtain⟨A,n,c,rfl,-⟩:=hl.Φ;clear call hb hs hl ok hL;go_enter func114,Tryz.ntmps114;go_wp2_with (first
  | (go_at_call 150;refine aG.e.mono ?_;rintro e w1 ⟨rfl,ai⟩))
 go_ret;exact⟨bU rfl,(((ώ _ _).alloc (ϊ _) _).alloc (by simp) _).trans (ai.mono (by simp;omega))⟩
def Bk(w:Ψ)(g:Nat)(t:ό)(cs:Array υ):Prop:=w.heap[g]?=φ (.cells cs t (0,0))
section
variable {w w':Ψ}{g:Nat}{t:ό}{cs:Array υ}
def Bk.lt(h:Bk w g t cs):g<w.heap.size:=(ϛ.1 h).1
def Bk.cell(h:Bk w g t cs)(i:Nat): w.cell? ⟨g,i,ν⟩=cs[i]?:=cell_of_row w g i cs t (0,0) h
def Bk.frozen(h:Bk w g t cs)(i:Nat): w.frozen? ⟨g,i,ν⟩=χ:=by
 have h':w.heap[g]?=φ (.cells cs t (0,0)):=h;simp[World.frozen?,h']
def Bk.alloc(h:Bk w g t cs)(o:Obj):Bk (w.alloc o) g t cs:=(Below.heap_alloc w o g h.lt).trans h
def Bk.new(w:Ψ)(t:ό)(cs:Array υ):Bk (w.alloc (.cells cs t)) w.heap.size t cs:=heap_alloc_new w _
def Bk.bZ{w:Ψ}{g:Nat}(h:g=w.heap.size)(t:ό)(cs:Array υ):Bk (w.alloc (.cells cs t)) g t cs:=by subst h;exact Bk.new w t cs
def Bk.dV(h:Bk w g t cs)(hp:g≠p.block)(u:υ):Bk (w.setCell p u) g t cs:=(Ô w p u g hp).trans h
def Bk.set(h:Bk w g t cs)(i:Nat)(u:υ):Bk (w.setCell ⟨g,i,ν⟩ u) g t (cs.setIfInBounds i u):=by
 have h':w.heap[g]?=φ (.cells cs t (0,0)):=h;show(w.setCell ⟨g,i,ν⟩ u).heap[g]?=_;simp[World.setCell,Array.getElem?_modify,h']
def Bk.below(h:Bk w g t cs)(hb:Γ B w w')(hg:g<B):Bk w' g t cs:=(hb.block g hg).trans h
end
def al.cs(L:al):Array υ:=#[ξ κ L.a,ξ κ L.b,ξ κ L.c]
def iq(M x:al)(i:Nat):al:=⟨if 0<i then(if M.a<x.a then x.a else M.a) else M.a,if 1<i then(if M.b<x.b then x.b else M.b) else M.b,if 2<i then(if M.c<x.c then x.c else M.c) else M.c⟩
def cB(l:List al):al:=l.foldl (λM x=>iq M x 3) ⟨0,0,0⟩
def PK(a b:Int):max a b=if a<b then b else a:=by
 rw[Int.max_def];split<;>split<;>omega
def UD(l:List al)(x:al):cB (l++ [x])=iq (cB l) x 3:=by simp[cB]
def UB{ps:List al}(hs:Row w B 3 al.R sv ps)(hB:B<=w.heap.size)(hp:∃A n c,pv=ζ A n c)(hb:∃A n c,bv=ζ A n c)(ht:∃A n c,tv=ζ A n c):
 ύ prog 115 #[η #[ξ κ s,pv,bv,tv,sv]] w λe w'=>e=Ω (.agg (cB ps).cs)/\Γ w.heap.size w w':=by
 obtain⟨A1,n1,c1,rfl⟩:=hp;obtain⟨A2,n2,c2,rfl⟩:=hb;obtain⟨A3,n3,c3,rfl⟩:=ht;obtain⟨A,n,c,rfl,hl,ey,dg,hr⟩:=hs.Φ;unfold ϑ at dg;have ox:=ψ hl;have H2:=ψ hr;clear hl hr hs;go_enter func115,Tryz.ntmps115;go_wp2;go_loopw [5,6,7,11,16] (λa b d k z wr=>∃i:Nat,i<=n/\k=ξ κ i/\Hid (Bk wr (w.heap.size+1+1) 128 (cB (ps.take i)).cs)/\Hid (Bk wr (w.heap.size+1) 128 #[ξ κ 0,ξ κ 0,ξ κ 0])/\Γ w.heap.size w wr) (λ_ _ _ k _ _=>n - (Ϭ k).toNat)
 case atStart=>exact⟨0,Ϡ _,rfl,ψ (Bk.bZ (by simp) _ _),ψ ((Bk.bZ (by simp) _ _).alloc _),(((ώ _ _).alloc (ϊ _) _).alloc (by simp) _).alloc (by simp;omega) _⟩
 case round=>
  obtain⟨wo,rfl⟩:∃wo:Ψ,wo=wr:=⟨_,rfl⟩
  obtain⟨i,hi,rfl,hk,eD,hb⟩:=hrel;have HB:=ψ hb;have hz:w.heap.size+1+1<wo.heap.size:=hk.e.lt;by_cases ao:i<n
  ·obtain⟨ad,x,cs,rfl,aE,hx,rfl,-,aq⟩:=H2.e i ao
   have st:Δ B w wo:=Δ.aJ hb hB;have h0:=cA aq st aE rfl;have h1:=bj aq st aE 0 rfl;have h2:=bj aq st aE 1 rfl;have HX:=ψ hx;clear hb hx aq st;go_wp2;go_loopw [6,7,16] (λa b z W=>∃j:Nat,j<=3/\z=ξ κ j/\Hid (Bk W (w.heap.size+1+1) 128 (iq (cB (ps.take i)) x j).cs)/\Hid (Bk W (w.heap.size+1) 128 #[ξ κ 0,ξ κ 0,ξ κ 0])/\Γ w.heap.size w W) (λ_ _ z _=>3 - (Ϭ z).toNat)
   case atStart=>exact⟨0,by omega,rfl,ψ (by simpa [iq] using hk.e.alloc _),ψ (eD.e.alloc _),HB.e.trans ((ώ _ _).alloc (by omega) _)⟩
   case round=>
    obtain⟨j,hj,rfl,hq,rX,zK⟩:=hrel;have rh:=ψ zK;clear zK;obtain⟨M,hM⟩:∃M,M=cB (ps.take i):=⟨_,rfl⟩
    rw[<-hM] at hq;have HM:=ψ hM;clear hM;match j,hj with
    |0,_=>
     have g0: wr.cell? ⟨w.heap.size+1+1,0,ν⟩=φ (ξ κ M.a):=(hq.e.cell 0).trans (by simp[al.cs,iq])
     have fz:=hq.e.frozen 0;have i0:∀w:Ψ,(ğ 128 (η #[ξ κ x.a,ξ κ x.b,ξ κ x.c]) (ξ κ 0)).run prog w=.ok (ξ κ x.a) w:=λw=>by simp[ğ,go_sem]
     go_wp2;have di:=hq.e.set 0 (ξ κ (if M.a<x.a then x.a else M.a))
     have wC:=ψ di;clear di;go_roundw;case rel=>exact⟨0+1,by omega,by go_num,ψ (by rw[<-HM.e];first|simpa [al.cs,iq] using wC.e| (rw[PK];simpa [al.cs,iq] using wC.e)),ψ (rX.e.dV (by simp) _),rh.e.setCell (by simp;omega) _⟩
     case measure=>simp[Ϭ]
    |1,_=>
     have g0: wr.cell? ⟨w.heap.size+1+1,1,ν⟩=φ (ξ κ M.b):=(hq.e.cell 1).trans (by simp[al.cs,iq])
     have fz:=hq.e.frozen 1;have i0:∀w:Ψ,(ğ 128 (η #[ξ κ x.a,ξ κ x.b,ξ κ x.c]) (ξ κ 1)).run prog w=.ok (ξ κ x.b) w:=λw=>by simp[ğ,go_sem]
     go_wp2;have di:=hq.e.set 1 (ξ κ (if M.b<x.b then x.b else M.b))
     have wC:=ψ di;clear di;go_roundw;case rel=>exact⟨1+1,by omega,by go_num,ψ (by rw[<-HM.e];first|simpa [al.cs,iq] using wC.e| (rw[PK];simpa [al.cs,iq] using wC.e)),ψ (rX.e.dV (by simp) _),rh.e.setCell (by simp;omega) _⟩
     case measure=>simp[Ϭ]
    |2,_=>
     have g0: wr.cell? ⟨w.heap.size+1+1,2,ν⟩=φ (ξ κ M.c):=(hq.e.cell 2).trans (by simp[al.cs,iq])
     have fz:=hq.e.frozen 2;have i0:∀w:Ψ,(ğ 128 (η #[ξ κ x.a,ξ κ x.b,ξ κ x.c]) (ξ κ 2)).run prog w=.ok (ξ κ x.c) w:=λw=>by simp[ğ,go_sem]
     go_wp2;have di:=hq.e.set 2 (ξ κ (if M.c<x.c then x.c else M.c))
     have wC:=ψ di;clear di;go_roundw;case rel=>exact⟨2+1,by omega,by go_num,ψ (by rw[<-HM.e];first|simpa [al.cs,iq] using wC.e| (rw[PK];simpa [al.cs,iq] using wC.e)),ψ (rX.e.dV (by simp) _),rh.e.setCell (by simp;omega) _⟩
     case measure=>simp[Ϭ]
    |3,_=>
     go_wp2;go_roundw;case rel=>exact⟨i+1,by omega,by go_num,ψ (by rw[pT HX.e,UD,<-HM.e];exact hq.e),rX,rh.e⟩
     case measure=>simp[Ϭ];omega
  ·obtain rfl:i=n:=by omega
   have e0:=(hk.e.cell 0);have e1:=(hk.e.cell 1);have e2:=(hk.e.cell 2);rw[Ċ (ú ox.e)] at e0 e1 e2;generalize hG:cB ps=G at e0 e1 e2 |-
   replace e0: wo.cell? ⟨w.heap.size+1+1,0,ν⟩=φ (ξ κ G.a):=e0;replace e1: wo.cell? ⟨w.heap.size+1+1,1,ν⟩=φ (ξ κ G.b):=e1;replace e2: wo.cell? ⟨w.heap.size+1+1,2,ν⟩=φ (ξ κ G.c):=e2;have q0: wo.cell? ⟨w.heap.size+1,0,ν⟩=φ (ξ κ 0):=(eD.e.cell 0);have q1: wo.cell? ⟨w.heap.size+1,1,ν⟩=φ (ξ κ 0):=(eD.e.cell 1);have q2: wo.cell? ⟨w.heap.size+1,2,ν⟩=φ (ξ κ 0):=(eD.e.cell 2);have z0:=eD.e.frozen 0;have z1:=eD.e.frozen 1;have z2:=eD.e.frozen 2;clear hb;go_wp2;exact bodyPost_ret (v:=.agg G.cs) (by simp[results,Tryz.results115,go_sem,q0,q1,q2,al.cs]) rfl ⟨by rw[<-hG],((HB.e.setCell (by simp) _).setCell (by simp) _).setCell (by simp) _⟩
end Go.Tw
namespace Go.Tw
variable [Go.Tw.aK]
open Go
def Ga{α:Type}{f:List α->α->Int}:∀(l dZ:List α),scan f dZ l=0->∀x∈l,∃acv,f acv x=0
 | [],_,_,x,h=>by cases h
 |a::l,dZ,h,x,hx=>by
  unfold scan at h;by_cases h0:f dZ a≠0
  ·rw[if_pos h0] at h;exact absurd h h0
  ·rw[if_neg h0] at h
   rcases Ϧ.1 hx with rfl|hx
   ·exact⟨dZ,by simpa using h0⟩
   ·exact Ga l _ h x hx
def ao9{b m:Int}(h:kI a b lo hi m=θ):lo<=a/\a<=b/\b<=hi/\b - a<m:=by
 simp only[kI,Bool.and_eq_true,decide_eq_true_eq] at h;exact⟨h.1.1.1,h.1.1.2,h.1.2,h.2⟩
def X8{np:Int}:∀(l:List Int) (p:Int),eN np (φ p) l=0->(∀k∈l,0<=k/\k<np)/\(l=[]\/(l.length:Int)<=np - 1 - p)
 | [],_,_=>⟨λk h=>(by cases h),.inl rfl⟩
 |a::l,p,h=>by
  unfold eN at h;by_cases hi:cj a 0 (np - 1)=θ
  ·rw[if_pos hi] at h
   have hr:=nS hi;by_cases ha:a<=p
   ·rw[if_pos ha] at h;omega
   ·rw[if_neg ha] at h
    obtain⟨h1,h2⟩:=X8 l a h;refine⟨λk hk=>?_,.inr ?_⟩
    ·rcases Ϧ.1 hk with rfl|hk
     ·omega
     ·exact h1 k hk
    ·rcases h2 with rfl|h2
     ·simp;omega
     ·simp;omega
  ·rw[if_neg hi] at h;omega
def anP{np:Int}(hn:0<=np)(h:eN np ν l=0):(∀k∈l,0<=k/\k<np)/\(l.length:Int)<=np:=by
 cases l with
 |nil=>exact⟨λk h=>(by cases h),by simpa using hn⟩
 |cons a l=>
  unfold eN at h;by_cases hi:cj a 0 (np - 1)=θ
  ·rw[if_pos hi] at h
   have hr:=nS hi;obtain⟨h1,h2⟩:=X8 l a h;refine⟨λk hk=>?_,?_⟩
   ·rcases Ϧ.1 hk with rfl|hk
    ·omega
    ·exact h1 k hk
   ·rcases h2 with rfl|h2
    ·simp;omega
    ·simp;omega
  ·rw[if_neg hi] at h;omega
structure Sn(p:Piece):Prop where
 lo:1<=p.len.lo
 le:p.len.lo<=p.len.hi
 hi:p.len.hi<=40
 wide:p.len.hi - p.len.lo<3
 bears:0<=p.bears/\p.bears<=2
structure Ro(x:bN):Prop where
 aL:1<=x.aL/\x.aL<=40
 cM:x.cM.length<=3
structure Valid(b:eR):Prop where
 ab:0<=b.ab/\b.ab<=3
 np:1<=b.pieces.length/\b.pieces.length<=3
 piece:∀p∈b.pieces,Sn p
 nb:b.aC.length<=3
 bt:∀x∈b.aC,Ro x
 nt:b.aI.length<=4
 tape:∀t∈b.aI,(∀k∈t.pieces,0<=k/\k<b.pieces.length)/\t.pieces.length<=b.pieces.length
def am7{dZ:List Piece}{p:Piece}(h:lI dZ p=0):Sn p:=by
 unfold lI at h;split at h
 ·split at h
  ·omega
  ·split at h
   ·rename_i hs
    split at h
    ·rename_i hi
     have h1:=ao9 hs;have h2:=nS hi;exact⟨h1.1,h1.2.1,h1.2.2.1,h1.2.2.2,h2⟩
    ·omega
   ·omega
 ·omega
def acM{dZ:List bN}{x:bN}(h:iw dZ x=0):Ro x:=by
 unfold iw at h;split at h
 ·split at h
  ·omega
  ·split at h
   ·rename_i hi
    split at h
    ·omega
    ·exact⟨nS hi,by omega⟩
   ·omega
 ·omega
def fG{b:eR}(h:cZ b=0):Valid b:=by
 have hz:=Ga (f:=λ_ s=>s) (kR b) [] h
 obtain⟨_,h1⟩:=hz (if cj b.ab 0 3 then 0 else 1) (by simp[kR])
 obtain⟨_,h2⟩:=hz (jh b.pieces) (by simp[kR])
 obtain⟨_,h3⟩:=hz (lB b.aC) (by simp[kR])
 obtain⟨_,h4⟩:=hz (lJ b.pieces.length b.aI) (by simp[kR])
 clear hz h;have hs:cj b.ab 0 3=θ:=by
  cases e:cj b.ab 0 3 with
  |true=>rfl
  |false=>rw[e] at h1;simp at h1
 have kX:cj b.pieces.length 1 3=θ:=by
  cases e:cj b.pieces.length 1 3 with
  |true=>rfl
  |false=>unfold jh at h2;rw[e] at h2;simp at h2
 have hn:=nS kX;unfold jh at h2;rw[kX,if_pos rfl] at h2;unfold lB at h3;split at h3
 ·omega
 unfold lJ at h4;split at h4
 ·omega
 refine⟨nS hs,by omega,λp hp=>?_,by omega,λx hx=>?_,by omega,λt ht=>?_⟩
 ·obtain⟨dZ,h⟩:=Ga _ _ h2 p hp;exact am7 h
 ·obtain⟨dZ,h⟩:=Ga _ _ h3 x hx;exact acM h
 ·obtain⟨dZ,h⟩:=Ga _ _ h4 t ht
  simp only[lh] at h;split at h
  ·omega
  ·split at h
   ·contradiction
   ·rename_i h0
    have:=anP (np:=b.pieces.length) (by omega) (by simpa using h0)
    exact⟨this.1,by omega⟩
def Valid.apR{b:eR}(h:Valid b):Bs b:=λt ht=>⟨λk hk=>by have:=(h.tape t ht).1 k hk;have:=h.np;omega,by have:=(h.tape t ht).2;have:=h.np;omega⟩
end Go.Tw
namespace Go.Tw
variable [Go.Tw.aK]
open Go Go.Proofs
def U{d:Option TypeDesc}(h:ϋ.underlying t=d):Tw.prog.underlying t=d:=(Ke t).trans h
def A{b:Bool}(h:∀w:Ψ,(isAgg t).run ϋ w=.ok b w):∀w:Ψ,(isAgg t).run Tw.prog w=.ok b w:=λw=>(ap2 t w).trans (h w)
def Z(h:∀w:Ψ,(sizeOf t).run ϋ w=.ok b w):∀w:Ψ,(sizeOf t).run Tw.prog w=.ok b w:=λw=>(ap3 t w).trans (h w)
def V{b:υ}(h:∀w:Ψ,(zeroValue t).run ϋ w=.ok b w):∀w:Ψ,(zeroValue t).run Tw.prog w=.ok b w:=λw=>(QS t w).trans (h w)
end Go.Tw
namespace Go.Proofs
variable [Go.Tw.aK]
open Go.Shelf
def Sh.aj0:Go.Shelf.Ren:=⟨λ|122=>181|215=>203|n=>n,λ|3=>3|4=>4|n=>n,λ|n=>n⟩
def Sh.ajZ:Go.Proofs.Lays.n122 Tw.prog Sh.aj0:={
 mixed:=by kernel_rfl
 f122:=Tw.func181.trans (congrArg φ (by kernel_rfl))
 f215:=Tw.func203.trans (congrArg φ (by kernel_rfl))
 t3:=Tw.U Tryz.underlying3
 a3:=Tw.A Tryz.isAgg3
 z3:=Tw.Z Tryz.sizeOf3
 v3:=Tw.V Tryz.zeroValue3
 t4:=Tw.U Tryz.underlying4
 a4:=Tw.A Tryz.isAgg4
 z4:=Tw.Z Tryz.sizeOf4
 v4:=Tw.V Tryz.zeroValue4}
open Go.RowKit in
def Sh.cmp_Compare_int(x y:Int)(w:Ψ):
 ύ Tw.prog 181 #[ξ κ x,ξ κ y] w λe w'=>e=Ω (ξ κ (Lib.compareInt x y))/\w'=w:=Any.cmp_Compare_int Sh.ajZ x y w
def Sh.aj1:Go.Shelf.Ren:=⟨λ|189=>101|125=>164|257=>163|128=>199|129=>200|294=>190|295=>191|296=>192|297=>193|298=>194|299=>195|216=>196|300=>197|301=>198|328=>210|329=>211|330=>212|331=>213|332=>214|215=>203|343=>217|n=>n,λ|28=>33|3=>3|46=>194|0=>0|51=>220|53=>222|4=>4|183=>213|182=>212|131=>87|5=>5|9=>9|218=>234|222=>238|228=>242|229=>62|n=>n,λ|n=>n⟩
def Sh.Xe:Go.Proofs.Lays.n189 Tw.prog Sh.aj1:={
 mixed:=by kernel_rfl
 f125:=Tw.func164.trans (congrArg φ (by kernel_rfl))
 f128:=Tw.func199.trans (congrArg φ (by kernel_rfl))
 f129:=Tw.func200.trans (congrArg φ (by kernel_rfl))
 f189:=Tw.func101.trans (congrArg φ (by kernel_rfl))
 f215:=Tw.func203.trans (congrArg φ (by kernel_rfl))
 f216:=Tw.func196.trans (congrArg φ (by kernel_rfl))
 f257:=Tw.func163.trans (congrArg φ (by kernel_rfl))
 f294:=Tw.func190.trans (congrArg φ (by kernel_rfl))
 f295:=Tw.func191.trans (congrArg φ (by kernel_rfl))
 f296:=Tw.func192.trans (congrArg φ (by kernel_rfl))
 f297:=Tw.func193.trans (congrArg φ (by kernel_rfl))
 f298:=Tw.func194.trans (congrArg φ (by kernel_rfl))
 f299:=Tw.func195.trans (congrArg φ (by kernel_rfl))
 f300:=Tw.func197.trans (congrArg φ (by kernel_rfl))
 f301:=Tw.func198.trans (congrArg φ (by kernel_rfl))
 f328:=Tw.func210.trans (congrArg φ (by kernel_rfl))
 f329:=Tw.func211.trans (congrArg φ (by kernel_rfl))
 f330:=Tw.func212.trans (congrArg φ (by kernel_rfl))
 f331:=Tw.func213.trans (congrArg φ (by kernel_rfl))
 f332:=Tw.func214.trans (congrArg φ (by kernel_rfl))
 f343:=Tw.func217.trans (congrArg φ (by kernel_rfl))
 t0:=Tw.U Tryz.underlying0
 a0:=Tw.A Tryz.isAgg0
 z0:=Tw.Z Tryz.sizeOf0
 v0:=Tw.V Tryz.zeroValue0
 t3:=Tw.U Tryz.underlying3
 a3:=Tw.A Tryz.isAgg3
 z3:=Tw.Z Tryz.sizeOf3
 v3:=Tw.V Tryz.zeroValue3
 t4:=Tw.U Tryz.underlying4
 a4:=Tw.A Tryz.isAgg4
 z4:=Tw.Z Tryz.sizeOf4
 v4:=Tw.V Tryz.zeroValue4
 t5:=Tw.U Tryz.underlying5
 a5:=Tw.A Tryz.isAgg5
 z5:=Tw.Z Tryz.sizeOf5
 v5:=Tw.V Tryz.zeroValue5
 t9:=Tw.U Tryz.underlying9
 a9:=Tw.A Tryz.isAgg9
 z9:=Tw.Z Tryz.sizeOf9
 v9:=Tw.V Tryz.zeroValue9
 t28:=Tw.U Tryz.underlying33
 a28:=Tw.A Tryz.isAgg33
 z28:=Tw.Z Tryz.sizeOf33
 v28:=Tw.V Tryz.zeroValue33
 t46:=Tw.U Tryz.underlying194
 a46:=Tw.A Tryz.isAgg194
 z46:=Tw.Z Tryz.sizeOf194
 v46:=Tw.V Tryz.zeroValue194
 t51:=Tw.U Tryz.underlying220
 a51:=Tw.A Tryz.isAgg220
 z51:=Tw.Z Tryz.sizeOf220
 v51:=Tw.V Tryz.zeroValue220
 t53:=Tw.U Tryz.underlying222
 a53:=Tw.A Tryz.isAgg222
 z53:=Tw.Z Tryz.sizeOf222
 v53:=Tw.V Tryz.zeroValue222
 t131:=Tw.U Tryz.underlying87
 a131:=Tw.A Tryz.isAgg87
 z131:=Tw.Z Tryz.sizeOf87
 v131:=Tw.V Tryz.zeroValue87
 t182:=Tw.U Tryz.underlying212
 a182:=Tw.A Tryz.isAgg212
 z182:=Tw.Z Tryz.sizeOf212
 v182:=Tw.V Tryz.zeroValue212
 t183:=Tw.U Tryz.underlying213
 a183:=Tw.A Tryz.isAgg213
 z183:=Tw.Z Tryz.sizeOf213
 v183:=Tw.V Tryz.zeroValue213
 t218:=Tw.U Tryz.underlying234
 a218:=Tw.A Tryz.isAgg234
 z218:=Tw.Z Tryz.sizeOf234
 v218:=Tw.V Tryz.zeroValue234
 t222:=Tw.U Tryz.underlying238
 a222:=Tw.A Tryz.isAgg238
 z222:=Tw.Z Tryz.sizeOf238
 v222:=Tw.V Tryz.zeroValue238
 t228:=Tw.U Tryz.underlying242
 a228:=Tw.A Tryz.isAgg242
 z228:=Tw.Z Tryz.sizeOf242
 v228:=Tw.V Tryz.zeroValue242
 t229:=Tw.U Tryz.underlying62
 a229:=Tw.A Tryz.isAgg62
 z229:=Tw.Z Tryz.sizeOf62
 v229:=Tw.V Tryz.zeroValue62}
open Go.Sort Go.RowKit in
def Sh.slices_Sort_int(blk off cap:Nat)(zs:List Int)(w:Ψ)(hH:Holds (ξ κ) w blk off zs.toArray)(ahh:blk<w.heap.size)(aN:zs.length<4611686018427387904):
 ύ Tw.prog 101 #[ζ (φ ⟨blk,off,ν⟩) zs.length cap] w λe w'=>
  e=Ω (μ #[])/\∃n os,w'=grow (putRow (ξ κ) (Sort.ahead w n) blk off (zs.mergeSort λx y=>decide (x<=y)).toArray) os:=Any.slices_Sort_int Sh.Xe blk off cap zs w hH ahh aN
def Sh.aj2:Go.Shelf.Ren:=⟨λ|20=>102|n=>n,λ|22=>33|3=>3|4=>4|0=>0|n=>n,λ|n=>n⟩
def Sh.Xf:Go.Proofs.Lays2.n20 Tw.prog Sh.aj2:={
 mixed:=by kernel_rfl
 f20:=Tw.func102.trans (congrArg φ (by kernel_rfl))
 t0:=Tw.U Tryz.underlying0
 a0:=Tw.A Tryz.isAgg0
 z0:=Tw.Z Tryz.sizeOf0
 v0:=Tw.V Tryz.zeroValue0
 t3:=Tw.U Tryz.underlying3
 a3:=Tw.A Tryz.isAgg3
 z3:=Tw.Z Tryz.sizeOf3
 v3:=Tw.V Tryz.zeroValue3
 t4:=Tw.U Tryz.underlying4
 a4:=Tw.A Tryz.isAgg4
 z4:=Tw.Z Tryz.sizeOf4
 v4:=Tw.V Tryz.zeroValue4
 t22:=Tw.U Tryz.underlying33
 a22:=Tw.A Tryz.isAgg33
 z22:=Tw.Z Tryz.sizeOf33
 v22:=Tw.V Tryz.zeroValue33
 i3:=by kernel_rfl}
open Go.RowKit Go.Lib Go.Sort in
def Sh.slices_Compact_int(blk off cap:Nat)(zs:List Int)(w:Ψ)(hH:Holds (ξ κ) w blk off zs.toArray)(aN:zs.length<=9223372036854775807)(NS:zs.length<=cap):
 ύ Tw.prog 102 #[ζ (φ ⟨blk,off,ν⟩) zs.length cap] w λe w'=>e=Ω (ζ (φ ⟨blk,off,ν⟩) (ĥ zs).length cap)/\∃q,w'=putRow (ξ κ) (Sort.ahead w q) blk off (ĥ zs++List.replicate (zs.length - (ĥ zs).length) 0).toArray:=Any.slices_Compact_int Sh.Xf blk off cap zs w hH aN NS
open Go.RowKit Go.Lib Go.Sort in
def Sh.slices_Compact_int_empty(a:Option Addr)(cap:Nat)(w:Ψ):
 ύ Tw.prog 102 #[ζ a 0 cap] w λe w'=>e=Ω (ζ a 0 cap)/\w'=w:=Any.slices_Compact_int_empty Sh.Xf a cap w
open Go.RowKit Go.Sort in
def Sh.slices_Sort_int_none(p:Option Addr)(cap:Nat)(w:Ψ):
 ύ Tw.prog 101 #[ζ p 0 cap] w λe w'=>e=Ω (μ #[])/\w'=w:=Any.slices_Sort_int_none Sh.Xe p cap w
end Go.Proofs
namespace Go.Tw
variable [Go.Tw.aK]
open Go Go.Proofs Go.RowKit Go.Sort Go.Lib
def acx{w0:Ψ}{os:Array Obj}(h:Γ B w0 w)(hB:B<=w.heap.size):Γ B w0 (Sort.grow w os):=
 ⟨h.os,h.tape,h.output,by have:=h.size;simp[Sort.grow];omega,λk hk=>by rw[<-h.block k hk];exact heap_grow_old w os (by omega)⟩
def amV{base:Nat}{e:ό}{sz:Nat}{os:Array Obj}(h:w.ownsRow base e sz v n xs):(Sort.grow w os).ownsRow base e sz v n xs:=by
 refine⟨h.1,?_⟩
 rcases h.2 with h0| ⟨g,cap,cur,h1,h2,h3,h4⟩
 ·exact .inl h0
 ·exact .inr ⟨g,cap,cur,h1,h2,(heap_grow_old w os (ϛ.1 h3).1).trans h3,h4⟩
def fQ(l:List Int):List Int:=l.mergeSort λx y=>decide (x<=y)
def QE{base:Nat}(h:w.ownsRow base 3 1 v n (zs.map (ξ κ)))(hn:n<=100000)(hb:base<=w.heap.size):
 ύ prog 101 #[v] w λe w'=>e=Ω (μ #[])/\w'.ownsRow base 3 1 v n ((fQ zs).map (ξ κ))/\Γ base w w':=by
 by_cases hv:v=ζ ν 0 0
 ·subst hv
  have h0:n=0/\zs=[]:=by
   rcases h.2 with⟨_,e⟩ | ⟨g,cap,cur,e,_⟩
   ·have:=h.1;simp at this;cases zs with
    |nil=>simp at this;exact⟨by omega,rfl⟩
    |cons=>simp_all
   ·cases e
  obtain⟨rfl,rfl⟩:=h0;refine(Sh.slices_Sort_int_none ν 0 w).mono ?_
  rintro e w' ⟨rfl,rfl⟩;exact⟨rfl,by simpa [fQ] using h,ώ _ _⟩
 ·obtain⟨g,cap,rfl,ky,ao,ey,oI,hl,hH⟩:=holds_of_ownsRow h hv
  subst hl;refine(Sh.slices_Sort_int g 0 cap zs w hH ao (by omega)).mono ?_
  rintro e w' ⟨rfl,q,os,rfl⟩;have hs:(fQ zs).length=zs.length:=by simp[fQ]
  refine⟨rfl,amV ?_,acx (below_putRow (ώ _ _) ky) (by simp;exact hb)⟩
  have:=ownsRow_putRow (q:=q) (k:=zs.length) (ys:=fQ zs) h hs (ϊ _);rwa[Ċ (by omega)] at this
def TG(zs:List Int):(ĥ zs).length<=zs.length:=by
 unfold ĥ compactUpTo;rw[List.length_map];exact ϡ (Agd _ _) (by simp)
def TF{base:Nat}(h:w.ownsRow base 3 1 v n (zs.map (ξ κ)))(hn:n<=100000):
 ύ prog 102 #[v] w λe w'=>∃u,e=Ω u/\w'.ownsRow base 3 1 u (ĥ zs).length ((ĥ zs).map (ξ κ))/\Γ base w w':=by
 by_cases hv:v=ζ ν 0 0
 ·subst hv
  have h0:n=0/\zs=[]:=by
   rcases h.2 with⟨_,e⟩ | ⟨g,cap,cur,e,_⟩
   ·have:=h.1;simp at this;cases zs with
    |nil=>simp at this;exact⟨by omega,rfl⟩
    |cons=>simp_all
   ·cases e
  obtain⟨rfl,rfl⟩:=h0;refine(Sh.slices_Compact_int_empty ν 0 w).mono ?_
  rintro e w' ⟨rfl,rfl⟩;exact⟨_,rfl,h,ώ _ _⟩
 ·obtain⟨g,cap,rfl,ky,ao,ey,oI,hl,hH⟩:=holds_of_ownsRow h hv
  subst hl;refine(Sh.slices_Compact_int g 0 cap zs w hH (by omega) ey).mono ?_
  rintro e w' ⟨rfl,q,rfl⟩;have hk:(ĥ zs).length<=zs.length:=TG zs;refine⟨_,rfl,?_,below_putRow (ώ _ _) ky⟩
  have:=ownsRow_putRow (q:=q) (k:=(ĥ zs).length) (ys:=ĥ zs++List.replicate (zs.length - (ĥ zs).length) 0) h (by simp;omega) hk
  simpa using this
end Go.Tw
namespace Go.Tw
variable [Go.Tw.aK]
open Go Go.Proofs Go.RowKit
def jX(l:List Cut):List Int:=ĥ (fQ (l.map (·.bt)))
def dX{base:Nat}{e:ό}{sz:Nat}(h:w.ownsRow base e sz v n xs)(k:Nat)(hk:v.ownBlock=φ k):base<=k:=by
 rcases h.2 with⟨rfl,_⟩ | ⟨g,cap,cur,rfl,ky,_⟩
 ·simp[Value.ownBlock] at hk
 ·simp[Value.ownBlock] at hk;omega
def Pd:(prog.info? 3).map (λi=>(i.zero,i.size,i.bytes))=φ (φ (ξ κ 0),1,8):=by
 rw[qS];kernel_rfl
def taken{l:List Cut}(hv:Row w B 2 Cut.R v l)(hB:B<=w.heap.size)(zx:l.length<=1000):
 ύ prog 235 #[v] w λe w'=>∃u,e=Ω u/\w'.ownsRow w.heap.size 3 1 u (jX l).length ((jX l).map (ξ κ))/\Γ w.heap.size w w':=by
 obtain⟨i0,cJ,cK,aO,aZ⟩:=info_parts Pd;obtain⟨A,n,c,rfl,hl,ey,dg,hr⟩:=hv.Φ;have hn:n<=1000:=by omega
 unfold ϑ at dg;have ox:=ψ hl;have H2:=ψ hr;have HI:=ψ (Ϗ cJ (Ϗ cK (Ϗ aO aZ)));clear hl hr hv zx cJ cK aO aZ;go_enter func235,Tryz.ntmps235;go_wp2;go_loopw [3,5,8] (λo u k wr=>∃i:Nat,i<=n/\k=ξ κ i/\wr.ownsRow w.heap.size 3 1 o i ((l.take i).map λc=>ξ κ c.bt)/\Γ w.heap.size w wr) (λ_ _ k _=>n - (ϗ k).toNat)
 case atStart=>exact⟨0,Ϡ _,rfl,⟨by simp,.inl ⟨rfl,rfl⟩⟩,ώ _ _⟩
 case round=>
  obtain⟨i,hi,rfl,aH,hb⟩:=hrel;have HO:=ψ aH;have HB:=ψ hb;have aN:=hb.size;by_cases ao:i<n
  ·obtain⟨ad,x,cs,rfl,aE,hx,rfl,-,aq⟩:=H2.e i ao
   have st:Δ B w wr:=Δ.aJ hb hB;have h0:=cA aq st aE rfl;have h1:=bj aq st aE 0 rfl;have HX:=ψ hx;clear hb hx aq st aH;go_wp2_with (first
    | (at_builtin
       refine wpList_append_own _ rfl (.tmp 12) (.tmp 15) 33 rfl w.heap.size 3 i0 (ξ κ 0) 1 8 (U Tryz.underlying33) HI.e.1 HI.e.2.1 HI.e.2.2.1 HI.e.2.2.2 rfl (by decide) _ i _ rfl ((HO.e.alloc _).alloc _) ⟨wr.heap.size+1,0,ν⟩ 1 1 [ξ κ x.bt] rfl rfl ?c1 ?c2 ?c3 ?c4 ?c5 ?_
       case c1=>(intro j u hu;match j,hu with|0,hu=>(simp at hu;subst hu;simp[go_sem,Addr.add]))
       case c2=>simp[Value.oneCell']
       case c3=>(simp only[ϑ];omega)
       case c4=>omega
       case c5=>(simp;omega)
       intro v' w1 b7 cW _;have gC:=ψ b7;have gX:=ψ cW;clear b7 cW))
   go_roundw;case rel=>exact⟨i+1,by omega,by go_num,by rw[pT HX.e,List.map_append];exact gC.e,
    ((HB.e.trans ((ώ _ _).alloc aN _)).trans ((ώ _ _).alloc (by simp;omega) _)).grown gX.e (by simp;omega) (λk hk=>dX HO.e k hk)⟩
   case measure=>simp[ϗ];omega
  ·obtain rfl:i=n:=by omega
   have xJ:((l.take i).map λc=>ξ κ c.bt)=(l.map (·.bt)).map (ξ κ):=by
    rw[Ċ (ú ox.e),List.map_map];rfl
   have sB:Hid (wr.ownsRow w.heap.size 3 1 u3 i ((l.map (·.bt)).map (ξ κ))):=ψ (xJ▸HO.e)
   clear hb aH xJ HO;go_wp2_with (first
    | (go_at_call 101;refine(QE sB.e (by omega) aN).mono ?_;rintro e w1 ⟨rfl,b7,ai⟩;have wA:=ψ b7;have dR:=ψ ai;clear b7 ai)
    | (go_at_call 102;refine(TF wA.e (by omega)).mono ?_;rintro e w2 ⟨u,rfl,gv,an⟩;have yU:=ψ gv;have jK:=ψ an;clear gv an))
   go_ret;exact⟨_,rfl,yU.e,HB.e.trans (dR.e.trans jK.e)⟩
def nothing{A1 A2 A3:Option Addr}{n1 c1 n2 c2 n3 c3:Nat}(w:Ψ):
 ύ prog 107 #[η #[ξ κ s,ζ A1 n1 c1,ζ A2 n2 c2,ζ A3 n3 c3]] w λe w'=>e=Ω (ξ κ 0)/\Γ w.heap.size w w':=by
 go_enter func107,Tryz.ntmps107;go_wp2;go_ret;exact⟨bm rfl,(ώ _ _).alloc (ϊ _) _⟩
end Go.Tw
namespace Go.Tw
variable [Go.Tw.aK]
open Go Go.Proofs Go.RowKit
def AZ(f:FuncId):ø.fn f=True:=rfl
def AY:ø.depth=ν:=rfl
attribute [local go_sem] AZ AY Oper.semAt_some
def al.set(L:al)(i:Nat)(k:Int):al:=if i=0 then {L with a:=k} else if i=1 then {L with b:=k} else {L with c:=k}
def iJ(x:Span):List Int:=(ε (x.hi - x.lo+1).toNat).map λ(j:Nat)=>x.lo+j
def dU(b:eR):Nat->Nat->al->List al
 |0,_,n=>if tC n b.aI then [n] else []
 |f+1,i,n=>match b.pieces[i]? with
  |some p=>(iJ p.len).flatMap λk=>dU b f (i+1) (n.set i k)
  |none=> []
def aB(b:eR):List al:=dU b b.pieces.length 0 ⟨0,0,0⟩
def al.vs(L:al):List υ:=[ξ κ L.a,ξ κ L.b,ξ κ L.c]
structure AI(w:Ψ)(b:eR)(pv bv tv:υ)(rec:Loop)(n:al)(out:List al)(W:Ψ):Prop where
 p:Bk W (w.heap.size+4) 117 #[ξ κ b.ab,pv,bv,tv]
 y:Bk W (w.heap.size+5) 182 #[.func (.yield (w.heap.size+3)) #[] #[]]
 n:Bk W (w.heap.size+6) 128 n.cs
 x:Bk W (w.heap.size+7) 158 #[.func (.func 188) #[] #[π (φ ⟨w.heap.size+4,0,ν⟩),π (φ ⟨w.heap.size+6,0,ν⟩),π (φ ⟨w.heap.size+5,0,ν⟩),π (φ ⟨w.heap.size+7,0,ν⟩)]]
 o:∃v,Bk W (w.heap.size+1) 115 #[v]/\W.ownsRow (w.heap.size+8) 128 3 v out.length (out.flatMap al.vs)
 d:W.heap[w.heap.size+2]?=φ (.deferred (φ []))
 l:W.heap[w.heap.size+3]?=φ (.loop rec)
 below:Γ w.heap.size w W
def si{base:Nat}{e:ό}{sz:Nat}(h:w.ownsRow base e sz v n xs)(hb:Γ B w w')(hB:w.heap.size<=B):w'.ownsRow base e sz v n xs:=by
 refine⟨h.1,?_⟩
 rcases h.2 with h0| ⟨g,cap,cur,h1,h2,h3,h4⟩
 ·exact .inl h0
 ·exact .inr ⟨g,cap,cur,h1,h2,(hb.block g (ϟ (ϛ.1 h3).1 hB)).trans h3,h4⟩
def AI.later{b:eR}{n:al}{out:List al}(h:AI w b pv bv tv rec n out W)(hb:Γ W.heap.size W W'):AI w b pv bv tv rec n out W':=by
 have h1:=h.x.lt;refine⟨h.p.below hb (by omega),h.y.below hb (by omega),h.n.below hb (by omega),h.x.below hb (by omega),?_,(hb.block _ (by omega)).trans h.d,(hb.block _ (by omega)).trans h.l,h.below.trans (hb.mono (by omega))⟩
 obtain⟨v,v1,v2⟩:=h.o;exact⟨v,v1.below hb (by omega),si v2 hb (ϊ _)⟩
def LS(w:Ψ)(b:eR)(pv bv tv:υ)(rec:Loop):Prop:=∀(m:Nat) (n:al) (out:List al) (W:Ψ),out.length<1000->AI w b pv bv tv rec n out W->
 YieldAt ø m prog (w.heap.size+3) #[.agg n.cs] W λe W'=>e=Ω (.bool θ)/\AI w b pv bv tv rec n (out++ [n]) W'
def amm{b:eR}(hB:B<=w.heap.size)(ah:aQ w B b pv bv tv)(cD:Bs b)(hY:LS w b pv bv tv rec){n:al}(hL:n.Ok){out:List al}
 (h:AI w b pv bv tv rec n out W)(hK:out.length+(dU b 0 b.pieces.length n).length<=1000)(m:Nat):
 CallsIn ø m prog 188 #[ξ κ b.pieces.length,π (φ ⟨w.heap.size+4,0,ν⟩),π (φ ⟨w.heap.size+6,0,ν⟩),π (φ ⟨w.heap.size+5,0,ν⟩),π (φ ⟨w.heap.size+7,0,ν⟩)] W
  λe W'=>e=Ω (.bool θ)/\AI w b pv bv tv rec n (out++dU b 0 b.pieces.length n) W':=by
 have HK:=ψ hK;clear hK;have HY:=ψ hY;have HI:=ψ h;have Ww:b.pieces.length<=9223372036854775807:=by
  obtain⟨A1,n1,c1,rfl,e1,h1,du,-⟩:=ah.pieces.Φ;unfold ϑ at du;omega
 obtain⟨A1,n1,c1,rfl,e1,h1,du,-⟩:=ah.pieces.Φ;have p0:=h.p.cell 0;have p1:=h.p.cell 1;have p2:=h.p.cell 2;have p3:=h.p.cell 3;have y0:=h.y.cell 0;have n0: W.cell? ⟨w.heap.size+6,0,ν⟩=φ (ξ κ n.a):=h.n.cell 0;have n1': W.cell? ⟨w.heap.size+6,1,ν⟩=φ (ξ κ n.b):=h.n.cell 1;have n2: W.cell? ⟨w.heap.size+6,2,ν⟩=φ (ξ κ n.c):=h.n.cell 2;have call:=right (w:=W) (B:=B) (L:=n) (ah.still (Δ.aJ h.below hB)) (by have:=h.below.size;omega) cD hL
 have aG:=ψ call;clear hY h ah call;rw[e1] at Ww |-
 have E1:=ψ e1;clear e1;unfold ϑ at du;cases OR:tC n b.aI with
 |false=>
  refine callsIn_of_wp func188 rfl trivial ?_
  simp only[Tryz.ntmps188,ř,Ă,Ś,ĸ,Ŝ,ŗ,Ř,ś,Ķ,ì,ķ]
  gi_wp2_with (first
   | (gi_at_call 189;refine(callsIn_wide.2 aG.e).mono ?_;rintro e w1 ⟨rfl,ai⟩))
  go_ret;exact⟨bU rfl,by simpa [dU,OR] using HI.e.later (ai.mono (ϊ _))⟩
 |true=>
  refine callsIn_of_wp func188 rfl trivial ?_
  simp only[Tryz.ntmps188,ř,Ă,Ś,ĸ,Ŝ,ŗ,Ř,ś,Ķ,ì,ķ]
  gi_wp2_with (first
   | (gi_at_call 189;refine(callsIn_wide.2 aG.e).mono ?_;rintro e w1 ⟨rfl,ai⟩
      have Dv:=ψ (HI.e.later ai);obtain⟨f1,t1,a1,b1,kC,pD⟩:=HY.e (m - 1) n out w1 (by have:=HK.e;simp[dU,OR] at this;omega) Dv.e
      have Es:=ψ pD;have n0: w1.cell? ⟨w.heap.size+6,0,ν⟩=φ (ξ κ n.a):=Dv.e.n.cell 0;have n1': w1.cell? ⟨w.heap.size+6,1,ν⟩=φ (ξ κ n.b):=Dv.e.n.cell 1;have n2: w1.cell? ⟨w.heap.size+6,2,ν⟩=φ (ξ κ n.c):=Dv.e.n.cell 2;have y0: w1.cell? ⟨w.heap.size+5,0,ν⟩=φ (.func (.yield (w.heap.size+3)) #[] #[]):=Dv.e.y.cell 0;have hyy:Sem.run prog (Instr.yield (w.heap.size+3) #[η #[ξ κ n.a,ξ κ n.b,ξ κ n.c]]) w1=.ok (.round (w.heap.size+3) f1 t1 a1 b1) w1:=kC;clear kC pD))
  refine Es.e.mono ?_
  rintro e W' ⟨rfl,h2⟩;have H2:=ψ h2;clear h2
  gi_wp2
  go_ret;exact⟨bU rfl,by simpa [dU,OR] using H2.e⟩
def Mj{b:eR}{n:al}{p:Piece}(h:b.pieces[i]?=φ p):dU b (f+1) i n=(iJ p.len).flatMap λk=>dU b f (i+1) (n.set i k):=by
 conv=>lhs;unfold dU
 rw[h]
def afU{β:Type}{f:α->List β}{l:List α}{x:α}(h:l[j]?=φ x):((l.take j).flatMap f).length+(f x).length<=(l.flatMap f).length:=by
 have e:l=l.take j++x::l.drop (j+1):=by
  obtain⟨hj,rfl⟩:=Ϯ.1 h
  rw[List.getElem_cons_drop,List.take_append_drop]
 conv=>rhs;rw[e]
 simp only[ă,List.flatMap_cons,Ĉ];omega
def Dp(i f:Nat)(n m:al):Prop:=∀q,q<3->(q<i\/i+f<=q)->n.at q=m.at q
def al.afD{n m:al}(h:∀q,q<3->n.at q=m.at q):n=m:=by
 have h0:=h 0 (by omega)
 have h1:=h 1 (by omega)
 have h2:=h 2 (by omega)
 cases n;cases m
 simp[al.at] at h0 h1 h2;simp[h0,h1,h2]
def al.at_set{n:al}{q:Nat}{k:Int}(hi:i<3)(hq:q<3):(n.set i k).at q=if q=i then k else n.at q:=by
 match i,hi,q,hq with
 |0,_,0,_=>simp[al.set,al.at]
 |0,_,1,_=>simp[al.set,al.at]
 |0,_,2,_=>simp[al.set,al.at]
 |1,_,0,_=>simp[al.set,al.at]
 |1,_,1,_=>simp[al.set,al.at]
 |1,_,2,_=>simp[al.set,al.at]
 |2,_,0,_=>simp[al.set,al.at]
 |2,_,1,_=>simp[al.set,al.at]
 |2,_,2,_=>simp[al.set,al.at]
def al.acr{n:al}{q:Nat}(hq:2<=q):n.at q=n.c:=by unfold al.at;rw[if_neg (by omega),if_neg (by omega)]
def al.Ok.set{n:al}(h:n.Ok){i:Nat}{k:Int}(hi:i<3)(h0:0<=k)(h1:k<=1000):(n.set i k).Ok:=by
 intro q;by_cases hq:q<3
 ·rw[al.at_set hi hq];split
  ·exact⟨h0,h1⟩
  ·exact h q
 ·rw[al.acr (by omega)]
  have:(n.set i k).c=(n.set i k).at 2:=rfl;rw[this,al.at_set hi (by omega)];split
  ·exact⟨h0,h1⟩
  ·exact h 2
def al.aee{n:al}{k:Int}(hi:i<3):n.cs.setIfInBounds i (ξ κ k)=(n.set i k).cs:=by
 match i,hi with
 |0,_=>rfl
 |1,_=>rfl
 |2,_=>rfl
def al.wU{n:al}(hi:i<3):n.cs[i]?=φ (ξ κ (n.at i)):=by
 match i,hi with
 |0,_=>rfl
 |1,_=>rfl
 |2,_=>rfl
def S5{b:eR}:∀(f i:Nat) (n m:al),i+f<=3->Dp i f n m->dU b f i n=dU b f i m
 |0,i,n,m,hi,h=>by
  have:n=m:=al.afD λq hq=>h q hq (by omega)
  rw[this]
 |f+1,i,n,m,hi,h=>by
  unfold dU;cases b.pieces[i]? with
  |none=>rfl
  |some p=>
   simp only;congr 1;funext k;refine S5 f (i+1) _ _ (by omega) λq hq qH=>?_
   rw[al.at_set (by omega) hq,al.at_set (by omega) hq]
   split
   ·rfl
   ·exact h q hq (by omega)
def AI.aoV{b:eR}{n:al}{out:List al}(h:AI w b pv bv tv rec n out W)(hi:i<3)(k:Int):AI w b pv bv tv rec (n.set i k) out (W.setCell ⟨w.heap.size+6,i,ν⟩ (ξ κ k)):=by
 have h1:=h.x.lt;refine⟨h.p.dV (by simp) _,h.y.dV (by simp) _,by rw[<-al.aee hi];exact h.n.set i _,h.x.dV (by simp) _,?_,(Ô _ _ _ _ (by simp)).trans h.d,(Ô _ _ _ _ (by simp)).trans h.l,h.below.setCell (by simp) _⟩
 obtain⟨v,v1,v2⟩:=h.o;refine⟨v,v1.dV (by simp) _,v2.1,?_⟩
 rcases v2.2 with h0| ⟨g,cap,cur,h1,h2,h3,h4⟩
 ·exact .inl h0
 ·exact .inr ⟨g,cap,cur,h1,h2,(Ô _ _ _ _ (by simp;omega)).trans h3,h4⟩
def QG(x:Span):(iJ x).length=(x.hi - x.lo+1).toNat:=by simp[iJ]
def YJ{x:Span}(h:x.lo+j<=x.hi):(iJ x)[j]?=φ (x.lo+j):=by
 unfold iJ;rw[List.getElem?_map,List.getElem?_range (by omega)]
 rfl
def amn{b:eR}(hB:B<=w.heap.size)(ah:aQ w B b pv bv tv)(oP:∀p∈b.pieces,0<=p.len.lo/\p.len.hi<=1000)(eU:i+(f+1)=b.pieces.length)(h3:b.pieces.length<=3)
 (ih:∀(n:al) (out:List al) (W:Ψ) (m:Nat),n.Ok->out.length+(dU b f (i+1) n).length<=1000->AI w b pv bv tv rec n out W->
   CallsIn ø m prog 188 #[ξ κ (i+1:Int),π (φ ⟨w.heap.size+4,0,ν⟩),π (φ ⟨w.heap.size+6,0,ν⟩),π (φ ⟨w.heap.size+5,0,ν⟩),π (φ ⟨w.heap.size+7,0,ν⟩)] W
    λe W'=>e=Ω (.bool θ)/\∃n',n'.Ok/\Dp (i+1) f n' n/\AI w b pv bv tv rec n' (out++dU b f (i+1) n) W')
 {n:al}(hL:n.Ok){out:List al}(hK:out.length+(dU b (f+1) i n).length<=1000)(h:AI w b pv bv tv rec n out W)(m:Nat):
 CallsIn ø m prog 188 #[ξ κ i,π (φ ⟨w.heap.size+4,0,ν⟩),π (φ ⟨w.heap.size+6,0,ν⟩),π (φ ⟨w.heap.size+5,0,ν⟩),π (φ ⟨w.heap.size+7,0,ν⟩)] W
  λe W'=>e=Ω (.bool θ)/\∃n',n'.Ok/\Dp i (f+1) n' n/\AI w b pv bv tv rec n' (out++dU b (f+1) i n) W':=by
 have HI:=ψ h;have HK:=ψ hK;clear hK;obtain⟨A1,n1,c1,rfl,e1,hn,hc,hr⟩:=ah.pieces.Φ;have fM:i<3:=by omega
 have dc:i<n1:=by omega
 obtain⟨ad,p,cs,rfl,aE,hp,⟨rfl,dD⟩,-,aq⟩:=hr i dc;have E4:=oP p (Ϩ hp);have asF:0<=p.len.lo:=E4.1;have asG:p.len.hi<=1000:=E4.2;have st:Δ B w W:=Δ.aJ h.below hB;have q1: W.cell? ⟨(ad.add (i * 4)).block,(ad.add (i * 4)).off+1,ν⟩=φ (ξ κ p.len.lo):=bj aq st aE 0 rfl;have q2: W.cell? ⟨(ad.add (i * 4)).block,(ad.add (i * 4)).off+2,ν⟩=φ (ξ κ p.len.hi):=bj aq st aE 1 rfl;have HC:=ψ aq;have HAD:(ad.add (i * 4)).block<w.heap.size:=by rw[b9];omega
 have p1: W.cell? ⟨w.heap.size+4,1,ν⟩=φ (ζ (φ ad) n1 c1):=h.p.cell 1;have rU:((i:Int)==(n1:Int))=χ:=by simp;omega
 have HE:=ψ e1;have HP:=ψ hp;have XH:=ψ eU;have XJ:=ψ ih;unfold ϑ at hc;clear ah h hr oP hp aq st dD ih e1 eU E4;refine callsIn_of_wp func188 rfl trivial ?_
 simp only[Tryz.ntmps188,ř,Ă,Ś,ĸ,Ŝ,ŗ,Ř,ś,Ķ,ì,ķ]
 gi_wp2
 gi_loopw [7] (λk wr=>∃(j:Nat) (n':al),j<=(iJ p.len).length/\k=ξ κ (p.len.lo+j)/\n'.Ok/\Dp i (f+1) n' n/\Hid (AI w b (ζ (φ ad) n1 c1) bv tv rec n' (out++((iJ p.len).take j).flatMap λk=>dU b f (i+1) (n.set i k)) wr)) (λk _=>(p.len.hi+1 - ϗ k).toNat)
 case atStart=>exact⟨0,n,Ϡ _,by simp,hL,λ_ _ _=>rfl,by simpa using HI⟩
 case round=>
  obtain⟨j,n',hj,rfl,UM,Nb,hI⟩:=hrel;have st:Δ B w wr:=Δ.aJ hI.e.below hB;have q1: wr.cell? ⟨(ad.add (i * 4)).block,(ad.add (i * 4)).off+1,ν⟩=φ (ξ κ p.len.lo):=bj HC.e st aE 0 rfl;have q2: wr.cell? ⟨(ad.add (i * 4)).block,(ad.add (i * 4)).off+2,ν⟩=φ (ξ κ p.len.hi):=bj HC.e st aE 1 rfl;have p1: wr.cell? ⟨w.heap.size+4,1,ν⟩=φ (ζ (φ ad) n1 c1):=hI.e.p.cell 1;have K9:=ψ Nb;have HJ:Hid (j<=(iJ p.len).length):=ψ hj;clear st Nb hj;by_cases ao:p.len.lo+j<=p.len.hi
  ·have g6: wr.cell? ⟨w.heap.size+6,i,ν⟩=φ (ξ κ (n'.at i)):=(hI.e.n.cell i).trans (al.wU fM)
   have z6: wr.frozen? ⟨w.heap.size+6,i,ν⟩=χ:=hI.e.n.frozen i;have x7: wr.cell? ⟨w.heap.size+7,0,ν⟩=φ (.func (.func 188) #[] #[π (φ ⟨w.heap.size+4,0,ν⟩),π (φ ⟨w.heap.size+6,0,ν⟩),π (φ ⟨w.heap.size+5,0,ν⟩),π (φ ⟨w.heap.size+7,0,ν⟩)]):=hI.e.x.cell 0;have HS:=ψ (hI.e.aoV fM (p.len.lo+j));have iY:dU b f (i+1) (n'.set i (p.len.lo+j))=dU b f (i+1) (n.set i (p.len.lo+j)):=by
    refine S5 _ _ _ _ (by have:=XH.e;omega) λq hq qH=>?_
    rw[al.at_set fM hq,al.at_set fM hq];split
    ·rfl
    ·exact K9.e q hq (by omega)
   have R9:=ψ iY;clear iY;have U5:(out++((iJ p.len).take j).flatMap λk=>dU b f (i+1) (n.set i k)).length+(dU b f (i+1) (n'.set i (p.len.lo+j))).length<=1000:=by
    have h1:=HK.e;rw[Mj HP.e] at h1;have h2:=afU (f:=λk=>dU b f (i+1) (n.set i k)) (YJ ao)
    rw[R9.e,Ĉ];omega
   have aG:=ψ (λm=>XJ.e _ _ _ m (UM.set fM (k:=p.len.lo+j) (by omega) (by omega)) U5 HS.e)
   clear U5
   gi_wp2_with (first
    | (gi_at_call 188;refine(aG.e _).mono ?_;rintro e w1 ⟨rfl,n2,oG,Ik,zF⟩;have Lm:=ψ zF;have aa3:=ψ Ik;clear zF Ik))
   have hlen:j<(iJ p.len).length:=by rw[QG];omega
   have hj1:(iJ p.len)[j]?=φ (p.len.lo+j):=YJ ao;refine⟨⟨j+1,n2,hlen,by go_num,oG,λq hq qH=>?_,?_⟩,by simp[ϗ];omega⟩
   ·rw[aa3.e q hq (by omega),al.at_set fM hq]
    split
    ·omega
    ·exact K9.e q hq (by omega)
   ·rw[pT hj1,ă,List.flatMap_singleton,<-List.append_assoc]
    rw[<-R9.e];exact Lm
  ·gi_wp2
   go_ret;refine⟨bU rfl,n',UM,K9.e,?_⟩
   rw[Mj HP.e];have:=hI.e;rwa[Ċ (by rw[QG];omega)] at this
def XB{w:Ψ}{b:eR}{pv bv tv:υ}{rec:Loop}{B:Nat}(hB:B<=w.heap.size)(ah:aQ w B b pv bv tv)(cD:Bs b)(oP:∀p∈b.pieces,0<=p.len.lo/\p.len.hi<=1000)(h3:b.pieces.length<=3)(hY:LS w b pv bv tv rec):
 ∀(f i:Nat) (n:al) (out:List al) (W:Ψ) (m:Nat),i+f=b.pieces.length->n.Ok->out.length+(dU b f i n).length<=1000->AI w b pv bv tv rec n out W->
  CallsIn ø m prog 188 #[ξ κ i,π (φ ⟨w.heap.size+4,0,ν⟩),π (φ ⟨w.heap.size+6,0,ν⟩),π (φ ⟨w.heap.size+5,0,ν⟩),π (φ ⟨w.heap.size+7,0,ν⟩)] W
    λe W'=>e=Ω (.bool θ)/\∃n',n'.Ok/\Dp i f n' n/\AI w b pv bv tv rec n' (out++dU b f i n) W'
 |0,i,n,out,W,m,hi,hL,hK,h=>by
  obtain rfl:i=b.pieces.length:=by omega
  exact(amm hB ah cD hY hL h hK m).mono λe W' ⟨h1,h2⟩=>⟨h1,n,hL,λ_ _ _=>rfl,h2⟩
 |f+1,i,n,out,W,m,hi,hL,hK,h=>
  amn hB ah oP hi h3 (λn out W m hL hK h=>XB hB ah cD oP h3 hY f (i+1) n out W m (by omega) hL hK h) hL hK h m
end Go.Tw
end
