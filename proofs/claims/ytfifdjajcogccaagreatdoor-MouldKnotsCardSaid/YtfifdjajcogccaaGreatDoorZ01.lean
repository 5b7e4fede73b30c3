import Derived.Test.YtfifdjajcogccaaGreatDoorZ00
import Derived.Conc.CrowdComm
import Derived.Test.YtfifdjajcogccaaGreatDoorProg
import Derived.Deep.AppendLies
import Derived.Lib.Hide
import Derived.WalkSpells
import Derived.StillTailTactics
import Derived.Deep.RegionHeld3
import Derived.Shelf.Small.Bits
import Derived.Shelf.Small.Wraps
import Derived.Shelf.Sort.Plain
import Derived.Shelf.Slices.Clone
import Derived.Shelf.Slices.SearchI
import Derived.Shelf.Slices.Cells
import Derived.Shelf.Slices.In.SortNone
import Derived.Shelf.SlicesE.Clone
import Derived.Lib.OwnBridge
import Derived.RangeFuncCalls
set_option linter.all false
set_option maxHeartbeats 64000000
set_option maxRecDepth 100000
open And renaming intro -> Ϗ
open Array renaming getElem?_append_right -> Aek, getElem?_eq_some_iff -> Ϝ, getElem?_eq_getElem -> â, getElem?_setIfInBounds_ne -> ċ, getElem?_map -> Ć, getElem?_eq_none -> Ô, size_setIfInBounds -> ü, empty_append -> Aem, append_empty -> á, size_push -> Ŵ, getElem?_setIfInBounds -> Ó, getElem?_mapIdx -> Aeo, replicate_succ -> œ, replicate_zero -> Ŕ
open Classical renaming byContradiction -> Ø
open Go renaming Goroutine -> ϐ, Trace -> Â, stepG -> Ϛ, partners -> Ĕ, TypeId -> ό, maxLen -> ϕ, Calls -> ύ
open Go.Conc renaming touchAt -> Ö, touch_of -> ć, getElem?_append_cases -> ñ, touchAt_of -> ĕ, scase -> ö, served -> Ϩ, QuitsIn -> Ĝ, rcase -> ß, recvd -> ð, parked -> Ï, woken -> ø, getElem?_append_old -> Ae6, lt_size_of_getElem? -> Ae7, offersAt -> Š, offersAt_of_not_blocked -> Ė, offersAt_parked_recv -> Afa, offersAt_parked_send' -> Afb, offersAt_parked_recv' -> Afc, offersAt_parked_send -> ŵ, getElem?_stand -> Ń, offersAt_ph -> ń, partners_nil -> Afg, crowd -> æ, crowd_waits -> Afi, stepG_same -> Afj
open Go.Fence renaming wide -> ò
open Go.Instr renaming index -> ė
open Go.IntKind renaming i64 -> ϗ
open Go.Lib renaming compact -> ĝ
open Go.MemAct renaming ofEvent -> ē, touch? -> Ņ
open Go.MemOp renaming ofEvents -> ħ
open Go.Obj renaming cells -> Ϥ
open Go.Proofs.Tryz renaming prog -> ϋ
open Go.RowKit renaming intOf -> Ϭ, intOf -> ϙ
open Go.RowKit.Below renaming refl -> ώ, heap_setCell -> Ú
open Go.Sem renaming run_bind -> Afv, run_pure -> Afw
open Go.Trace renaming g? -> Ð
open Go.Value renaming int -> ϛ
open Go.World renaming cell?_alloc_lt -> Ĉ, cell?_alloc_mark -> į
open List renaming mem_toArray -> à, mem_singleton -> Ã, mem_cons -> ϥ, not_mem_nil -> ϸ, length_cons -> Ď, length_append -> Ę, length_singleton -> Af7, mem_append -> È, getElem?_eq_getElem -> Ä, getElem?_eq_some_iff -> ϩ, findIdx?_eq_some_iff_getElem -> Agb, findIdx?_eq_none_iff -> Agc, length_filter_le -> Agd, length_take_le -> Age, take_of_length_le -> ę, mem_of_getElem? -> ϡ, drop_of_length_le -> Agh, take_succ_cons -> ù, take_zero -> ú, drop_succ_cons -> ý, drop_zero -> ĉ, range -> Ϯ, size_toArray -> ŕ, length_nil -> Ŗ, push_toArray -> ŗ, append_toArray -> İ, nil_append -> þ, cons_append -> Ĵ, flatMap_append -> ĵ
open Nat renaming lt_of_lt_of_le -> ϟ, le_refl -> ϊ, le_trans -> ϣ, zero_le -> Ϡ, lt_succ_iff_lt_or_eq -> ε, le_of_eq -> ÿ, mul_one -> Ķ, lt_of_le_of_lt -> Agy, le_of_lt -> é, reduceAdd -> ķ, reduceSub -> Ř
open Ne renaming symm -> Λ
open Option renaming map_some -> ç, map_eq_some_iff -> Ă
open Option.some renaming inj -> Ϟ
open Bool renaming true -> θ, false -> χ
open Go renaming Value -> υ, undef -> ω, World -> Ψ
open Go.Ending renaming returned -> Ω
open Go.IntKind renaming i64 -> κ
open Go.Lib renaming hid -> ψ
open Go.RowKit renaming Below -> Γ, Below -> Γ
open Go.Value renaming slice -> ζ, pointer -> π, tuple -> μ, agg -> η, int -> ξ
open Option renaming some -> φ, none -> ν
variable{α:Type}{lb:Array υ}{main:Bool}{nm Ks:ByteArray}{p ad:Go.Addr}{fn:Go.Func}{x y g:Go.Goroutine}{rec:Go.Loop}{x1 x2 x3 x4:Go.MemOp}{o:Go.Obj}{P:Go.Program}{M:Go.Sim.ay}{u:Go.Trace}{t:Go.TypeId}{a s lo hi:Int}{l zs:List Int}{aB:List Nat}{xs:List υ}{B i k f n K b c r m c' cap N j:Nat}{w aO w' W w1 wr v0 W':Ψ}{v pv bv tv z lv z' sv:υ}
noncomputable section
namespace Go.Sim
open Go Go.Conc
def xS(l:Loc)(b:Nat):Prop:=l=.obj b\/∃c:Addr,l=.cell c/\c.block=b
structure rQ where
 M:ay
 g:ϐ
 w:Ψ
structure WT(cL cN:Nat)(w:Ψ)(t:Â)(act:Nat->Option rQ):Prop where
 keep:∀g j,act g=φ j->bQ j.M j.w w
 sI:∀g g' j j',g≠g'->act g=φ j->act g'=φ j'->∀b,j.M.O b->¬j'.M.has b
 low:∀g j,act g=φ j->∀b,j.M.has b->b<w.heap.size/\b≠cL/\b≠cN
 tl:∀op∈t,op.act.low w.heap.size
 nd:vt t
 clean:∀said,¬Race said t
 perm:∀g j,act g=φ j->∀k a,Ö t k=φ a->∀b,xS a.loc b->(j.M.O b\/(j.M.R b/\a.write=θ))->Knows t g k
 hL:cL<w.heap.size
 hN:cN<w.heap.size
def kj(act:Nat->Option rQ)(g:Nat)(x:Option rQ):Nat->Option rQ:=λi=>if i=g then x else act i
def mL(act:Nat->Option rQ)(g:Nat)(x:Option rQ):kj act g x g=x:=by simp[kj]
def bR(act:Nat->Option rQ){g:Nat}(x:Option rQ)(h:i≠g):kj act g x i=act i:=by simp[kj,h]
def UL{e:Event}(h:C6 M e){x:Touch}(hx:(ē e).touch? =φ x):∃b,xS x.loc b/\M.has b/\(x.write=θ->M.O b)/\x.kind=.plain:=by
 obtain⟨loc,wr,sy⟩:=e;rcases h with⟨b,e1,e2,e3,e4⟩ |e1| ⟨f,e1⟩
 ·simp only at e1 e2 e4
  subst e2;rcases e1 with e1| ⟨c,e1,e5⟩
  ·subst e1
   cases wr<;>(simp[ē,Ņ] at hx;subst hx)
   ·exact⟨b,.inl rfl,e3,by simp,rfl⟩
   ·exact⟨b,.inl rfl,e3,λ_=>e4 rfl,rfl⟩
  ·subst e1
   cases wr<;>(simp[ē,Ņ] at hx;subst hx)
   ·exact⟨b,.inr ⟨c,rfl,e5⟩,e3,by simp,rfl⟩
   ·exact⟨b,.inr ⟨c,rfl,e5⟩,e3,λ_=>e4 rfl,rfl⟩
 ·simp only at e1
  subst e1;cases wr<;>cases sy<;>simp[ē,Ņ] at hx
 ·simp only at e1
  subst e1;cases wr<;>cases sy<;>simp[ē,Ņ] at hx
def Tr{l:Loc}{b':Nat}(h:xS l b)(k:xS l b'):b=b':=by
 rcases h with h| ⟨c,h,e⟩<;>rcases k with k| ⟨c',k,e'⟩
 ·rw[h] at k;exact Loc.obj.inj k
 ·rw[h] at k;cases k
 ·rw[h] at k;cases k
 ·rw[h] at k;cases k;exact e.symm.trans e'
def UM{t:Â}(h:∀op∈t,op.act.low B){a:Touch}(ha:Ö t k=φ a)(hb:xS a.loc b):b<B:=by
 obtain⟨op,ae,cC⟩:=ć ha;have hl:=h op (mem_of_getElem? ae);obtain⟨g,fn,pos,act⟩:=op;simp only at cC hl;cases act with
 |access e=>
  simp only[Ņ,Option.some.injEq] at cC;subst cC;rcases hb with hb| ⟨c,hb,e5⟩
  ·simp only at hb;rw[MemAct.low,hb] at hl;exact hl
  ·simp only at hb;rw[MemAct.low,hb] at hl;rw[<-e5];exact hl
 |mark m=>
  cases m<;>simp[Ņ] at cC
  ·subst cC
   rcases hb with hb| ⟨c,hb,e5⟩
   ·cases hb
   ·simp only[Loc.cell.injEq] at hb;subst hb;rw[<-e5];exact hl
  ·subst cC
   rcases hb with hb| ⟨c,hb,e5⟩
   ·cases hb
   ·simp only[Loc.cell.injEq] at hb;subst hb;rw[<-e5];exact hl
 |_=>simp[Ņ] at cC
section
variable {cL cN:Nat}{w:Ψ}{t:Â}{act:Nat->Option rQ}
def WT.at(h:WT cL cN w t act)(d:Nat):WT cL cN (w.at d) t act:=
 ⟨λg j e=>(h.keep g j e).trans (Es _ _ _),h.sI,h.low,h.tl,h.nd,h.clean,h.perm,h.hL,h.hN⟩
def WT.own(h:WT cL cN w t act){g:Nat}{j:rQ}(hg:act g=φ j){es:Array Event}(hd:j4 j.M w w' es)(fn:FuncId)(pos:String):
 WT cL cN w' (t++ħ g fn pos es) (kj act g (φ ⟨j.M.grow w w',x,w'⟩)):=by
 have Zn:∀b,(j.M.grow w w').has b->b<w'.heap.size/\b≠cL/\b≠cN:=by
  intro b hb;have old:j.M.has b->b<w'.heap.size/\b≠cL/\b≠cN:=λhb=>by
   have:=h.low g j hg b hb;exact⟨ϟ this.1 hd.size,this.2⟩
  rcases hb with(hb|hb) |hb
  ·exact old (.inl hb)
  ·have:=h.hL;have:=h.hN
   exact⟨hb.2,by omega,by omega⟩
  ·exact old (.inr hb)
 have ND:∀op∈ħ g fn pos es,∃e∈es,op={g,fn,pos,act:=.ofEvent e}:=λop ae=>Go.Conc.mem_ofEvents ae
 have split:∀ {k a},Ö (t++ħ g fn pos es) k=φ a->(k<t.size/\Ö t k=φ a)\/∃e∈es,∃b,xS a.loc b/\(j.M.grow w w').has b/\(a.write=θ->(j.M.grow w w').O b)/\Knows (t++ħ g fn pos es) g k:=by
  intro k a ha;obtain⟨op,ae,cC⟩:=ć ha;rcases ñ ae with⟨hi,bJ⟩ | ⟨_,fK⟩
  ·exact .inl ⟨hi,by rw[ĕ bJ];exact cC⟩
  ·obtain⟨e,he,rfl⟩:=ND op fK
   obtain⟨b,b1,b2,b3,_⟩:=UL (hd.ev e he) cC;exact .inr ⟨e,he,b,b1,b2,b3,knows_own ae⟩
 refine⟨λi ji hi=>?_,λi i' ji S8 au hi bG b hb iE=>?_,λi ji hi b hb=>?_,λop ae=>?_,h.nd.app (TQ hd.ev),λsaid=>?_,λi ji hi k a ha b hb hc=>?_,ϟ h.hL hd.size,ϟ h.hN hd.size⟩
 ·by_cases sN:i=g
  ·subst sN
   rw[mL] at hi;cases hi;exact bQ.refl _ _
  ·rw[bR _ _ sN] at hi
   refine(h.keep i ji hi).trans ⟨hd.size,λb hb=>hd.kept b (h.low i ji hi b hb).1 λhO=>h.sI g i j ji (Λ sN) hg hi b hO hb,hd.tape,hd.os,hd.e⟩
 ·by_cases sN:i=g
  ·subst sN
   rw[mL] at hi;cases hi;rw[bR _ _ (Λ au)] at bG;rcases hb with hb|hb
   ·exact h.sI i i' j S8 au hg bG b hb iE
   ·have:=(h.low i' S8 bG b iE).1;omega
  ·rw[bR _ _ sN] at hi
   by_cases YY:i'=g
   ·subst YY
    rw[mL] at bG;cases bG;rcases iE with(iE|iE) |iE
    ·exact h.sI i i' ji j au hi hg b hb (.inl iE)
    ·have:=(h.low i ji hi b (.inl hb)).1;omega
    ·exact h.sI i i' ji j au hi hg b hb (.inr iE)
   ·rw[bR _ _ YY] at bG
    exact h.sI i i' ji S8 au hi bG b hb iE
 ·by_cases sN:i=g
  ·subst sN
   rw[mL] at hi;cases hi;exact Zn b hb
  ·rw[bR _ _ sN] at hi
   have:=h.low i ji hi b hb;exact⟨ϟ this.1 hd.size,this.2⟩
 ·rcases Array.mem_append.1 ae with ae|ae
  ·exact MemAct.low_mono hd.size (h.tl op ae)
  ·obtain⟨e,he,rfl⟩:=ND op ae
   exact(QK (B:=w'.heap.size) (hd.ev e he) λb hb=>(Zn b hb).1).2.2.2
 ·refine noRace_append (h.clean said) (λop ae=>by obtain⟨e,_,rfl⟩:=ND op ae;rfl) λk a ha op ae b hb hc=>?_
  obtain⟨e,he,rfl⟩:=ND op ae;obtain⟨c,c1,c2,c3,c4⟩:=UL (hd.ev e he) hb;have ca:xS a.loc c:=by rw[hc.1];exact c1
  have aj:=UM h.tl ha ca;by_cases fF:b.write=θ
  ·rcases c3 fF with hO|hO
   ·exact h.perm g j hg k a ha c ca (.inl hO)
   ·omega
  ·have zU:a.write=θ:=hc.2.2.1.resolve_right fF
   rcases c2 with(hO|hO) |hR
   ·exact h.perm g j hg k a ha c ca (.inl hO)
   ·omega
   ·exact h.perm g j hg k a ha c ca (.inr ⟨hR,zU⟩)
 ·by_cases sN:i=g
  ·subst sN
   rw[mL] at hi;cases hi;rcases split ha with⟨_,yk⟩ | ⟨e,he,c,c1,c2,c3,c4⟩
   ·have aj:=UM h.tl yk hb
    refine(h.perm i j hg k a yk b hb ?_).app _
    rcases hc with(hc|hc) |hc
    ·exact .inl hc
    ·omega
    ·exact .inr hc
   ·exact c4
  ·rw[bR _ _ sN] at hi
   rcases split ha with⟨_,yk⟩ | ⟨e,he,c,c1,c2,c3,c4⟩
   ·exact(h.perm i ji hi k a yk b hb hc).app _
   ·exfalso
    obtain rfl:=Tr hb c1;have oZ:=h.low i ji hi b (hc.imp id (·.1))
    rcases hc with hc| ⟨hc,zU⟩
    ·rcases c2 with(c2|c2) |c2
     ·exact h.sI i g ji j sN hi hg b hc (.inl c2)
     ·omega
     ·exact h.sI i g ji j sN hi hg b hc (.inr c2)
    ·rcases c3 zU with c3|c3
     ·exact h.sI g i j ji (Λ sN) hg hi b c3 (.inr hc)
     ·omega
def WT.mute(h:WT cL cN w t act)(hu:∀op∈u,op.act.touch? =ν/\op.act.low w.heap.size/\op.act≠ .mark .disable/\op.act≠ .mark .enable)(hs:w'.heap.size=w.heap.size)
 (hk:∀b,b≠cL->b≠cN->w'.heap[b]?=w.heap[b]?)(ht:w'.tape=w.tape)(ho:w'.os=w.os)(hp:w'.output=w.output):WT cL cN w' (t++u) act:=by
 have old:∀ {k a},Ö (t++u) k=φ a->Ö t k=φ a:=by
  intro k a ha;obtain⟨op,ae,cC⟩:=ć ha;rcases ñ ae with⟨_,bJ⟩ | ⟨_,fK⟩
  ·rw[ĕ bJ];exact cC
  ·rw[(hu op fK).1] at cC;cases cC
 refine⟨λg j e=>(h.keep g j e).trans ⟨by rw[hs];exact ϊ _,λb hb=>hk b (h.low g j e b hb).2.1 (h.low g j e b hb).2.2,ht,ho,hp⟩,h.sI,λg j e b hb=>by rw[hs];exact h.low g j e b hb,λop ae=>?_,h.nd.app λop ae=>(hu op ae).2.2,λsaid=>?_,λg j e k a ha b hb hc=>(h.perm g j e k a (old ha) b hb hc).app u,by rw[hs];exact h.hL,by rw[hs];exact h.hN⟩
 ·rw[hs]
  rcases Array.mem_append.1 ae with ae|ae
  ·exact h.tl op ae
  ·exact(hu op ae).2.1
 ·
  have key:∀(l:List MemOp) (s:Â),(∀op∈l,op.act.touch? =ν)->¬Race said s->¬Race said (s++l.toArray):=by
   intro l;induction l with
   |nil=>intro s _ hr;simpa using hr
   |cons x l ih=>
    intro s hl hr;have e:s++(x::l).toArray=(s++#[x])++l.toArray:=by apply Array.ext';simp
    rw[e];refine ih _ (λop ae=>hl op (by simp[ae])) (noRace_append (g:=x.g) hr (by simp) λk a ha op ae b hb hc=>?_)
    simp only[à,Ã] at ae;subst ae;rw[hl op (by simp)] at hb
    cases hb
  have:=key u.toList t (λop ae=>(hu op (by simpa using ae)).1) (h.clean said)
  simpa using this
def WT.drop(h:WT cL cN w t act)(g:Nat):WT cL cN w t (kj act g ν):=by
 have back:∀ {i j},kj act g ν i=φ j->act i=φ j:=by
  intro i j hi;by_cases e:i=g
  ·subst e;rw[mL] at hi;cases hi
  ·rwa[bR _ _ e] at hi
 exact⟨λi j e=>h.keep i j (back e),λi i' j j' au e e'=>h.sI i i' j j' au (back e) (back e'),λi j e=>h.low i j (back e),h.tl,h.nd,h.clean,λi j e=>h.perm i j (back e),h.hL,h.hN⟩
def WT.again(h:WT cL cN w t act){g:Nat}{j:rQ}(hg:act g=φ j)(x:ϐ):WT cL cN w t (kj act g (φ ⟨j.M,x,w⟩)):=by
 have back:∀ {i j'},kj act g (φ ⟨j.M,x,w⟩) i=φ j'->∃aar,act i=φ aar/\j'.M=aar.M:=by
  intro i j' hi;by_cases e:i=g
  ·subst e;rw[mL] at hi;cases hi;exact⟨j,hg,rfl⟩
  ·rw[bR _ _ e] at hi;exact⟨j',hi,rfl⟩
 refine⟨λi j' hi=>?_,λi i' j1 j2 au e e'=>?_,λi j' hi=>?_,h.tl,h.nd,h.clean,λi j' hi=>?_,h.hL,h.hN⟩
 ·by_cases e:i=g
  ·subst e;rw[mL] at hi;cases hi;exact bQ.refl _ _
  ·rw[bR _ _ e] at hi;exact h.keep i j' hi
 ·obtain⟨a,a1,a2⟩:=back e
  obtain⟨b,b1,b2⟩:=back e';rw[a2,b2];exact h.sI i i' a b au a1 b1
 ·obtain⟨a,a1,a2⟩:=back hi
  rw[a2];exact h.low i a a1
 ·obtain⟨a,a1,a2⟩:=back hi
  rw[a2];exact h.perm i a a1
def ay.shared(M:ay):ay:=⟨λ_=>False,M.has⟩
def WT.spawn(h:WT cL cN w t act){j:rQ}(h0:act 0=φ j)(hc:act c=ν)(qk:c≠0){x y:MemOp}(hx:x.g=0/\x.act=.go c)(hy:y.g=c/\y.act=.start)(g' child:ϐ):
 WT cL cN w (t++#[x,y]) (kj (kj act 0 (φ ⟨j.M.shared,g',w⟩)) c (φ ⟨j.M.shared,child,w⟩)):=by
 have hm:=h.mute (u:=#[x,y]) (w':=w) (λop ae=>by
  simp only[à,ϥ,ϸ,or_false] at ae;rcases ae with rfl|rfl
  ·rw[hx.2];exact⟨rfl,trivial,by simp,by simp⟩
  ·rw[hy.2];exact⟨rfl,trivial,by simp,by simp⟩) rfl (λ_ _ _=>rfl) rfl rfl rfl
 have back:∀ {i j'},kj (kj act 0 (φ ⟨j.M.shared,g',w⟩)) c (φ ⟨j.M.shared,child,w⟩) i=φ j'->((i=0\/i=c)/\j'.M=j.M.shared/\j'.w=w)\/(i≠0/\i≠c/\act i=φ j'):=by
  intro i j' hi;by_cases e:i=c
  ·subst e;rw[mL] at hi;cases hi;exact .inl ⟨.inr rfl,rfl,rfl⟩
  ·rw[bR _ _ e] at hi
   by_cases e0:i=0
   ·subst e0;rw[mL] at hi;cases hi;exact .inl ⟨.inl rfl,rfl,rfl⟩
   ·rw[bR _ _ e0] at hi;exact .inr ⟨e0,e,hi⟩
 have old:∀ {k a},Ö (t++#[x,y]) k=φ a->Ö t k=φ a:=by
  intro k a ha;obtain⟨op,ae,cC⟩:=ć ha;rcases ñ ae with⟨_,bJ⟩ | ⟨_,fK⟩
  ·rw[ĕ bJ];exact cC
  ·simp only[à,ϥ,ϸ,or_false] at fK
   rcases fK with rfl|rfl
   ·rw[hx.2] at cC;cases cC
   ·rw[hy.2] at cC;cases cC
 refine⟨λi j' hi=>?_,λi i' j1 j2 au e e' b hb iE=>?_,λi j' hi b hb=>?_,hm.tl,hm.nd,hm.clean,λi j' hi k a ha b hb zX=>?_,h.hL,h.hN⟩
 ·rcases back hi with⟨_,a2,a3⟩ | ⟨_,_,a3⟩
  ·rw[a2,a3];exact bQ.refl _ _
  ·exact h.keep i j' a3
 ·rcases back e with⟨_,a2,_⟩ | ⟨a1,_,a3⟩
  ·rw[a2] at hb;exact hb.elim
  ·rcases back e' with⟨_,b2,_⟩ | ⟨_,_,b3⟩
   ·rw[b2] at iE
    exact h.sI i 0 j1 j a1 a3 h0 b hb (iE.resolve_left id)
   ·exact h.sI i i' j1 j2 au a3 b3 b hb iE
 ·rcases back hi with⟨_,a2,_⟩ | ⟨_,_,a3⟩
  ·rw[a2] at hb;exact h.low 0 j h0 b (hb.resolve_left id)
  ·exact h.low i j' a3 b hb
 ·rcases back hi with⟨a1,a2,_⟩ | ⟨_,_,a3⟩
  ·rw[a2] at zX
   rcases zX with zX| ⟨zX,zU⟩
   ·exact zX.elim
   ·have hk:Knows t 0 k:=by
      rcases zX with hO|hR
      ·exact h.perm 0 j h0 k a (old ha) b hb (.inl hO)
      ·exact h.perm 0 j h0 k a (old ha) b hb (.inr ⟨hR,zU⟩)
    rcases a1 with rfl|rfl
    ·exact hk.app _
    ·exact Go.ConcN.fork_knows hx hy (Ku h.nd 0) (Ku h.nd _) hk
  ·exact(h.perm i j' a3 k a (old ha) b hb zX).app _
end
def zF(t:Â)(g h:Nat):Prop:=∀k a,Ö t k=φ a-> t.g? k=φ g->Knows t h k
def zF.app{t u:Â}{g h:Nat}(k:zF t g h)(hu:∀op∈u,op.g=g-> op.act.touch? =ν):zF (t++u) g h:=by
 intro i a ha hg;obtain⟨op,ae,cC⟩:=ć ha;rcases ñ ae with⟨hi,bJ⟩ | ⟨_,fK⟩
 ·refine(k i a (by rw[ĕ bJ];exact cC) ?_).app u
  simpa [Ð,ae,bJ] using hg
 ·have e:op.g=g:=by simpa [Ð,ae] using hg
  rw[hu op fK e] at cC;cases cC
def zF.self(t:Â)(g:Nat):zF t g g:=by
 intro i a ha hg;obtain⟨op,ae,_⟩:=ć ha;have e:op.g=g:=by simpa [Ð,ae] using hg
 have:=knows_own ae;rwa[e] at this
def ajA{t:Â}(hn:vt t){a s:Nat}(h1:x1.g=a/\x1.act=.send c s)(h2:x2.g=b/\x2.act=.recv c r cap)(h3:x3.g=a/\x3.act=.sendDone c s)(h4:x4.g=b/\x4.act=.recvDone c s)
 (h:Knows t a k):Knows (t++#[x1,x2,x3,x4]) b k:=by
 have e1:(t++#[x1,x2,x3,x4])[t.size]?=φ x1:=by rw[Aek (ϊ _)];simp
 have e4:(t++#[x1,x2,x3,x4])[t.size+3]?=φ x4:=by rw[Aek (by omega)];simp
 have Zt:vt (t++#[x1,x2,x3,x4]):=hn.app λop ae=>by
  simp only[à,ϥ,ϸ,or_false] at ae;rcases ae with rfl|rfl|rfl|rfl
  ·rw[h1.2];simp
  ·rw[h2.2];simp
  ·rw[h3.2];simp
  ·rw[h4.2];simp
 have q1:HappensBefore (t++#[x1,x2,x3,x4]) k t.size:=h.hb_new (ϊ _) e1 h1.1;exact⟨t.size+3,x4,e4,h4.1,.inr (q1.trans (.single (.inr ⟨.handOver (c:=c) (k:=s) (by rw[act?_of e1,h1.2]) (by rw[act?_of e4,h4.2]),NC Zt e1,NC Zt e4⟩)))⟩
end Go.Sim
namespace Go.Sim
open Go Go.Conc
open Go.ConcN (sumTo upd sumTo_upd upd_ne upd_same sumTo_congr)
inductive Tree:Type
 |leaf:Tree
 |node (f:Ψ->Tree):Tree
def Tree.lt(a b:Tree):Prop:=∃f w,b=.node f/\a=f w
def Tree.acc(a:Tree):Acc Tree.lt a:=by
 induction a with
 |leaf=>exact⟨_,λy ⟨f,w,e,_⟩=>by cases e⟩
 |node f ih=>exact⟨_,λy ⟨f',w,e,e'⟩=>by cases e;rw[e'];exact ih w⟩
def Fj(n:Nat)(f' f:Nat->Tree):Prop:=∃i,i<n/\Tree.lt (f' i) (f i)/\∀j,j≠i->f' j=f j
def ach(n:Nat):∀f:Nat->Tree,Acc (Fj n) f:=by
 induction n with
 |zero=>exactλf=>⟨_,λy ⟨i,hi,_⟩=>by omega⟩
 |succ n ih=>
  have key:∀x:Tree,Acc Tree.lt x->∀f:Nat->Tree,f n=x->Acc (Fj (n+1)) f:=by
   intro x hx;induction hx with
   |intro x _ ihx=>
    intro f hf;have inner:∀f:Nat->Tree,Acc (Fj n) f->f n=x->Acc (Fj (n+1)) f:=by
     intro f ha;induction ha with
     |intro f _ ihf=>
      intro hf;refine⟨_,λf' ⟨i,hi,aj,ho⟩=>?_⟩
      by_cases fP:i=n
      ·subst fP
       exact ihx (f' i) (by rw[<-hf];exact aj) f' rfl
      ·exact ihf f' ⟨i,by omega,aj,ho⟩ ((ho n (λe=>fP e.symm)).trans hf)
    exact inner f (ih f) hf
  exactλf=>key (f n) (Tree.acc _) f rfl
inductive tC(P:Program)(main:Bool)(Stop:ay->ϐ->Ψ->Prop):Tree->ay->ϐ->Ψ->Prop
 |stop {T:Tree} {M:ay} {g:ϐ} {w:Ψ} (h:∀aa,bQ M w aa->Stop M g aa):tC P main Stop T M g w
 |step {f:Ψ->Tree} {M:ay} {g:ϐ} {w:Ψ} (run:g.status=.running) (nx:Ψ->ϐ×Ψ×Array Event)
   (h:∀aa,bQ M w aa->Ϛ P main g aa=.go (nx aa).1 (nx aa).2.1 (nx aa).2.2/\j4 M aa (nx aa).2.1 (nx aa).2.2)
   (hs:∀aa,bQ M w aa->tC P main Stop (f aa) (M.grow aa (nx aa).2.1) (nx aa).1 (nx aa).2.1):tC P main Stop (.node f) M g w
def Walk.tree{Stop:ay->ϐ->Ψ->Prop}(h:Walk P main Stop M g w):∃T,tC P main Stop T M g w:=by
 induction h with
 |stop h=>exact⟨.leaf,.stop h⟩
 | @step M g w run nx h _ ih=>
   have ex:∀aa,∃T,bQ M w aa->tC P main Stop T (M.grow aa (nx aa).2.1) (nx aa).1 (nx aa).2.1:=by
    intro aa;by_cases k:bQ M w aa
    ·obtain⟨T,hT⟩:=ih aa k;exact⟨T,λ_=>hT⟩
    ·exact⟨.leaf,λx=>absurd x k⟩
   exact⟨.node λaa=>Classical.choose (ex aa),.step run nx h λaa k=>Classical.choose_spec (ex aa) k⟩
def tC.ya{Stop:ay->ϐ->Ψ->Prop}{T:Tree}(h:tC P main Stop T M g w):
 (∀aa,bQ M w aa->Stop M g aa)\/(g.status=.running/\∀aa,bQ M w aa->∃T' g' w' es,Tree.lt T' T/\Ϛ P main g aa=.go g' w' es/\j4 M aa w' es/\tC P main Stop T' (M.grow aa w') g' w'):=by
 cases h with
 |stop h=>exact .inl h
 |step run nx h hs=>exact .inr ⟨run,λaa k=>⟨_,_,_,_,⟨_,aa,rfl,rfl⟩,(h aa k).1,(h aa k).2,hs aa k⟩⟩
structure Pm where
 P:Program
 n:Nat
 N0:Nat
 cL:Nat
 cN:Nat
 cR:Nat->Bool
 val:Nat->υ
 End:List Nat->ay->ϐ->Ψ->Prop
def Lf(X:Pm)(c:Nat)(v:υ)(Next:ay->ϐ->Ψ->Prop)(M:ay)(g:ϐ)(w:Ψ):Prop:=
 g.status=.running/\g.offers=ν/\(∃z,Ϛ X.P χ g w=.comm g #[ö c v z] θ .send w #[])/\Next M (Ϩ g ω) w
def W2(X:Pm):ay->ϐ->Ψ->Prop:=Lf X X.cL (.bool θ) (λ_ g _=>∃k,Ĝ X.P k g)
def W1(X:Pm)(i:Nat)(M:ay)(g:ϐ)(w:Ψ):Prop:=
 (X.cR i=θ/\Lf X X.cN (X.val i) (λM g w=>Walk X.P χ (W2 X) M g w) M g w)\/(X.cR i=χ/\W2 X M g w)
def AtClose(X:Pm)(_:ay)(g:ϐ)(w:Ψ):Prop:=
 g.status=.running/\mayWake X.P g=θ/\∀s r,w.heap[X.cN]?=φ (.chan 0 #[] χ s r χ)->
  ∃cr k,Ϛ X.P χ g w=.go cr (w.shut X.cN s r χ) #[⟨.obj X.cN,χ,θ⟩,⟨.obj X.cN,θ,θ⟩]/\Ĝ X.P k cr
def wP(X:Pm):Nat->ay->ϐ->Ψ->Prop
 |0=>AtClose X
 |r+1=>λM g w=>g.status=.running/\g.offers=ν/\(∃z,Ϛ X.P χ g w=.comm g #[ß X.cL z] θ (.recv χ) w #[])/\Walk X.P χ (wP X r) M (Ϩ g (ð χ (.bool θ) θ)) w
def tB(X:Pm):Nat->List Nat->ay->ϐ->Ψ->Prop
 |0,aB=>λM g w=>g.status=.running/\g.offers=ν/\∃z,Ϛ X.P θ g w=.comm g #[ß X.cN z] θ (.recv θ) w #[]/\X.End aB M (Ϩ g (ð θ z χ)) w
 |f+1,aB=>λM g w=>g.status=.running/\g.offers=ν/\∃z,Ϛ X.P θ g w=.comm g #[ß X.cN z] θ (.recv θ) w #[]/\X.End aB M (Ϩ g (ð θ z χ)) w/\
   ∀i,i<X.n->X.cR i=θ->i ∉ aB->Walk X.P θ (tB X f (aB++ [i])) M (Ϩ g (ð θ (X.val i) θ)) w
def tB.at{X:Pm}(h:tB X f aB M g w):g.status=.running/\g.offers=ν/\∃z,Ϛ X.P θ g w=.comm g #[ß X.cN z] θ (.recv θ) w #[]/\X.End aB M (Ϩ g (ð θ z χ)) w:=by
 cases f with
 |zero=>exact h
 |succ f=>obtain⟨a,b,z,c,d,_⟩:=h;exact⟨a,b,z,c,d⟩
def StopA(X:Pm):Nat->ay->ϐ->Ψ->Prop
 |0=>λM g w=>g.status=.running/\∃cr child,Ϛ X.P θ g w=.spawn cr child w #[]/\cr.status=.running/\child.status=.running/\Walk X.P χ (wP X X.n) M.shared child w/\Walk X.P θ (tB X X.n []) M.shared cr w
 |r+1=>λM g w=>g.status=.running/\∃cr child,Ϛ X.P θ g w=.spawn cr child w #[]/\cr.status=.running/\child.status=.running/\Walk X.P χ (W1 X (X.n - (r+1))) M.shared child w/\Walk X.P θ (StopA X r) M.shared cr w
inductive WS where
 |no|qI|pb|oO|oM|quit
 deriving DecidableEq
def WS.wt:WS->Nat
 | .no=>6| .qI=>5| .pb=>4| .oO=>3| .oM=>2| .quit=>0
def WS.nO:WS->Bool
 | .oO| .oM| .quit=>θ
 |_=>χ
def WS.q(s:WS):Nat:=if s=.quit then 1 else 0
inductive MP where
 |spawn|walk(f:Nat)(aB:List Nat) |dt(f:Nat)(aB:List Nat)
inductive CP where
 |no|walk(r:Nat) |dt(r:Nat) |quit
def MP.wt(n:Nat):MP->Nat
 | .spawn=>2 * n+3| .walk f _=>2 * f+2| .dt f _=>2 * f+1
def CP.wt(n:Nat):CP->Nat
 | .no=>2 * n+8| .walk r=>2 * r+5| .dt r=>2 * r+4| .quit=>0
structure Gh where
 j:Nat
 st:Nat->WS
 mp:MP
 cp:CP
 act:Nat->Option rQ
 q:Nat->Nat
 tr:Nat->Tree
def Gh.mu(X:Pm)(G:Gh):Nat:=G.mp.wt X.n+G.cp.wt X.n+sumTo X.n (λi=>(G.st i).wt)
def wO(x y:ϐ):Prop:=x.frame=y.frame/\x.callers=y.callers/\x.dying=y.dying/\x.status=.running
def mW(X:Pm)(G:Gh)(x:ϐ):Prop:=
 match G.mp with
 | .spawn=>∃M aO,G.act 0=φ ⟨M,x,aO⟩/\x.status=.running/\tC X.P θ (StopA X (X.n - G.j)) (G.tr 0) M x aO
 | .walk f aB=>∃M aO y,G.act 0=φ ⟨M,y,aO⟩/\wO x y/\tC X.P θ (tB X f aB) (G.tr 0) M y aO
 | .dt f aB=>∃M aO y z,G.act 0=φ ⟨M,y,aO⟩/\x=Ï y #[ß X.cN z] (.recv θ)/\∀aa,bQ M aO aa->tB X f aB M y aa
def WSit(X:Pm)(G:Gh)(i:Nat)(x:ϐ):Prop:=
 match G.st i with
 | .no=>False
 | .qI=>∃M aO,G.act (X.N0+i)=φ ⟨M,x,aO⟩/\x.status=.running/\tC X.P χ (W1 X i) (G.tr (X.N0+i)) M x aO
 | .pb=>∃M aO y z,G.act (X.N0+i)=φ ⟨M,y,aO⟩/\x=Ï y #[ö X.cN (X.val i) z] .send/\X.cR i=θ/\Walk X.P χ (W2 X) M (Ϩ y ω) aO
 | .oO=>∃M aO,G.act (X.N0+i)=φ ⟨M,x,aO⟩/\x.status=.running/\tC X.P χ (W2 X) (G.tr (X.N0+i)) M x aO
 | .oM=>∃M aO y z,G.act (X.N0+i)=φ ⟨M,y,aO⟩/\x=Ï y #[ö X.cL (.bool θ) z] .send/\∃k,Ĝ X.P k (Ϩ y ω)
 | .quit=>G.act (X.N0+i)=ν/\Ĝ X.P (G.q (X.N0+i)) x
def CSit(X:Pm)(G:Gh)(x:ϐ):Prop:=
 match G.cp with
 | .no=>False
 | .walk r=>∃M aO,G.act (X.N0+X.n)=φ ⟨M,x,aO⟩/\x.status=.running/\tC X.P χ (wP X r) (G.tr (X.N0+X.n)) M x aO
 | .dt r=>∃r' M aO y z,r=r'+1/\G.act (X.N0+X.n)=φ ⟨M,y,aO⟩/\x=Ï y #[ß X.cL z] (.recv χ)/\Walk X.P χ (wP X r') M (Ϩ y (ð χ (.bool θ) θ)) aO
 | .quit=>G.act (X.N0+X.n)=ν/\Ĝ X.P (G.q (X.N0+X.n)) x
def Gh.closed(G:Gh):Bool:=match G.cp with
 | .quit=>θ
 |_=>χ
def CP.nK:CP->Bool
 | .no=>θ
 |_=>χ
def tn(X:Pm)(G:Gh):Prop:=
 match G.cp with
 | .no=>sumTo X.n (λi=>(G.st i).q)=0
 | .walk r| .dt r=>r+sumTo X.n (λi=>(G.st i).q)=X.n
 | .quit=>sumTo X.n (λi=>(G.st i).q)=X.n
def tt(X:Pm)(G:Gh):Prop:=
 match G.mp with
 | .spawn=>∀i,i<X.n->X.cR i=θ->(G.st i).nO=χ
 | .walk f aB| .dt f aB=>aB.Nodup/\f+aB.length=X.n/\∀i,i∈aB↔(i<X.n/\X.cR i=θ/\(G.st i).nO=θ)
structure Base(wb w:Ψ):Prop where
 size:wb.heap.size<=w.heap.size
 tape:w.tape=wb.tape
 os:w.os=wb.os
 e:w.output=wb.output
structure FI(X:Pm)(wb:Ψ)(gs:Array ϐ)(w:Ψ)(t:Â)(G:Gh):Prop where
 size:gs.size=X.N0+G.j+(if G.cp.nK then 0 else 1)
 n0:0<X.N0
 jn:G.j<=X.n
 jc:G.cp.nK=χ->G.j=X.n
 mc:(∃f aB,G.mp=.walk f aB\/G.mp=.dt f aB)↔G.cp.nK=χ
 AE:∀i,i<X.n->(G.st i=.no↔G.j<=i)
 main:∃x,gs[0]?=φ x/\mW X G x
 wk:∀i,i<G.j->∃x,gs[X.N0+i]?=φ x/\WSit X G i x
 cl:G.cp.nK=χ->∃x,gs[X.N0+X.n]?=φ x/\CSit X G x
 old:∀g x,0<g->g<X.N0->gs[g]?=φ x->Ĝ X.P (G.q g) x
 tV:∀g,0<g->g<X.N0->G.act g=ν
 sK:∀g,gs.size<=g->G.act g=ν
 cnt:tn X G
 aB:tt X G
 sU:(∃f aB,G.mp=.dt f aB)->∀i,i<X.n->G.st i≠ .pb
 Co:(∃r,G.cp=.dt r)->∀i,i<X.n->G.st i≠ .oM
 EF:(∃f aB,G.mp=.dt f aB)->G.closed=χ
 wt:WT X.cL X.cN w t G.act
 rj:∃s,w.heap[X.cL]?=φ (.chan 0 #[] χ s s χ)
 rl:∃s,w.heap[X.cN]?=φ (.chan 0 #[] G.closed s s χ)
 neq:X.cL≠X.cN
 base:Base wb w
 Cq:∀k a,Ö t k=φ a->a.loc.isMemory=θ->∀g,t.g? k=φ g->g<X.N0->Knows t 0 k
 zO:∀k g,t.g? k=φ g->g<gs.size
 kq:∀i,i<X.n->G.st i=.quit->zF t (X.N0+i) (X.N0+X.n)
 EE:G.closed=χ->∀k a,Ö t k=φ a->a.loc≠ .obj X.cN
 IQ:G.closed=θ->∃c z,t[c]?=φ z/\z.act=.close X.cN/\z.g=X.N0+X.n/\∀k a,Ö t k=φ a->∀g,t.g? k=φ g->X.N0<=g->Before t k c
def acr(st:Nat->WS):∀n,sumTo n (λi=>(st i).q)<=n
 |0=>ϊ _
 |n+1=>by
  have:=acr st n;simp only[sumTo];have:(st n).q<=1:=by unfold WS.q;split<;>omega
  omega
def UF(st:Nat->WS):∀n,sumTo n (λi=>(st i).q)=n->∀i,i<n->st i=.quit
 |0,_,i,hi=>by omega
 |n+1,h,i,hi=>by
  have h1:=acr st n;have h2:(st n).q<=1:=by unfold WS.q;split<;>omega
  simp only[sumTo] at h;by_cases e:i=n
  ·subst e
   have:(st i).q=1:=by omega
   unfold WS.q at this;split at this
   ·assumption
   ·omega
  ·exact UF st n (by omega) i (by omega)
def asf(st:Nat->WS)(n:Nat)(h:sumTo n (λi=>(st i).q)<n):∃i,i<n/\st i≠ .quit:=by
 apply Ø;intro hn;have jy:∀i,i<n->st i=.quit:=λi hi=>Ø λhq=>hn ⟨i,hi,hq⟩
 have:sumTo n (λi=>(st i).q)=n:=by
  have key:∀m,m<=n->sumTo m (λi=>(st i).q)=m:=by
   intro m;induction m with
   |zero=>intro _;rfl
   |succ m ih=>
    intro hm;simp only[sumTo];rw[ih (by omega),jy m (by omega)]
    simp[WS.q]
  exact key n (ϊ _)
 omega
section
variable {X:Pm}{wb:Ψ}{gs:Array ϐ}{w:Ψ}{t:Â}{G:Gh}
def CP.agl{G:Gh}(h:G.closed=θ):G.cp.nK=χ:=by
 unfold Gh.closed at h;unfold CP.nK;cases hc:G.cp<;>rw[hc] at h<;>simp_all
def FI.LF(h:FI X wb gs w t G)(hc:G.closed=θ):∀i,i<X.n->G.st i=.quit:=by
 have hq:=h.cnt;unfold tn at hq;unfold Gh.closed at hc;cases e:G.cp with
 |quit=>rw[e] at hq;exact UF _ _ hq
 |_=>rw[e] at hc;cases hc
def FI.zi(h:FI X wb gs w t G)(hk:k<gs.size):k=0\/(0<k/\k<X.N0)\/(∃i,i<G.j/\k=X.N0+i)\/(k=X.N0+X.n/\G.cp.nK=χ):=by
 have hs:=h.size;by_cases h0:k=0
 ·exact .inl h0
 by_cases h1:k<X.N0
 ·exact .inr (.inl ⟨by omega,h1⟩)
 by_cases h2:k<X.N0+G.j
 ·exact .inr (.inr (.inl ⟨k - X.N0,by omega,by omega⟩))
 ·right;right;right
  by_cases hc:G.cp.nK=θ
  ·rw[hc] at hs;simp at hs;omega
  ·have hc:G.cp.nK=χ:=by simpa using hc
   rw[hc] at hs;have:=h.jc hc;simp at hs;exact⟨by omega,hc⟩
def FI.aaU(h:FI X wb gs w t G)(hi:i<X.n)(hs:G.st i≠ .no):i<G.j:=by
 apply Ø;intro hn;exact hs ((h.AE i hi).2 (by omega))
def FI.kinds(h:FI X wb gs w t G)(hy:gs[k]?=φ y):
 y.status=.running\/(∃n,Ĝ X.P n y)\/(∃g z,G.closed=χ/\y=Ï g #[ß X.cN z] (.recv θ))\/(∃g z,y=Ï g #[ß X.cL z] (.recv χ))\/
  (∃g v z,k≠0/\G.closed=χ/\y=Ï g #[ö X.cN v z] .send)\/∃g v z,k≠0/\y=Ï g #[ö X.cL v z] .send:=by
 rcases h.zi (Ϝ.1 hy).1 with rfl| ⟨h1,h2⟩ | ⟨i,hi,rfl⟩ | ⟨rfl,hc⟩
 ·obtain⟨x,hx,hs⟩:=h.main
  rw[hy] at hx;obtain rfl:=Ϟ hx;unfold mW at hs;cases e:G.mp with
  |spawn=>rw[e] at hs;obtain⟨M,aO,_,hr,_⟩:=hs;exact .inl hr
  |walk f aB=>rw[e] at hs;obtain⟨M,aO,y',_,hr,_⟩:=hs;exact .inl hr.2.2.2
  |dt f aB=>rw[e] at hs;obtain⟨M,aO,y',z,_,hr,_⟩:=hs;exact .inr (.inr (.inl ⟨y',z,h.EF ⟨f,aB,e⟩,hr⟩))
 ·exact .inr (.inl ⟨_,h.old k y h1 h2 hy⟩)
 ·obtain⟨x,hx,hs⟩:=h.wk i hi
  rw[hy] at hx;obtain rfl:=Ϟ hx;have oC:X.N0+i≠0:=by have:=h.n0;omega
  have jA:∀s,G.st i=s->s≠ .quit->G.closed=χ:=by
   intro s e hs;apply Ø;intro hc;have:=h.LF (by simpa using hc) i (by have:=h.jn;omega)
   exact hs (e.symm.trans this)
  unfold WSit at hs;cases e:G.st i with
  |no=>rw[e] at hs;exact hs.elim
  |qI=>rw[e] at hs;obtain⟨M,aO,_,hr,_⟩:=hs;exact .inl hr
  |pb=>rw[e] at hs;obtain⟨M,aO,y',z,_,hr,_⟩:=hs;exact .inr (.inr (.inr (.inr (.inl ⟨y',_,z,oC,jA _ e (by simp),hr⟩))))
  |oO=>rw[e] at hs;obtain⟨M,aO,_,hr,_⟩:=hs;exact .inl hr
  |oM=>rw[e] at hs;obtain⟨M,aO,y',z,_,hr,_⟩:=hs;exact .inr (.inr (.inr (.inr (.inr ⟨y',_,z,oC,hr⟩))))
  |quit=>rw[e] at hs;exact .inr (.inl ⟨_,hs.2⟩)
 ·obtain⟨x,hx,hs⟩:=h.cl hc
  rw[hy] at hx;obtain rfl:=Ϟ hx;unfold CSit at hs;cases e:G.cp with
  |no=>rw[e] at hs;exact hs.elim
  |walk r=>rw[e] at hs;obtain⟨M,aO,_,hr,_⟩:=hs;exact .inl hr
  |dt r=>rw[e] at hs;obtain⟨r',M,aO,y',z,_,_,hr,_⟩:=hs;exact .inr (.inr (.inr (.inl ⟨y',z,hr⟩)))
  |quit=>rw[e] at hs;exact .inr (.inl ⟨_,hs.2⟩)
def FI.awake(h:FI X wb gs w t G):∀g∈gs,Conc.awake g:=by
 intro y hy;obtain⟨k,hk,rfl⟩:=Array.mem_iff_getElem.1 hy;rcases h.kinds (k:=k) (â hk) with e| ⟨n,e⟩ | ⟨g,z,_,e⟩ | ⟨g,z,e⟩ | ⟨g,v,z,_,_,e⟩ | ⟨g,v,z,_,e⟩
 ·exact awake_of (.inl e)
 ·exact awake_of (e.status.elim .inl λx=>.inr (.inr x))
 all_goals rw[e];exact awake_of (.inr (.inl rfl))
def FI.woken(h:FI X wb gs w t G){k:Nat}{y:ϐ}(hy:gs[k]?=φ y){x x':ϐ}{w':Ψ}(hL:∃s,w'.heap[X.cL]?=φ (.chan 0 #[] χ s s χ))
 (hN:G.closed=χ->∃s,w'.heap[X.cN]?=φ (.chan 0 #[] χ s s χ)):ø X.P x x' w' y=y:=by
 obtain⟨s,hL⟩:=hL;rcases h.kinds hy with e| ⟨n,e⟩ | ⟨g,z,hc,e⟩ | ⟨g,z,e⟩ | ⟨g,v,z,_,hc,e⟩ | ⟨g,v,z,_,e⟩
 ·exact woken_run e
 ·exact woken_quits e
 ·obtain⟨s',hN⟩:=hN hc
  rw[e];exact woken_recv_open _ _ hN
 ·rw[e];exact woken_recv_open _ _ hL
 ·obtain⟨s',hN⟩:=hN hc
  rw[e];exact woken_send_open _ _ hN
 ·rw[e];exact woken_send_open _ _ hL
def FI.arI(h:FI X wb gs w t G):∃(k:Nat) (y:ϐ),gs[k]?=φ y/\y.status=.running:=by
 obtain⟨x,hx,hs⟩:=h.main;unfold mW at hs;cases e:G.mp with
 |spawn=>rw[e] at hs;obtain⟨M,aO,_,hr,_⟩:=hs;exact⟨0,x,hx,hr⟩
 |walk f aB=>rw[e] at hs;obtain⟨M,aO,y',_,hr,_⟩:=hs;exact⟨0,x,hx,hr.2.2.2⟩
 |dt f aB=>
  have jA:=h.EF ⟨f,aB,e⟩;have br:=h.mc.1 ⟨f,aB,.inr e⟩;obtain⟨y,hy,hc⟩:=h.cl br;have dv:=h.cnt;unfold CSit at hc;unfold tn at dv;cases ec:G.cp with
  |no=>rw[ec] at br;cases br
  |quit=>unfold Gh.closed at jA;rw[ec] at jA;cases jA
  |walk r=>rw[ec] at hc;obtain⟨M,aO,_,hr,_⟩:=hc;exact⟨_,y,hy,hr⟩
  |dt r=>
   rw[ec] at hc dv;obtain⟨r',M,aO,y',z,JO,_⟩:=hc;simp only at dv;obtain⟨i,hi,hq⟩:=asf G.st X.n (by omega)
   have hj:=h.jc br;obtain⟨x2,Gw,fA⟩:=h.wk i (by omega)
   unfold WSit at fA;cases es:G.st i with
   |no=>rw[es] at fA;exact fA.elim
   |qI=>rw[es] at fA;obtain⟨M,aO,_,hr,_⟩:=fA;exact⟨_,x2,Gw,hr⟩
   |oO=>rw[es] at fA;obtain⟨M,aO,_,hr,_⟩:=fA;exact⟨_,x2,Gw,hr⟩
   |pb=>exact absurd es (h.sU ⟨f,aB,e⟩ i hi)
   |oM=>exact absurd es (h.Co ⟨r,ec⟩ i hi)
   |quit=>exact absurd es hq
def FI.at(h:FI X wb gs w t G)(d:Nat):FI X wb gs (w.at d) t G:=
 ⟨h.size,h.n0,h.jn,h.jc,h.mc,h.AE,h.main,h.wk,h.cl,h.old,h.tV,h.sK,h.cnt,h.aB,h.sU,h.Co,h.EF,h.wt.at d,h.rj,h.rl,h.neq,⟨h.base.size,h.base.tape,h.base.os,h.base.e⟩,h.Cq,h.zO,h.kq,h.EE,h.IQ⟩
def Yb(h:FI X wb gs w t G){x':ϐ}(hL:∃s,w'.heap[X.cL]?=φ (.chan 0 #[] χ s s χ))
 (hN:G.closed=χ->∃s,w'.heap[X.cN]?=φ (.chan 0 #[] χ s s χ))(au:i≠k):((gs.map (ø X.P x x' w')).setIfInBounds k x')[i]?=gs[i]?:=by
 rw[ċ (Λ au),Ć]
 cases e:gs[i]? with
 |none=>rfl
 |some y=>rw[ç,h.woken e hL hN]
def QX{f:ϐ->ϐ}(hk:k<gs.size)(x':ϐ):((gs.map f).setIfInBounds k x')[k]?=φ x':=by
 simp[hk]
def Wd(X:Pm)(G:Gh)(k:Nat)(x:ϐ):Prop:=
 (k=0/\mW X G x)\/(∃i,i<G.j/\k=X.N0+i/\WSit X G i x)\/(k=X.N0+X.n/\G.cp.nK=χ/\CSit X G x)
def FI.own(h:FI X wb gs w t G){k:Nat}{x g':ϐ}{j:rQ}{w':Ψ}{es:Array Event}(hk:gs[k]?=φ x)(uM:G.act k=φ j)(hd:j4 j.M w w' es)(T':Tree)(fn:FuncId)(pos:String)
 (xq:Wd X {G with act:=kj G.act k (φ ⟨j.M.grow w w',g',w'⟩),tr:=upd G.tr k T'} k g'):
 FI X wb ((gs.map (ø X.P x g' w')).setIfInBounds k g') w' (t++ħ k fn pos es) {G with act:=kj G.act k (φ ⟨j.M.grow w w',g',w'⟩),tr:=upd G.tr k T'}:=by
 have aj:k<gs.size:=(Ϝ.1 hk).1
 have MD:∃s,w'.heap[X.cL]?=φ (.chan 0 #[] χ s s χ):=by
  obtain⟨s,e⟩:=h.rj;exact⟨s,by rw[hd.kept X.cL h.wt.hL λhO=>(h.wt.low k j uM _ (.inl hO)).2.1 rfl];exact e⟩
 have DR:∃s,w'.heap[X.cN]?=φ (.chan 0 #[] G.closed s s χ):=by
  obtain⟨s,e⟩:=h.rl;exact⟨s,by rw[hd.kept X.cN h.wt.hN λhO=>(h.wt.low k j uM _ (.inl hO)).2.2 rfl];exact e⟩
 have RD:G.closed=χ->∃s,w'.heap[X.cN]?=φ (.chan 0 #[] χ s s χ):=λe=>by rw[e] at DR;exact DR
 have zN:∀ {i},i≠k->((gs.map (ø X.P x g' w')).setIfInBounds k g')[i]?=gs[i]?:=λau=>Yb h MD RD au
 have Dx:((gs.map (ø X.P x g' w')).setIfInBounds k g')[k]?=φ g':=QX aj g';have aL:((gs.map (ø X.P x g' w')).setIfInBounds k g').size=gs.size:=by simp
 have Sa:¬ (0<k/\k<X.N0):=λ⟨a,b⟩=>by rw[h.tV k a b] at uM;cases uM
 have ZJ:∀i,i<X.n->G.st i=.quit->X.N0+i≠k:=by
  intro i hi hq e;obtain⟨y,_,hs⟩:=h.wk i (h.aaU hi (by rw[hq];simp))
  unfold WSit at hs;rw[hq] at hs;rw[<-e,hs.1] at uM;cases uM
 have ops:∀op∈ħ k fn pos es,∃e∈es,op={g:=k,fn,pos,act:=.ofEvent e}:=λop ae=>Go.Conc.mem_ofEvents ae
 have UO:∀ {i a},Ö (t++ħ k fn pos es) i=φ a->(i<t.size/\Ö t i=φ a/\(t++ħ k fn pos es).g? i= t.g? i)\/((t++ħ k fn pos es).g? i=φ k/\∃b,xS a.loc b/\(j.M.grow w w').has b/\Knows (t++ħ k fn pos es) k i):=by
  intro i a ha;obtain⟨op,ae,cC⟩:=ć ha;rcases ñ ae with⟨hi,bJ⟩ | ⟨_,fK⟩
  ·exact .inl ⟨hi,by rw[ĕ bJ];exact cC,by simp[Ð,ae,bJ]⟩
  ·obtain⟨e,he,rfl⟩:=ops op fK
   obtain⟨b,b1,b2,_,_⟩:=UL (hd.ev e he) cC;exact .inr ⟨by simp[Ð,ae],b,b1,b2,knows_own ae⟩
 have oD:∀b,(j.M.grow w w').has b->b≠X.cN:=by
  intro b hb;rcases hb with(hb|hb) |hb
  ·exact(h.wt.low k j uM b (.inl hb)).2.2
  ·have:=h.wt.hN;omega
  ·exact(h.wt.low k j uM b (.inr hb)).2.2
 refine⟨aL.trans h.size,h.n0,h.jn,h.jc,h.mc,h.AE,?_,λi hi=>?_,λhc=>?_,λg y h1 h2 hy=>?_,λg h1 h2=>?_,λg hg=>?_,h.cnt,h.aB,h.sU,h.Co,h.EF,h.wt.own uM hd fn pos,MD,DR,h.neq,
  ⟨ϣ h.base.size hd.size,hd.tape.trans h.base.tape,hd.os.trans h.base.os,hd.e.trans h.base.e⟩,λi a ha hm g hg qp=>?_,λi g hg=>?_,λi hi hq=>?_,λhc i a ha=>?_,λhc=>?_⟩
 ·by_cases e:k=0
  ·subst e
   rcases xq with⟨_,hs⟩ | ⟨i,_,e,_⟩ | ⟨e,_⟩
   ·exact⟨g',Dx,hs⟩
   ·have:=h.n0;omega
   ·have:=h.n0;omega
  ·obtain⟨y,hy,hs⟩:=h.main
   refine⟨y,by rw[zN (Λ e)];exact hy,?_⟩
   simp only[mW,bR _ _ (Λ e),upd_ne _ _ (Λ e)];exact hs
 ·by_cases e:k=X.N0+i
  ·subst e
   rcases xq with⟨e,_⟩ | ⟨i',_,e,hs⟩ | ⟨e,hc,_⟩
   ·have:=h.n0;omega
   ·obtain rfl:i'=i:=by omega
    exact⟨g',Dx,hs⟩
   ·have:=h.jn
    have BN:i<G.j:=hi;omega
  ·obtain⟨y,hy,hs⟩:=h.wk i hi
   refine⟨y,by rw[zN (Λ e)];exact hy,?_⟩
   simp only[WSit,bR _ _ (Λ e),upd_ne _ _ (Λ e)];exact hs
 ·by_cases e:k=X.N0+X.n
  ·subst e
   rcases xq with⟨e,_⟩ | ⟨i',bG,e,hs⟩ | ⟨_,_,hs⟩
   ·have:=h.n0;omega
   ·have:=h.jn;simp only at bG;omega
   ·exact⟨g',Dx,hs⟩
  ·obtain⟨y,hy,hs⟩:=h.cl hc
   refine⟨y,by rw[zN (Λ e)];exact hy,?_⟩
   simp only[CSit,bR _ _ (Λ e),upd_ne _ _ (Λ e)];exact hs
 ·have e:g≠k:=λe=>Sa ⟨by omega,by omega⟩
  rw[zN e] at hy;exact h.old g y h1 h2 hy
 ·have e:g≠k:=λe=>Sa ⟨by omega,by omega⟩
  simp only[bR _ _ e];exact h.tV g h1 h2
 ·rw[aL] at hg
  simp only[bR _ _ (show g≠k by omega)]
  exact h.sK g hg
 ·rcases UO ha with⟨_,h1,h2⟩ | ⟨h1,_,_,_,h2⟩
  ·rw[h2] at hg
   exact(h.Cq i a h1 hm g hg qp).app _
  ·rw[h1] at hg
   obtain rfl:=Ϟ hg;obtain rfl:k=0:=by
    apply Ø;intro h0;exact Sa ⟨by omega,qp⟩
   exact h2
 ·rw[aL]
  unfold Ð at hg;obtain⟨op,ae,e⟩:=Ă.1 hg;rcases ñ ae with⟨_,bJ⟩ | ⟨_,fK⟩
  ·exact h.zO i g (by simp[Ð,bJ,e])
  ·obtain⟨_,_,rfl⟩:=ops op fK
   simp only at e;omega
 ·refine(h.kq i hi hq).app λop ae e=>?_
  obtain⟨_,_,rfl⟩:=ops op ae;exact absurd e.symm (ZJ i hi hq)
 ·rcases UO ha with⟨_,h1,_⟩ | ⟨_,b,h1,h2,_⟩
  ·exact h.EE hc i a h1
  ·intro e
   have:xS a.loc X.cN:=.inl e;obtain rfl:=Tr h1 this;exact oD _ h2 rfl
 ·obtain⟨c,z,c1,c2,c3,c4⟩:=h.IQ hc
  refine⟨c,z,by rw[Ae6 (Ae7 c1)];exact c1,c2,c3,λi a ha g hg qm=>?_⟩
  rcases UO ha with⟨_,h1,h2⟩ | ⟨h1,_⟩
  ·rw[h2] at hg
   exact(c4 i a h1 g hg qm).app _
  ·exfalso
   rw[h1] at hg;obtain rfl:=Ϟ hg;rcases h.zi aj with e|e| ⟨i',bG,e⟩ | ⟨e,hn⟩
   ·have:=h.n0;omega
   ·omega
   ·exact ZJ i' (by have:=h.jn;omega) (h.LF hc i' (by have:=h.jn;omega)) e.symm
   ·obtain⟨y,_,hs⟩:=h.cl hn
    unfold CSit at hs;unfold Gh.closed at hc;cases ec:G.cp with
    |quit=>rw[ec] at hs;rw[e,hs.1] at uM;cases uM
    |_=>rw[ec] at hc;cases hc
def FI.apQ(h:FI X wb gs w t G){g':ϐ}(hk:gs[k]?=φ x)(xq:(0<k/\k<X.N0)\/(∃i,i<G.j/\k=X.N0+i/\G.st i=.quit)\/(k=X.N0+X.n/\G.closed=θ))(hq:Ĝ X.P m g'):
 FI X wb ((gs.map (ø X.P x g' w)).setIfInBounds k g') w t {G with q:=upd G.q k m}:=by
 have aj:k<gs.size:=(Ϝ.1 hk).1
 have RD:G.closed=χ->∃s,w.heap[X.cN]?=φ (.chan 0 #[] χ s s χ):=λe=>by have:=h.rl;rw[e] at this;exact this
 have zN:∀ {i},i≠k->((gs.map (ø X.P x g' w)).setIfInBounds k g')[i]?=gs[i]?:=λau=>Yb h h.rj RD au
 have Dx:((gs.map (ø X.P x g' w)).setIfInBounds k g')[k]?=φ g':=QX aj g';have aL:((gs.map (ø X.P x g' w)).setIfInBounds k g').size=gs.size:=by simp
 have nV:=h.n0;have yq:=h.jn;have oC:k≠0:=by rcases xq with e| ⟨i,_,e,_⟩ | ⟨e,_⟩<;>omega
 refine⟨aL.trans h.size,h.n0,h.jn,h.jc,h.mc,h.AE,?_,λi hi=>?_,λhc=>?_,λg y h1 h2 hy=>?_,h.tV,λg hg=>h.sK g (by rw[aL] at hg;exact hg),h.cnt,h.aB,h.sU,h.Co,h.EF,h.wt,h.rj,h.rl,h.neq,h.base,h.Cq,λi g hg=>by rw[aL];exact h.zO i g hg,h.kq,h.EE,h.IQ⟩
 ·obtain⟨y,hy,hs⟩:=h.main
  exact⟨y,by rw[zN (Λ oC)];exact hy,hs⟩
 ·by_cases e:k=X.N0+i
  ·subst e
   rcases xq with e| ⟨i',_,e,aW⟩ | ⟨e,_⟩
   ·omega
   ·obtain rfl:i'=i:=by omega
    refine⟨g',Dx,?_⟩
    obtain⟨y,_,hs⟩:=h.wk i' hi;unfold WSit at hs |-
    simp only;rw[aW] at hs |-
    exact⟨hs.1,by simp only[upd_same];exact hq⟩
   ·have BN:i<G.j:=hi
    omega
  ·obtain⟨y,hy,hs⟩:=h.wk i hi
   refine⟨y,by rw[zN (Λ e)];exact hy,?_⟩
   simp only[WSit,upd_ne _ _ (Λ e)];exact hs
 ·by_cases e:k=X.N0+X.n
  ·subst e
   rcases xq with e| ⟨i',bG,e,_⟩ | ⟨_,mZ⟩
   ·omega
   ·have BN:i'<G.j:=bG
    omega
   ·refine⟨g',Dx,?_⟩
    obtain⟨y,_,hs⟩:=h.cl hc;unfold Gh.closed at mZ;cases ec:G.cp with
    |quit=>
     unfold CSit at hs |-
     simp only;rw[ec] at hs;exact⟨hs.1,by simp only[upd_same];exact hq⟩
    |_=>rw[ec] at mZ;cases mZ
  ·obtain⟨y,hy,hs⟩:=h.cl hc
   refine⟨y,by rw[zN (Λ e)];exact hy,?_⟩
   simp only[CSit,upd_ne _ _ (Λ e)];exact hs
 ·by_cases e:g=k
  ·subst e
   rw[Dx] at hy;obtain rfl:=Ϟ hy;simp only[upd_same];exact hq
  ·rw[zN e] at hy
   simp only[upd_ne _ _ e];exact h.old g y h1 h2 hy
end
def GG:∀(n:Nat) (l:List Nat),l.Nodup->(∀x∈l,x<n)->l.length<=n
 |0,l,_,h=>by
  cases l with
  |nil=>exact ϊ _
  |cons a l=>exact absurd (h a (by simp)) (by omega)
 |n+1,l,hn,h=>by
  by_cases hm:n∈l
  ·have h1:=GG n (l.erase n) (hn.erase n) λx hx=>by
    have h2:=(List.Nodup.mem_erase_iff hn).1 hx;have:=h x h2.2;have:=h2.1;omega
   rw[List.length_erase_of_mem hm] at h1;omega
  ·have:=GG n l hn λx hx=>by
    have h2:=h x hx;have:x≠n:=λe=>hm (e▸hx)
    omega
   omega
def vd{a b:ϐ}{c c':Array CommCase}{s s':CommShape}(h:Ï a c s=Ï b c' s'):c=c'/\s=s'/\∀v,Ϩ a v=Ϩ b v:=by
 obtain⟨f1,k1,s1,d1,o1⟩:=a;obtain⟨f2,k2,s2,d2,o2⟩:=b;simp only[Ï,Goroutine.mk.injEq,Option.some.injEq,Prod.mk.injEq] at h;obtain⟨h1,h2,_,h4,h5,h6⟩:=h;subst h1 h2 h4;exact⟨h5,h6,λv=>rfl⟩
def rE{a b:ϐ}{c:Array CommCase}{s:CommShape}(h:Ï a c s=b)(hb:b.status=.running):False:=by
 rw[<-h] at hb;cases hb
def Ob{v':υ}(h:#[ö c v z]=#[ö c' v' z']):c=c'/\v=v':=by
 simp[ö] at h;exact⟨h.1,h.2.1⟩
def apS(h:#[ß c z]=#[ß c' z']):c=c':=by
 simp[ß] at h;exact h.1
def Cn(h:#[ö c v z]=#[ß c' z']):False:=by simp[ö,ß] at h
section
variable {X:Pm}{wb:Ψ}{gs:Array ϐ}{w:Ψ}{t:Â}{G:Gh}
def FI.P5(h:FI X wb gs w t G){sh:CommShape}(hk:gs[k]?=φ (Ï g #[ö X.cN v z] sh)):
 ∃i M aO y,i<G.j/\k=X.N0+i/\G.st i=.pb/\v=X.val i/\sh=.send/\X.cR i=θ/\G.act k=φ ⟨M,y,aO⟩/\(∀v,Ϩ g v=Ϩ y v)/\Walk X.P χ (W2 X) M (Ϩ y ω) aO:=by
 have au:=h.neq;rcases h.zi (Ϝ.1 hk).1 with rfl| ⟨h1,h2⟩ | ⟨i,hi,rfl⟩ | ⟨rfl,hc⟩
 ·obtain⟨x,hx,hs⟩:=h.main
  rw[hk] at hx;have hx:=(Ϟ hx);unfold mW at hs;cases e:G.mp with
  |spawn=>rw[e] at hs;obtain⟨M,aO,_,hr,_⟩:=hs;exact(rE hx hr).elim
  |walk f aB=>rw[e] at hs;obtain⟨M,aO,y',_,hr,_⟩:=hs;exact(rE hx hr.2.2.2).elim
  |dt f aB=>
   rw[e] at hs;obtain⟨M,aO,y',z',_,hr,_⟩:=hs;rw[hr] at hx;exact(Cn (vd hx).1).elim
 ·have:=h.old k _ h1 h2 hk
  exact(this.status.elim (λe=>by cases e) λe=>by cases e)
 ·obtain⟨x,hx,hs⟩:=h.wk i hi
  rw[hk] at hx;have hx:=(Ϟ hx);unfold WSit at hs;cases e:G.st i with
  |no=>rw[e] at hs;exact hs.elim
  |qI=>rw[e] at hs;obtain⟨M,aO,_,hr,_⟩:=hs;exact(rE hx hr).elim
  |oO=>rw[e] at hs;obtain⟨M,aO,_,hr,_⟩:=hs;exact(rE hx hr).elim
  |pb=>
   rw[e] at hs;obtain⟨M,aO,y',z',ha,hr,hn,hw⟩:=hs;rw[hr] at hx;obtain⟨e1,e2,e3⟩:=vd hx;exact⟨i,M,aO,y',hi,rfl,e,(Ob e1).2,e2,hn,ha,e3,hw⟩
  |oM=>
   rw[e] at hs;obtain⟨M,aO,y',z',ha,hr,hw⟩:=hs;rw[hr] at hx;exact absurd (Ob (vd hx).1).1 (Λ au)
  |quit=>
   rw[e] at hs;rw[<-hx] at hs;exact(hs.2.status.elim (λe=>by cases e) λe=>by cases e)
 ·obtain⟨x,hx,hs⟩:=h.cl hc
  rw[hk] at hx;have hx:=(Ϟ hx);unfold CSit at hs;cases e:G.cp with
  |no=>rw[e] at hs;exact hs.elim
  |walk r=>rw[e] at hs;obtain⟨M,aO,_,hr,_⟩:=hs;exact(rE hx hr).elim
  |dt r=>
   rw[e] at hs;obtain⟨r',M,aO,y',z',_,_,hr,_⟩:=hs;rw[hr] at hx;exact(Cn (vd hx).1).elim
  |quit=>
   rw[e] at hs;rw[<-hx] at hs;exact(hs.2.status.elim (λe=>by cases e) λe=>by cases e)
def FI.Wq(h:FI X wb gs w t G){sh:CommShape}(hk:gs[k]?=φ (Ï g #[ö X.cL v z] sh)):
 ∃i M aO y,i<G.j/\k=X.N0+i/\G.st i=.oM/\v=.bool θ/\sh=.send/\G.act k=φ ⟨M,y,aO⟩/\(∀v,Ϩ g v=Ϩ y v)/\∃m,Ĝ X.P m (Ϩ y ω):=by
 have au:=h.neq;rcases h.zi (Ϝ.1 hk).1 with rfl| ⟨h1,h2⟩ | ⟨i,hi,rfl⟩ | ⟨rfl,hc⟩
 ·obtain⟨x,hx,hs⟩:=h.main
  rw[hk] at hx;have hx:=(Ϟ hx);unfold mW at hs;cases e:G.mp with
  |spawn=>rw[e] at hs;obtain⟨M,aO,_,hr,_⟩:=hs;exact(rE hx hr).elim
  |walk f aB=>rw[e] at hs;obtain⟨M,aO,y',_,hr,_⟩:=hs;exact(rE hx hr.2.2.2).elim
  |dt f aB=>
   rw[e] at hs;obtain⟨M,aO,y',z',_,hr,_⟩:=hs;rw[hr] at hx;exact(Cn (vd hx).1).elim
 ·have:=h.old k _ h1 h2 hk
  exact(this.status.elim (λe=>by cases e) λe=>by cases e)
 ·obtain⟨x,hx,hs⟩:=h.wk i hi
  rw[hk] at hx;have hx:=(Ϟ hx);unfold WSit at hs;cases e:G.st i with
  |no=>rw[e] at hs;exact hs.elim
  |qI=>rw[e] at hs;obtain⟨M,aO,_,hr,_⟩:=hs;exact(rE hx hr).elim
  |oO=>rw[e] at hs;obtain⟨M,aO,_,hr,_⟩:=hs;exact(rE hx hr).elim
  |pb=>
   rw[e] at hs;obtain⟨M,aO,y',z',ha,hr,hn,hw⟩:=hs;rw[hr] at hx;exact absurd (Ob (vd hx).1).1 au
  |oM=>
   rw[e] at hs;obtain⟨M,aO,y',z',ha,hr,hw⟩:=hs;rw[hr] at hx;obtain⟨e1,e2,e3⟩:=vd hx;exact⟨i,M,aO,y',hi,rfl,e,(Ob e1).2,e2,ha,e3,hw⟩
  |quit=>
   rw[e] at hs;rw[<-hx] at hs;exact(hs.2.status.elim (λe=>by cases e) λe=>by cases e)
 ·obtain⟨x,hx,hs⟩:=h.cl hc
  rw[hk] at hx;have hx:=(Ϟ hx);unfold CSit at hs;cases e:G.cp with
  |no=>rw[e] at hs;exact hs.elim
  |walk r=>rw[e] at hs;obtain⟨M,aO,_,hr,_⟩:=hs;exact(rE hx hr).elim
  |dt r=>
   rw[e] at hs;obtain⟨r',M,aO,y',z',_,_,hr,_⟩:=hs;rw[hr] at hx;exact(Cn (vd hx).1).elim
  |quit=>
   rw[e] at hs;rw[<-hx] at hs;exact(hs.2.status.elim (λe=>by cases e) λe=>by cases e)
def abb(h:FI X wb gs w t G)(hy:gs[k]?=φ y)(au:Š y X.cN χ≠ []):k=0/\∃f aB,G.mp=.dt f aB:=by
 have xk:=h.neq;rcases h.zi (Ϝ.1 hy).1 with rfl| ⟨h1,h2⟩ | ⟨i,hi,rfl⟩ | ⟨rfl,hc⟩
 ·refine⟨rfl,?_⟩
  obtain⟨x,hx,hs⟩:=h.main;rw[hy] at hx;obtain rfl:=Ϟ hx;unfold mW at hs;cases e:G.mp with
  |spawn=>rw[e] at hs;obtain⟨M,aO,_,hr,_⟩:=hs;exact absurd (Ė (by rw[hr];simp) _ _) au
  |walk f aB=>rw[e] at hs;obtain⟨M,aO,y',_,hr,_⟩:=hs;exact absurd (Ė (by rw[hr.2.2.2];simp) _ _) au
  |dt f aB=>exact⟨f,aB,rfl⟩
 ·have:=h.old k _ h1 h2 hy
  exact absurd (Ė (by rcases this.status with e|e<;>rw[e]<;>simp) _ _) au
 ·exfalso
  rcases h.kinds hy with e| ⟨n,e⟩ | ⟨g,z,_,e⟩ | ⟨g,z,e⟩ | ⟨g,v,z,_,_,e⟩ | ⟨g,v,z,_,e⟩
  ·exact au (Ė (by rw[e];simp) _ _)
  ·exact au (Ė (by rcases e.status with e|e<;>rw[e]<;>simp) _ _)
  ·
   obtain⟨x,hx,hs⟩:=h.wk i hi;rw[hy] at hx;obtain rfl:=Ϟ hx;unfold WSit at hs;cases es:G.st i with
   |no=>rw[es] at hs;exact hs.elim
   |qI=>rw[es] at hs;obtain⟨M,aO,_,hr,_⟩:=hs;exact rE e.symm hr
   |oO=>rw[es] at hs;obtain⟨M,aO,_,hr,_⟩:=hs;exact rE e.symm hr
   |pb=>rw[es] at hs;obtain⟨M,aO,y',z',_,hr,_⟩:=hs;rw[hr] at e;exact Cn (vd e).1
   |oM=>rw[es] at hs;obtain⟨M,aO,y',z',_,hr,_⟩:=hs;rw[hr] at e;exact Cn (vd e).1
   |quit=>rw[es] at hs;rw[e] at hs;exact(hs.2.status.elim (λe=>by cases e) λe=>by cases e)
  ·rw[e,Afa,if_neg xk] at au;exact au rfl
  ·rw[e,Afb] at au;exact au rfl
  ·rw[e,Afb] at au;exact au rfl
 ·exfalso
  obtain⟨x,hx,hs⟩:=h.cl hc;rw[hy] at hx;obtain rfl:=Ϟ hx;unfold CSit at hs;cases e:G.cp with
  |no=>rw[e] at hs;exact hs.elim
  |walk r=>rw[e] at hs;obtain⟨M,aO,_,hr,_⟩:=hs;exact au (Ė (by rw[hr];simp) _ _)
  |dt r=>
   rw[e] at hs;obtain⟨r',M,aO,y',z',_,_,hr,_⟩:=hs;rw[hr,Afa,if_neg xk] at au;exact au rfl
  |quit=>rw[e] at hs;exact au (Ė (by rcases hs.2.status with e|e<;>rw[e]<;>simp) _ _)
def aba(h:FI X wb gs w t G)(hy:gs[k]?=φ y)(au:Š y X.cL χ≠ []):k=X.N0+X.n/\∃r,G.cp=.dt r:=by
 have xk:=h.neq;rcases h.kinds hy with e| ⟨n,e⟩ | ⟨g,z,_,e⟩ | ⟨g,z,e⟩ | ⟨g,v,z,_,_,e⟩ | ⟨g,v,z,_,e⟩
 ·exact absurd (Ė (by rw[e];simp) _ _) au
 ·exact absurd (Ė (by rcases e.status with e|e<;>rw[e]<;>simp) _ _) au
 ·rw[e,Afa,if_neg (Λ xk)] at au;exact absurd rfl au
 ·rcases h.zi (Ϝ.1 hy).1 with rfl| ⟨h1,h2⟩ | ⟨i,hi,rfl⟩ | ⟨rfl,hc⟩
  ·exfalso
   obtain⟨x,hx,hs⟩:=h.main;rw[hy] at hx;obtain rfl:=Ϟ hx;unfold mW at hs;cases em:G.mp with
   |spawn=>rw[em] at hs;obtain⟨M,aO,_,hr,_⟩:=hs;exact rE e.symm hr
   |walk f aB=>rw[em] at hs;obtain⟨M,aO,y',_,hr,_⟩:=hs;exact rE e.symm hr.2.2.2
   |dt f aB=>
    rw[em] at hs;obtain⟨M,aO,y',z',_,hr,_⟩:=hs;rw[hr] at e;exact xk (apS (vd e).1).symm
  ·exfalso
   have:=h.old k _ h1 h2 hy;rw[e] at this;exact(this.status.elim (λe=>by cases e) λe=>by cases e)
  ·exfalso
   obtain⟨x,hx,hs⟩:=h.wk i hi;rw[hy] at hx;obtain rfl:=Ϟ hx;unfold WSit at hs;cases es:G.st i with
   |no=>rw[es] at hs;exact hs.elim
   |qI=>rw[es] at hs;obtain⟨M,aO,_,hr,_⟩:=hs;exact rE e.symm hr
   |oO=>rw[es] at hs;obtain⟨M,aO,_,hr,_⟩:=hs;exact rE e.symm hr
   |pb=>rw[es] at hs;obtain⟨M,aO,y',z',_,hr,_⟩:=hs;rw[hr] at e;exact Cn (vd e).1
   |oM=>rw[es] at hs;obtain⟨M,aO,y',z',_,hr,_⟩:=hs;rw[hr] at e;exact Cn (vd e).1
   |quit=>rw[es] at hs;rw[e] at hs;exact(hs.2.status.elim (λe=>by cases e) λe=>by cases e)
  ·refine⟨rfl,?_⟩
   obtain⟨x,hx,hs⟩:=h.cl hc;rw[hy] at hx;obtain rfl:=Ϟ hx;unfold CSit at hs;cases ec:G.cp with
   |no=>rw[ec] at hs;exact hs.elim
   |walk r=>rw[ec] at hs;obtain⟨M,aO,_,hr,_⟩:=hs;exact(rE e.symm hr).elim
   |dt r=>exact⟨r,rfl⟩
   |quit=>rw[ec] at hs;rw[e] at hs;exact(hs.2.status.elim (λe=>by cases e) λe=>by cases e)
 ·rw[e,Afb] at au;exact absurd rfl au
 ·rw[e,Afb] at au;exact absurd rfl au
def TT(h:FI X wb gs w t G)(hy:gs[k]?=φ y)(au:m∈Š y X.cN θ):m=0/\∃g v z,y=Ï g #[ö X.cN v z] .send:=by
 have xk:=h.neq;rcases h.kinds hy with e| ⟨n,e⟩ | ⟨g,z,_,e⟩ | ⟨g,z,e⟩ | ⟨g,v,z,_,_,e⟩ | ⟨g,v,z,_,e⟩
 ·rw[Ė (by rw[e];simp)] at au;cases au
 ·rw[Ė (by rcases e.status with e|e<;>rw[e]<;>simp)] at au;cases au
 ·rw[e,Afc] at au;cases au
 ·rw[e,Afc] at au;cases au
 ·rw[e,ŵ,if_pos rfl] at au
  exact⟨by simpa using au,g,v,z,e⟩
 ·rw[e,ŵ,if_neg xk] at au;cases au
def abc(h:FI X wb gs w t G)(hy:gs[k]?=φ y)(au:m∈Š y X.cL θ):m=0/\∃g v z,y=Ï g #[ö X.cL v z] .send:=by
 have xk:=h.neq;rcases h.kinds hy with e| ⟨n,e⟩ | ⟨g,z,_,e⟩ | ⟨g,z,e⟩ | ⟨g,v,z,_,_,e⟩ | ⟨g,v,z,_,e⟩
 ·rw[Ė (by rw[e];simp)] at au;cases au
 ·rw[Ė (by rcases e.status with e|e<;>rw[e]<;>simp)] at au;cases au
 ·rw[e,Afc] at au;cases au
 ·rw[e,Afc] at au;cases au
 ·rw[e,ŵ,if_neg (Λ xk)] at au;cases au
 ·rw[e,ŵ,if_pos rfl] at au
  exact⟨by simpa using au,g,v,z,e⟩
def FI.EW(h:FI X wb gs w t G){aY:Array ϐ}{G':Gh}(aL:aY.size=gs.size)(hj:G'.j=G.j)(br:G'.cp.nK=G.cp.nK)
 (yA:(∃f aB,G'.mp=.walk f aB\/G'.mp=.dt f aB)↔∃f aB,G.mp=.walk f aB\/G.mp=.dt f aB)(aW:∀i,i<X.n->(G'.st i=.no↔G.st i=.no))
 (Sg:∃x,aY[0]?=φ x/\mW X G' x)(Cg:∀i,i<G.j->∃x,aY[X.N0+i]?=φ x/\WSit X G' i x)(mZ:G.cp.nK=χ->∃x,aY[X.N0+X.n]?=φ x/\CSit X G' x)
 (hold:∀g,0<g->g<X.N0->aY[g]?=gs[g]?/\G'.q g=G.q g/\G'.act g=ν)(yo:∀g,gs.size<=g->G'.act g=ν)(dv:tn X G')(cB:tt X G')
 (D6:(∃f aB,G'.mp=.dt f aB)->∀i,i<X.n->G'.st i≠ .pb)(akN:(∃r,G'.cp=.dt r)->∀i,i<X.n->G'.st i≠ .oM)(akO:(∃f aB,G'.mp=.dt f aB)->G'.closed=χ)
 (Am:WT X.cL X.cN w' (t++u) G'.act)(MD:∃s,w'.heap[X.cL]?=φ (.chan 0 #[] χ s s χ))(DR:∃s,w'.heap[X.cN]?=φ (.chan 0 #[] G'.closed s s χ))(hb:Base wb w')
 (hu:∀op∈u,op.act.touch? =ν/\op.g<gs.size)(JC:∀i,i<X.n->G'.st i=.quit->zF (t++u) (X.N0+i) (X.N0+X.n))(YE:G'.closed=G.closed):FI X wb aY w' (t++u) G':=by
 have old:∀ {k a},Ö (t++u) k=φ a->Ö t k=φ a/\(t++u).g? k= t.g? k:=by
  intro k a ha;obtain⟨op,ae,cC⟩:=ć ha;rcases ñ ae with⟨_,bJ⟩ | ⟨_,fK⟩
  ·exact⟨by rw[ĕ bJ];exact cC,by simp[Ð,ae,bJ]⟩
  ·rw[(hu op fK).1] at cC;cases cC
 refine⟨by rw[aL,hj,br];exact h.size,h.n0,by rw[hj];exact h.jn,by rw[br,hj];exact h.jc,by rw[yA,br];exact h.mc,λi hi=>by rw[aW i hi,hj];exact h.AE i hi,Sg,by rw[hj];exact Cg,by rw[br];exact mZ,
  λg x h1 h2 hx=>?_,λg h1 h2=>(hold g h1 h2).2.2,λg hg=>yo g (by rw[aL] at hg;exact hg),dv,cB,D6,akN,akO,Am,MD,DR,h.neq,hb,λk a ha hm g hg aj=>?_,λk g hg=>?_,JC,λhc k a ha=>?_,λhc=>?_⟩
 ·obtain⟨e1,e2,_⟩:=hold g h1 h2
  rw[e2];rw[e1] at hx;exact h.old g x h1 h2 hx
 ·obtain⟨a1,a2⟩:=old ha
  rw[a2] at hg;exact(h.Cq k a a1 hm g hg aj).app u
 ·rw[aL]
  unfold Ð at hg;obtain⟨op,ae,e⟩:=Ă.1 hg;rcases ñ ae with⟨_,bJ⟩ | ⟨_,fK⟩
  ·exact h.zO k g (by simp[Ð,bJ,e])
  ·rw[<-e];exact(hu op fK).2
 ·rw[YE] at hc
  exact h.EE hc k a (old ha).1
 ·rw[YE] at hc
  obtain⟨c,z,c1,c2,c3,c4⟩:=h.IQ hc;refine⟨c,z,by rw[Ae6 (Ae7 c1)];exact c1,c2,c3,λk a ha g hg qm=>?_⟩
  obtain⟨a1,a2⟩:=old ha;rw[a2] at hg;exact(c4 k a a1 g hg qm).app u
end
end Go.Sim
namespace Go.Sim
open Go Go.Conc
open Go.ConcN (sumTo upd sumTo_upd upd_ne upd_same sumTo_congr)
section
variable {X:Pm}{wb:Ψ}{gs:Array ϐ}{w:Ψ}{t:Â}{G:Gh}
def mW.congr{G':Gh}(h1:G'.mp=G.mp)(hj:G'.j=G.j)(h2:G'.act 0=G.act 0)(h3:G'.tr 0=G.tr 0)(h:mW X G x):mW X G' x:=by
 unfold mW at *;rw[h1,hj,h2,h3];exact h
def WSit.congr{G':Gh}(h1:G'.st i=G.st i)(h2:G'.act (X.N0+i)=G.act (X.N0+i))(h3:G'.tr (X.N0+i)=G.tr (X.N0+i))(h4:G'.q (X.N0+i)=G.q (X.N0+i))(h:WSit X G i x):WSit X G' i x:=by
 unfold WSit at *;rw[h1,h2,h3,h4];exact h
def CSit.congr{G':Gh}(h1:G'.cp=G.cp)(h2:G'.act (X.N0+X.n)=G.act (X.N0+X.n))(h3:G'.tr (X.N0+X.n)=G.tr (X.N0+X.n))(h4:G'.q (X.N0+X.n)=G.q (X.N0+X.n))(h:CSit X G x):CSit X G' x:=by
 unfold CSit at *;rw[h1,h2,h3,h4];exact h
def one_set:(gs.setIfInBounds b y)[i]?=if i=b/\b<gs.size then φ y else gs[i]?:=by
 by_cases hb:i=b
 ·subst hb
  by_cases aj:i<gs.size
  ·simp[aj]
  ·rw[if_neg (λe=>aj e.2),Ô (by simpa using aj),Ô (by omega)]
 ·rw[ċ (Λ hb),if_neg (λe=>hb e.1)]
def sw{a:Nat}:((gs.setIfInBounds a x).setIfInBounds b y)[i]?=if i=b/\b<gs.size then φ y else if i=a/\a<gs.size then φ x else gs[i]?:=by
 rw[one_set,one_set,ü]
def QS{a s:Nat}(h1:x1.g=a/\x1.act=.send c s)(h2:x2.g=b/\x2.act=.recv c r cap)(h3:x3.g=a/\x3.act=.sendDone c s)(h4:x4.g=b/\x4.act=.recvDone c r)(hc:c<B)(ha:a<N)(hb:b<N):
 (∀op∈#[x1,x2,x3,x4],op.act.touch? =ν/\op.act.low B/\op.act≠ .mark .disable/\op.act≠ .mark .enable)/\∀op∈#[x1,x2,x3,x4],op.act.touch? =ν/\op.g<N:=by
 refine⟨λop ae=>?_,λop ae=>?_⟩<;>simp only[à,ϥ,ϸ,or_false] at ae<;>rcases ae with rfl|rfl|rfl|rfl
 ·rw[h1.2];exact⟨rfl,hc,by simp,by simp⟩
 ·rw[h2.2];exact⟨rfl,hc,by simp,by simp⟩
 ·rw[h3.2];exact⟨rfl,hc,by simp,by simp⟩
 ·rw[h4.2];exact⟨rfl,hc,by simp,by simp⟩
 ·rw[h1.2,h1.1];exact⟨rfl,ha⟩
 ·rw[h2.2,h2.1];exact⟨rfl,hb⟩
 ·rw[h3.2,h3.1];exact⟨rfl,ha⟩
 ·rw[h4.2,h4.1];exact⟨rfl,hb⟩
def Um(w:Ψ)(c cap:Nat)(buf:Array υ)(closed:Bool)(s r:Nat)(tm:Bool):(w.setChan c cap buf closed s r tm).heap.size=w.heap.size/\(∀b,b≠c->(w.setChan c cap buf closed s r tm).heap[b]?=w.heap[b]?)/\(c<w.heap.size->(w.setChan c cap buf closed s r tm).heap[c]?=φ (.chan cap buf closed s r tm)):=by
 refine⟨by simp[World.setChan],λb hb=>?_,λhc=>by simp[World.setChan,hc]⟩
 simp only[World.setChan];rw[ċ (Λ hb)]
def GF(st:Nat->WS)(hi:i<n)(s:WS):sumTo n (λa=>(upd st i s a).wt)+(st i).wt=sumTo n (λa=>(st a).wt)+s.wt:=sumTo_upd st s WS.wt hi
def GO(st:Nat->WS)(hi:i<n)(s:WS):sumTo n (λa=>(upd st i s a).q)+(st i).q=sumTo n (λa=>(st a).q)+s.q:=sumTo_upd st s WS.q hi
def FI.zH(h:FI X wb gs w t G)(i:Nat):(X.N0+i==0)=χ:=by have:=h.n0;simp;omega
def apI(h:FI X wb gs w t G)(hk:k≠0)(h0:gs[0]?=φ (Ï y #[ß X.cN z] (.recv θ))):Ĕ (gs.setIfInBounds k ph) X.cN χ=[(0,0)]:=by
 rw[partners_one (j:=0) (g:=Ï y #[ß X.cN z] (.recv θ)) (stand_get (Λ hk) h0) λj x hj hx=>?_]
 ·rw[Afa,if_pos rfl];rfl
 ·rcases Ń gs k j x hx with⟨_,rfl⟩ | ⟨_,hx⟩
  ·exact ń _ _
  ·apply Ø
   intro au;exact hj (abb h hx au).1
def apH(h:FI X wb gs w t G)(hp:¬ ∃f aB,G.mp=.dt f aB):Ĕ (gs.setIfInBounds k ph) X.cN χ=[]:=by
 refine Afg λj x hx=>?_
 rcases Ń gs k j x hx with⟨_,rfl⟩ | ⟨_,hx⟩
 ·exact ń _ _
 ·apply Ø
  intro au;exact hp (abb h hx au).2
def apG(h:FI X wb gs w t G)(hk:k≠X.N0+X.n)(h0:gs[X.N0+X.n]?=φ (Ï y #[ß X.cL z] (.recv χ))):Ĕ (gs.setIfInBounds k ph) X.cL χ=[(X.N0+X.n,0)]:=by
 rw[partners_one (j:=X.N0+X.n) (g:=Ï y #[ß X.cL z] (.recv χ)) (stand_get (Λ hk) h0) λj x hj hx=>?_]
 ·rw[Afa,if_pos rfl];rfl
 ·rcases Ń gs k j x hx with⟨_,rfl⟩ | ⟨_,hx⟩
  ·exact ń _ _
  ·apply Ø
   intro au;exact hj (aba h hx au).1
def apF(h:FI X wb gs w t G)(hp:¬ ∃r,G.cp=.dt r):Ĕ (gs.setIfInBounds k ph) X.cL χ=[]:=by
 refine Afg λj x hx=>?_
 rcases Ń gs k j x hx with⟨_,rfl⟩ | ⟨_,hx⟩
 ·exact ń _ _
 ·apply Ø
  intro au;exact hp (aba h hx au).2
def uD(X:Pm)(wb:Ψ)(gs:Array ϐ)(w:Ψ)(sl:Option (Nat×Nat))(t:Â)(G:Gh)(k:Nat):Prop:=
 ∃aY w' u G',runT X.P (æ gs w sl) k=(.next (æ aY w' sl),u)/\FI X wb aY w' (t++u) G'/\G'.mu X<G.mu X
def ab4(g:ϐ)(v:υ):(Ϩ g v).status=.running:=rfl
def wO.refl(h:x.status=.running):wO x x:=⟨rfl,rfl,rfl,h⟩
def art(h:FI X wb gs w t G)(sl:Option (Nat×Nat))(hi:i<G.j)(aW:G.st i=.qI)(hx:gs[X.N0+i]?=φ x)(ha:G.act (X.N0+i)=φ ⟨M,x,aO⟩)
 (hn:X.cR i=θ)(hS:Lf X X.cN (X.val i) (λM g w=>Walk X.P χ (W2 X) M g w) M x w)(hp:G.mp=.dt f aB):uD X wb gs w sl t G (X.N0+i):=by
 obtain⟨_,_,⟨z,ft⟩,yB⟩:=hS;have nV:=h.n0;have yq:=h.jn;obtain⟨y0,h0,iu⟩:=h.main;unfold mW at iu;rw[hp] at iu;obtain⟨M0,v0,y,z0,wX,rfl,hR⟩:=iu;have cB:=h.aB;unfold tt at cB;rw[hp] at cB;obtain⟨g1,g2,g3⟩:=cB;have D4:i ∉ aB:=λe=>by have:=((g3 i).1 e).2.2;rw[aW] at this;cases this
 obtain⟨f',rfl⟩:∃f',f=f'+1:=by
  have h1:=GG X.n (i::aB) (List.nodup_cons.2 ⟨D4,g1⟩) λa ha=>by
   rcases ϥ.1 ha with rfl|ha
   ·omega
   ·exact((g3 a).1 ha).1
  simp only[Ď] at h1;exact⟨f - 1,by omega⟩
 obtain⟨s,hc⟩:=h.rl;have jA:=h.EF ⟨_,_,hp⟩;rw[jA] at hc;have bt:=crowd_send_meets (P:=X.P) (sl:=sl) hx (by rw[h.zH];exact ft) hc (show 0≠X.N0+i by omega) h0 (apI h (by omega) h0)
 rw[tU,Aem] at bt;have qp:0<gs.size:=(Ϝ.1 h0).1
 have sO:X.N0+i<gs.size:=(Ϝ.1 hx).1
 obtain⟨yy,xh⟩:=QS (a:=X.N0+i) (b:=0) (c:=X.cN) (s:=s) (r:=s) (cap:=0) (B:=w.heap.size) (N:=gs.size)
  (x1:={g:=X.N0+i,fn:=x.frame.fn,pos:=x.frame.place,act:=.send X.cN s}) (x2:={g:=0,fn:=y.frame.fn,pos:=y.frame.place,act:=.recv X.cN s 0})
  (x3:={g:=X.N0+i,fn:=x.frame.fn,pos:=x.frame.place,act:=.sendDone X.cN s}) (x4:={g:=0,fn:=y.frame.fn,pos:=y.frame.place,act:=.recvDone X.cN s}) ⟨rfl,rfl⟩ ⟨rfl,rfl⟩ ⟨rfl,rfl⟩ ⟨rfl,rfl⟩ h.wt.hN sO qp
 obtain⟨c1,c2,c3⟩:=Um w X.cN 0 #[] χ (s+1) (s+1) χ;have oC:=h.wt.keep 0 _ wX;have xf:=h.wt.keep _ _ ha;obtain⟨_,_,z1,_,_,jy⟩:=hR w oC;have Gv:=h.wt.mute (w':=w.setChan X.cN 0 #[] χ (s+1) (s+1) χ) yy c1 (λb _ hb=>c2 b hb) rfl rfl rfl
 have hw0:=jy i (by omega) hn D4
 obtain⟨T0,zS⟩:=(hw0.rely (Gv.keep 0 _ wX|>λk=>(⟨by rw[c1];exact ϊ _,λb hb=>c2 b (h.wt.low 0 _ wX b hb).2.2,rfl,rfl,rfl⟩:bQ M0 w (w.setChan X.cN 0 #[] χ (s+1) (s+1) χ)))).tree
 obtain⟨Ti,Ms⟩:=(yB.rely (⟨by rw[c1];exact ϊ _,λb hb=>c2 b (h.wt.low _ _ ha b hb).2.2,rfl,rfl,rfl⟩:bQ M w (w.setChan X.cN 0 #[] χ (s+1) (s+1) χ))).tree
 have J4:=(Gv.again wX (Ϩ y (ð θ (X.val i) θ))).again (g:=X.N0+i) (j:=⟨M,x,aO⟩) (by rw[bR _ _ (by omega)];exact ha) (Ϩ x ω)
 refine⟨_,_,_,{G with st:=upd G.st i .oO,mp:=.walk f' (aB++ [i]),act:=kj (kj G.act 0 (φ ⟨M0,Ϩ y (ð θ (X.val i) θ),w.setChan X.cN 0 #[] χ (s+1) (s+1) χ⟩)) (X.N0+i) (φ ⟨M,Ϩ x ω,w.setChan X.cN 0 #[] χ (s+1) (s+1) χ⟩),tr:=upd (upd G.tr 0 T0) (X.N0+i) Ti},bt,?_,?_⟩
 ·refine h.EW (by simp) rfl rfl ?_ (λi' bG=>?_) ?_ (λi' bG=>?_) (λhc=>?_) (λg h1 h2=>⟨?_,rfl,?_⟩) (λg hg=>?_) ?_ ?_ (λ⟨_,_,e⟩=>by cases e) (λhr i' bG=>?_) (λ⟨_,_,e⟩=>by cases e) J4 ?_ ?_ ⟨by rw[c1];exact h.base.size,h.base.tape,h.base.os,h.base.e⟩ xh (λi' bG hq=>?_) rfl
  ·exact⟨λ_=>⟨_,_,.inr hp⟩,λ_=>⟨_,_,.inl rfl⟩⟩
  ·by_cases e:i'=i
   ·subst e;simp only[upd_same];rw[aW];simp
   ·simp only[upd_ne _ _ e]
  ·refine⟨Ϩ y (ð θ (X.val i) θ),?_,?_⟩
   ·rw[sw,if_neg (by omega),if_pos ⟨rfl,qp⟩];rfl
   ·exact⟨M0,w.setChan X.cN 0 #[] χ (s+1) (s+1) χ,Ϩ y (ð θ (X.val i) θ),by simp only[bR _ _ (show 0≠X.N0+i by omega),mL],wO.refl rfl,by simp only[upd_ne _ _ (show 0≠X.N0+i by omega),upd_same];exact zS⟩
  ·by_cases e:i'=i
   ·subst e
    refine⟨Ϩ x ω,?_,?_⟩
    ·rw[sw,if_pos ⟨rfl,sO⟩];rfl
    ·unfold WSit
     simp only[upd_same,mL];exact⟨M,_,rfl,rfl,Ms⟩
   ·obtain⟨y',fV,cu⟩:=h.wk i' bG
    refine⟨y',by rw[sw,if_neg (by omega),if_neg (by omega)];exact fV,?_⟩
    refine WSit.congr (G:=G) (by exact upd_ne _ _ e) ?_ ?_ (by exact rfl) cu
    ·simp only[bR _ _ (show X.N0+i'≠X.N0+i by omega),bR _ _ (show X.N0+i'≠0 by omega)]
    ·simp only[upd_ne _ _ (show X.N0+i'≠X.N0+i by omega),upd_ne _ _ (show X.N0+i'≠0 by omega)]
  ·obtain⟨y',fV,cu⟩:=h.cl hc
   refine⟨y',by rw[sw,if_neg (by omega),if_neg (by omega)];exact fV,?_⟩
   refine CSit.congr (G:=G) (by exact rfl) ?_ ?_ (by exact rfl) cu
   ·simp only[bR _ _ (show X.N0+X.n≠X.N0+i by omega),bR _ _ (show X.N0+X.n≠0 by omega)]
   ·simp only[upd_ne _ _ (show X.N0+X.n≠X.N0+i by omega),upd_ne _ _ (show X.N0+X.n≠0 by omega)]
  ·rw[sw,if_neg (by omega),if_neg (by omega)]
  ·simp only[bR _ _ (show g≠X.N0+i by omega),bR _ _ (show g≠0 by omega)]
   exact h.tV g h1 h2
  ·simp only[bR _ _ (show g≠X.N0+i by omega),bR _ _ (show g≠0 by omega)]
   exact h.sK g hg
  ·have hq:=GO G.st (show i<X.n by omega) .oO
   have e1:(G.st i).q=0:=by rw[aW];rfl
   have e2:WS.q .oO=0:=rfl;have dv:=h.cnt;unfold tn at dv |-
   simp only;rw[show sumTo X.n (λa=>(upd G.st i .oO a).q)=sumTo X.n (λa=>(G.st a).q) by omega]
   exact dv
  ·refine⟨List.nodup_append.2 ⟨g1,by simp,λa MG b hb=>?_⟩,by simp only[Ę,Af7];omega,λa=>?_⟩
   ·simp only[Ã] at hb
    subst hb
    exactλe=>D4 (e▸MG)
   ·by_cases e:a=i
    ·subst e
     simp only[È,Ã,or_true,upd_same,true_iff];exact⟨by omega,hn,rfl⟩
    ·simp only[È,Ã,e,or_false,upd_ne _ _ e]
     exact g3 a
  ·by_cases e:i'=i
   ·subst e;simp only[upd_same];simp
   ·simp only[upd_ne _ _ e];exact h.Co hr i' bG
  ·obtain⟨s',e'⟩:=h.rj
   exact⟨s',by rw[c2 _ h.neq];exact e'⟩
  ·exact⟨s+1,by rw[c3 h.wt.hN];unfold Gh.closed at jA |-;simp only;rw[jA]⟩
  ·have vK:G.st i'=.quit:=by
    by_cases e:i'=i
    ·subst e;simp only[upd_same] at hq;cases hq
    ·simp only[upd_ne _ _ e] at hq;exact hq
   exact(h.kq i' bG vK).app λop ae _=>(xh op ae).1
 ·have hm:=GF G.st (show i<X.n by omega) .oO
  have e1:(G.st i).wt=5:=by rw[aW];rfl
  have e2:WS.wt .oO=3:=rfl;unfold Gh.mu;simp only[hp,MP.wt];omega
def FI.TR(h:FI X wb gs w t G)(hi:i<X.n)(hs:G.st i≠ .quit):G.closed=χ:=by
 apply Ø;intro hc;exact hs (h.LF (by simpa using hc) i hi)
def Tj{w:Ψ}(c1:w'.heap.size=w.heap.size)(c2:∀b,b≠c->w'.heap[b]?=w.heap[b]?)(hM:∀b,M.has b->b≠c)(ht:w'.tape=w.tape)(ho:w'.os=w.os)(hp:w'.output=w.output):bQ M w w':=
 ⟨by rw[c1];exact ϊ _,λb hb=>c2 b (hM b hb),ht,ho,hp⟩
def aru(h:FI X wb gs w t G)(sl:Option (Nat×Nat))(hi:i<G.j)(aW:G.st i=.qI)(hx:gs[X.N0+i]?=φ x)(ha:G.act (X.N0+i)=φ ⟨M,x,aO⟩)
 (hn:X.cR i=θ)(hS:Lf X X.cN (X.val i) (λM g w=>Walk X.P χ (W2 X) M g w) M x w)(hp:¬ ∃f aB,G.mp=.dt f aB):uD X wb gs w sl t G (X.N0+i):=by
 obtain⟨_,_,⟨z,ft⟩,yB⟩:=hS;have nV:=h.n0;have yq:=h.jn;have jA:=h.TR (show i<X.n by omega) (by rw[aW];simp)
 obtain⟨s,hc⟩:=h.rl;rw[jA] at hc;have sO:X.N0+i<gs.size:=(Ϝ.1 hx).1
 have bt:=Afi (P:=X.P) (sl:=sl) hx (by rw[h.zH];exact ft) (λcc dh=>by
  simp only[à,Ã] at dh;subst dh;exact ways_send_none hc (ϊ _) (apH h hp))
 rw[tU] at bt;refine⟨_,_,_,{G with st:=upd G.st i .pb,act:=kj G.act (X.N0+i) (φ ⟨M,x,w⟩)},bt,?_,?_⟩
 ·refine h.EW (by simp) rfl rfl Iff.rfl (λi' bG=>?_) ?_ (λi' bG=>?_) (λhc=>?_) (λg h1 h2=>⟨?_,rfl,?_⟩) (λg hg=>?_) ?_ ?_ (λe=>absurd e hp) (λhr i' bG=>?_) (λe=>absurd e hp) (by simp only[á];exact h.wt.again ha x) h.rj h.rl h.base (by simp) (λi' bG hq=>?_) rfl
  ·by_cases e:i'=i
   ·subst e;simp only[upd_same];rw[aW];simp
   ·simp only[upd_ne _ _ e]
  ·obtain⟨y,hy,hs⟩:=h.main
   refine⟨y,by rw[one_set,if_neg (by omega)];exact hy,?_⟩
   exact mW.congr (G:=G) (by exact rfl) (by exact rfl) (by simp only[bR _ _ (show 0≠X.N0+i by omega)]) (by exact rfl) hs
  ·by_cases e:i'=i
   ·subst e
    refine⟨Ï x #[ö X.cN (X.val i') z] .send,by rw[one_set,if_pos ⟨rfl,sO⟩],?_⟩
    unfold WSit;simp only[upd_same,mL];exact⟨M,w,x,z,rfl,rfl,hn,yB⟩
   ·obtain⟨y',fV,cu⟩:=h.wk i' bG
    refine⟨y',by rw[one_set,if_neg (by omega)];exact fV,?_⟩
    exact WSit.congr (G:=G) (by exact upd_ne _ _ e) (by simp only[bR _ _ (show X.N0+i'≠X.N0+i by omega)]) (by exact rfl) (by exact rfl) cu
  ·obtain⟨y',fV,cu⟩:=h.cl hc
   refine⟨y',by rw[one_set,if_neg (by omega)];exact fV,?_⟩
   exact CSit.congr (G:=G) (by exact rfl) (by simp only[bR _ _ (show X.N0+X.n≠X.N0+i by omega)]) (by exact rfl) (by exact rfl) cu
  ·rw[one_set,if_neg (by omega)]
  ·simp only[bR _ _ (show g≠X.N0+i by omega)]
   exact h.tV g h1 h2
  ·simp only[bR _ _ (show g≠X.N0+i by omega)]
   exact h.sK g hg
  ·have hq:=GO G.st (show i<X.n by omega) .pb
   have e1:(G.st i).q=0:=by rw[aW];rfl
   have e2:WS.q .pb=0:=rfl;have dv:=h.cnt;unfold tn at dv |-
   simp only;rw[show sumTo X.n (λa=>(upd G.st i .pb a).q)=sumTo X.n (λa=>(G.st a).q) by omega]
   exact dv
  ·have cB:=h.aB
   unfold tt at cB |-
   simp only;have MV:∀a,(upd G.st i .pb a).nO=(G.st a).nO:=by
    intro a;by_cases e:a=i
    ·subst e;rw[upd_same,aW];rfl
    ·rw[upd_ne _ _ e]
   simp only[MV];exact cB
  ·by_cases e:i'=i
   ·subst e;simp only[upd_same];simp
   ·simp only[upd_ne _ _ e];exact h.Co hr i' bG
  ·rw[á]
   by_cases e:i'=i
   ·subst e;simp only[upd_same] at hq;cases hq
   ·simp only[upd_ne _ _ e] at hq;exact h.kq i' bG hq
 ·have hm:=GF G.st (show i<X.n by omega) .pb
  have e1:(G.st i).wt=5:=by rw[aW];rfl
  have e2:WS.wt .pb=4:=rfl;unfold Gh.mu;simp only;omega
def CZ(X:Pm)(G:Gh)(i:Nat):Prop:=G.st i=.oO\/(G.st i=.qI/\X.cR i=χ)
def CZ.facts(h:CZ X G i):(G.st i).q=0/\3<=(G.st i).wt/\G.st i≠ .no/\G.st i≠ .quit/\∀s:WS,s.nO=θ->(X.cR i=θ/\(G.st i).nO=θ↔X.cR i=θ/\s.nO=θ):=by
 rcases h with h| ⟨h,hn⟩<;>rw[h]
 ·exact⟨rfl,ϊ _,by simp,by simp,λs hs=>by rw[hs];exact Iff.rfl⟩
 ·refine⟨rfl,by decide,by simp,by simp,λs hs=>by simp[hn]⟩
def aiM(h:FI X wb gs w t G)(hd:CZ X G i){s:WS}(hs:s.nO=θ):tt X {G with st:=upd G.st i s}:=by
 have cB:=h.aB;obtain⟨_,_,_,_,hf⟩:=hd.facts;have key:∀a,(X.cR a=θ/\(upd G.st i s a).nO=θ)↔(X.cR a=θ/\(G.st a).nO=θ):=by
  intro a;by_cases e:a=i
  ·subst e;rw[upd_same];exact(hf s hs).symm
  ·rw[upd_ne _ _ e]
 unfold tt at cB |-
 simp only;cases hm:G.mp with
 |spawn=>
  rw[hm] at cB;intro a ha BU;have h1:=cB a ha BU;cases hp:(upd G.st i s a).nO with
  |false=>rfl
  |true=>have:=(key a).1 ⟨BU,hp⟩;rw[h1] at this;exact absurd this.2 (by simp)
 |walk f aB=>
  rw[hm] at cB;exact⟨cB.1,cB.2.1,λa=>by rw[cB.2.2 a];exact and_congr_right λ_=>(key a).symm⟩
 |dt f aB=>
  rw[hm] at cB;exact⟨cB.1,cB.2.1,λa=>by rw[cB.2.2 a];exact and_congr_right λ_=>(key a).symm⟩
def ars(h:FI X wb gs w t G)(sl:Option (Nat×Nat))(hi:i<G.j)(aW:CZ X G i)(hx:gs[X.N0+i]?=φ x)(ha:G.act (X.N0+i)=φ ⟨M,x,aO⟩)
 (hS:W2 X M x w)(hp:¬ ∃r,G.cp=.dt r):uD X wb gs w sl t G (X.N0+i):=by
 obtain⟨_,_,⟨z,ft⟩,yB⟩:=hS;have nV:=h.n0;have yq:=h.jn;obtain⟨f1,f2,f3,f4,f5⟩:=aW.facts;obtain⟨s,hc⟩:=h.rj;have sO:X.N0+i<gs.size:=(Ϝ.1 hx).1
 have bt:=Afi (P:=X.P) (sl:=sl) hx (by rw[h.zH];exact ft) (λcc dh=>by
  simp only[à,Ã] at dh;subst dh;exact ways_send_none hc (ϊ _) (apF h hp))
 rw[tU] at bt;refine⟨_,_,_,{G with st:=upd G.st i .oM,act:=kj G.act (X.N0+i) (φ ⟨M,x,w⟩)},bt,?_,?_⟩
 ·refine h.EW (by simp) rfl rfl Iff.rfl (λi' bG=>?_) ?_ (λi' bG=>?_) (λhc=>?_) (λg h1 h2=>⟨?_,rfl,?_⟩) (λg hg=>?_) ?_ (aiM h aW rfl) (λe i' bG=>?_) (λhr i' bG=>absurd hr hp) (λe=>h.EF e) (by simp only[á];exact h.wt.again ha x) h.rj h.rl h.base (by simp) (λi' bG hq=>?_) rfl
  ·by_cases e:i'=i
   ·subst e;simp only[upd_same];simp[f3]
   ·simp only[upd_ne _ _ e]
  ·obtain⟨y,hy,hs⟩:=h.main
   refine⟨y,by rw[one_set,if_neg (by omega)];exact hy,?_⟩
   exact mW.congr (G:=G) (by exact rfl) (by exact rfl) (by simp only[bR _ _ (show 0≠X.N0+i by omega)]) (by exact rfl) hs
  ·by_cases e:i'=i
   ·subst e
    refine⟨Ï x #[ö X.cL (.bool θ) z] .send,by rw[one_set,if_pos ⟨rfl,sO⟩],?_⟩
    unfold WSit;simp only[upd_same,mL];exact⟨M,w,x,z,rfl,rfl,yB⟩
   ·obtain⟨y',fV,cu⟩:=h.wk i' bG
    refine⟨y',by rw[one_set,if_neg (by omega)];exact fV,?_⟩
    exact WSit.congr (G:=G) (by exact upd_ne _ _ e) (by simp only[bR _ _ (show X.N0+i'≠X.N0+i by omega)]) (by exact rfl) (by exact rfl) cu
  ·obtain⟨y',fV,cu⟩:=h.cl hc
   refine⟨y',by rw[one_set,if_neg (by omega)];exact fV,?_⟩
   exact CSit.congr (G:=G) (by exact rfl) (by simp only[bR _ _ (show X.N0+X.n≠X.N0+i by omega)]) (by exact rfl) (by exact rfl) cu
  ·rw[one_set,if_neg (by omega)]
  ·simp only[bR _ _ (show g≠X.N0+i by omega)]
   exact h.tV g h1 h2
  ·simp only[bR _ _ (show g≠X.N0+i by omega)]
   exact h.sK g hg
  ·have hq:=GO G.st (show i<X.n by omega) .oM
   have e2:WS.q .oM=0:=rfl;have dv:=h.cnt;unfold tn at dv |-
   simp only;rw[show sumTo X.n (λa=>(upd G.st i .oM a).q)=sumTo X.n (λa=>(G.st a).q) by omega]
   exact dv
  ·by_cases e2:i'=i
   ·subst e2;simp only[upd_same];simp
   ·simp only[upd_ne _ _ e2];exact h.sU e i' bG
  ·rw[á]
   by_cases e:i'=i
   ·subst e;simp only[upd_same] at hq;cases hq
   ·simp only[upd_ne _ _ e] at hq;exact h.kq i' bG hq
 ·have hm:=GF G.st (show i<X.n by omega) .oM
  have e2:WS.wt .oM=2:=rfl;unfold Gh.mu;simp only;omega
def heard(h:FI X wb gs w t G)(d:Nat)(hi:i<G.j)(JJ:G.st i≠ .quit)(hnn:G.st i≠ .no)(MV:∀a,(X.cR a=θ/\(upd G.st i .quit a).nO=θ)↔(X.cR a=θ/\(G.st a).nO=θ))
 (vE:G.cp=.dt (r+1)\/G.cp=.walk (r+1)){Mc:ay}{xg yg:ϐ}{xw yw:Ψ}(ha:G.act (X.N0+i)=φ ⟨M,xg,xw⟩)(Jg:G.act (X.N0+X.n)=φ ⟨Mc,yg,yw⟩)
 (hq:Ĝ X.P m x)(hy:y.status=.running)(hw:Walk X.P χ (wP X r) Mc y w){s:Nat}(hs:w.heap[X.cL]?=φ (.chan 0 #[] χ s s χ))
 (h1:x1.g=X.N0+i/\x1.act=.send X.cL s)(h2:x2.g=X.N0+X.n/\x2.act=.recv X.cL s 0)(h3:x3.g=X.N0+i/\x3.act=.sendDone X.cL s)(h4:x4.g=X.N0+X.n/\x4.act=.recvDone X.cL s)
 {aY:Array ϐ}(aL:aY.size=gs.size)(YS:aY[X.N0+i]?=φ x)(YT:aY[X.N0+X.n]?=φ y)(hgo:∀k,k≠X.N0+i->k≠X.N0+X.n->aY[k]?=gs[k]?):
 ∃G',FI X wb aY ((w.at d).setChan X.cL 0 #[] χ (s+1) (s+1) χ) (t++#[x1,x2,x3,x4]) G'/\G'.mu X<G.mu X:=by
 have nV:=h.n0;have yq:=h.jn;have br:G.cp.nK=χ:=by rcases vE with e|e<;>rw[e]<;>rfl
 have vF:=h.jc br;have jA:=h.TR (show i<X.n by omega) JJ
 have sO:X.N0+i<gs.size:=by rw[<-aL];exact(Ϝ.1 YS).1
 have Ac:X.N0+X.n<gs.size:=by rw[<-aL];exact(Ϝ.1 YT).1
 obtain⟨yy,xh⟩:=QS (a:=X.N0+i) (b:=X.N0+X.n) (c:=X.cL) (s:=s) (r:=s) (cap:=0) (B:=w.heap.size) (N:=gs.size) h1 h2 h3 h4 h.wt.hL sO Ac;obtain⟨c1,c2,c3⟩:=Um (w.at d) X.cL 0 #[] χ (s+1) (s+1) χ;have Gv:=h.wt.mute (w':=(w.at d).setChan X.cL 0 #[] χ (s+1) (s+1) χ) yy c1 (λb hb _=>c2 b hb) rfl rfl rfl
 obtain⟨Tc,Je⟩:=(hw.rely (Tj (w':=(w.at d).setChan X.cL 0 #[] χ (s+1) (s+1) χ) c1 c2 (λb hb=>(h.wt.low _ _ Jg b hb).2.1) rfl rfl rfl)).tree
 have au:X.N0+X.n≠X.N0+i:=by omega
 have J4:=(Gv.again Jg y).drop (X.N0+i);refine⟨{G with st:=upd G.st i .quit,cp:=.walk r,act:=kj (kj G.act (X.N0+X.n) (φ ⟨Mc,y,(w.at d).setChan X.cL 0 #[] χ (s+1) (s+1) χ⟩)) (X.N0+i) ν,q:=upd G.q (X.N0+i) m,tr:=upd G.tr (X.N0+X.n) Tc},?_,?_⟩
 ·refine h.EW aL rfl br.symm Iff.rfl (λi' bG=>?_) ?_ (λi' bG=>?_) (λhc=>?_) (λg h1 h2=>⟨hgo g (by omega) (by omega),upd_ne _ _ (by omega),?_⟩) (λg hg=>?_) ?_ ?_ (λe i' bG=>?_) (λ⟨_,e⟩=>by cases e) (λ_=>rfl) J4 ?_ ?_ ⟨by rw[c1];exact h.base.size,h.base.tape,h.base.os,h.base.e⟩ xh (λi' bG hq=>?_) ?_
  ·by_cases e:i'=i
   ·subst e;simp only[upd_same];simp[hnn]
   ·simp only[upd_ne _ _ e]
  ·obtain⟨z,hz,aL⟩:=h.main
   refine⟨z,by rw[hgo 0 (by omega) (by omega)];exact hz,?_⟩
   exact mW.congr (G:=G) (by exact rfl) (by exact rfl) (by simp only[bR _ _ (show 0≠X.N0+i by omega),bR _ _ (show 0≠X.N0+X.n by omega)]) (by simp only[upd_ne _ _ (show 0≠X.N0+X.n by omega)]) aL
  ·by_cases e:i'=i
   ·subst e
    refine⟨x,YS,?_⟩
    unfold WSit;simp only[upd_same,mL];exact⟨trivial,hq⟩
   ·obtain⟨y',fV,cu⟩:=h.wk i' bG
    refine⟨y',by rw[hgo _ (by omega) (by omega)];exact fV,?_⟩
    exact WSit.congr (G:=G) (by exact upd_ne _ _ e) (by simp only[bR _ _ (show X.N0+i'≠X.N0+i by omega),bR _ _ (show X.N0+i'≠X.N0+X.n by omega)]) (by simp only[upd_ne _ _ (show X.N0+i'≠X.N0+X.n by omega)]) (by simp only[upd_ne _ _ (show X.N0+i'≠X.N0+i by omega)]) cu
  ·refine⟨y,YT,?_⟩
   unfold CSit;simp only[bR _ _ au,mL,upd_same];exact⟨Mc,_,rfl,hy,Je⟩
  ·simp only[bR _ _ (show g≠X.N0+i by omega),bR _ _ (show g≠X.N0+X.n by omega)]
   exact h.tV g h1 h2
  ·simp only[bR _ _ (show g≠X.N0+i by omega),bR _ _ (show g≠X.N0+X.n by omega)]
   exact h.sK g hg
  ·have hqs:=GO G.st (show i<X.n by omega) .quit
   have e1:(G.st i).q=0:=by unfold WS.q;rw[if_neg JJ]
   have e2:WS.q .quit=1:=rfl;have dv:=h.cnt;have auE:(r+1)+sumTo X.n (λa=>(G.st a).q)=X.n:=by
    unfold tn at dv;rcases vE with e|e<;>rw[e] at dv<;>exact dv
   show r+sumTo X.n (λa=>(upd G.st i .quit a).q)=X.n
   omega
  ·have cB:=h.aB
   unfold tt at cB |-
   simp only;cases hmm:G.mp with
   |spawn=>exact absurd (h.mc.2 br) (by rw[hmm];rintro⟨_,_,e|e⟩<;>cases e)
   |walk f aB=>
    rw[hmm] at cB;exact⟨cB.1,cB.2.1,λa=>by rw[cB.2.2 a];exact and_congr_right λ_=>(MV a).symm⟩
   |dt f aB=>
    rw[hmm] at cB;exact⟨cB.1,cB.2.1,λa=>by rw[cB.2.2 a];exact and_congr_right λ_=>(MV a).symm⟩
  ·by_cases e2:i'=i
   ·subst e2;simp only[upd_same];simp
   ·simp only[upd_ne _ _ e2];exact h.sU e i' bG
  ·exact⟨s+1,c3 h.wt.hL⟩
  ·obtain⟨s',e'⟩:=h.rl
   rw[jA] at e';exact⟨s',by rw[c2 _ (Λ h.neq)];exact e'⟩
  ·by_cases e:i'=i
   ·subst e
    intro k a BR hg;obtain⟨op,ae,cC⟩:=ć BR;rcases ñ ae with⟨_,bJ⟩ | ⟨_,fK⟩
    ·have hk:Knows t (X.N0+i') k:=zF.self t (X.N0+i') k a (by rw[ĕ bJ];exact cC) (by simpa [Ð,ae,bJ] using hg)
     exact ajA h.wt.nd h1 h2 h3 h4 hk
    ·rw[(xh op fK).1] at cC;cases cC
   ·simp only[upd_ne _ _ e] at hq
    exact(h.kq i' bG hq).app λop ae _=>(xh op ae).1
  ·rw[jA];rfl
 ·have hm:=GF G.st (show i<X.n by omega) .quit
  have e2:WS.wt .quit=0:=rfl;unfold Gh.mu;simp only;rcases vE with e|e<;>rw[e]<;>simp only[CP.wt]<;>omega
def abt(h:CZ X G i\/G.st i=.oM):∀a,(X.cR a=θ/\(upd G.st i .quit a).nO=θ)↔(X.cR a=θ/\(G.st a).nO=θ):=by
 intro a;by_cases e:a=i
 ·subst e
  rw[upd_same];rcases h with h|h
  ·exact(h.facts.2.2.2.2 .quit rfl).symm
  ·rw[h];exact Iff.rfl
 ·rw[upd_ne _ _ e]
def arq(h:FI X wb gs w t G)(sl:Option (Nat×Nat))(hi:i<G.j)(aW:CZ X G i)(hx:gs[X.N0+i]?=φ x)(ha:G.act (X.N0+i)=φ ⟨M,x,aO⟩)
 (hS:W2 X M x w)(hp:G.cp=.dt r):uD X wb gs w sl t G (X.N0+i):=by
 obtain⟨_,_,⟨z,ft⟩,m,hq⟩:=hS;have nV:=h.n0;have yq:=h.jn;have br:G.cp.nK=χ:=by rw[hp];rfl
 have vF:=h.jc br;obtain⟨f1,f2,f3,f4,f5⟩:=aW.facts;obtain⟨y0,h0,iu⟩:=h.cl br;unfold CSit at iu;rw[hp] at iu;obtain⟨r',Mc,v0,y,z0,rfl,Jg,rfl,hW⟩:=iu;obtain⟨s,hc⟩:=h.rj;have bt:=crowd_send_meets (P:=X.P) (sl:=sl) hx (by rw[h.zH];exact ft) hc (show X.N0+X.n≠X.N0+i by omega) h0 (apG h (by omega) h0)
 rw[tU,Aem] at bt;have Ac:X.N0+X.n<gs.size:=(Ϝ.1 h0).1
 have sO:X.N0+i<gs.size:=(Ϝ.1 hx).1
 obtain⟨G',hF,sQ⟩:=heard h w.drawn hi f4 f3 (abt (.inl aW)) (.inl hp) ha Jg hq (ab4 y (ð χ (.bool θ) θ)) (hW.rely (h.wt.keep _ _ Jg)) hc
  (x1:={g:=X.N0+i,fn:=x.frame.fn,pos:=x.frame.place,act:=.send X.cL s}) (x2:={g:=X.N0+X.n,fn:=y.frame.fn,pos:=y.frame.place,act:=.recv X.cL s 0})
  (x3:={g:=X.N0+i,fn:=x.frame.fn,pos:=x.frame.place,act:=.sendDone X.cL s}) (x4:={g:=X.N0+X.n,fn:=y.frame.fn,pos:=y.frame.place,act:=.recvDone X.cL s}) ⟨rfl,rfl⟩ ⟨rfl,rfl⟩ ⟨rfl,rfl⟩ ⟨rfl,rfl⟩
  (aY:=(gs.setIfInBounds (X.N0+X.n) (Ϩ y (ð χ (.bool θ) θ))).setIfInBounds (X.N0+i) (Ϩ x ω)) (by simp) (by rw[sw,if_pos ⟨rfl,sO⟩]) (by rw[sw,if_neg (by omega),if_pos ⟨rfl,Ac⟩]) (λk h1 h2=>by rw[sw,if_neg (λe=>h1 e.1),if_neg (λe=>h2 e.1)])
 exact⟨_,_,_,G',bt,hF,sQ⟩
def apY(h:FI X wb gs w t G)(sl:Option (Nat×Nat))(hp:G.cp=.walk (r+1))(hx:gs[X.N0+X.n]?=φ x)(ha:G.act (X.N0+X.n)=φ ⟨M,x,aO⟩)
 (hS:wP X (r+1) M x w)(hex:∃i,i<X.n/\G.st i=.oM):uD X wb gs w sl t G (X.N0+X.n):=by
 obtain⟨_,_,⟨z,ft⟩,hW⟩:=hS;have nV:=h.n0;have br:G.cp.nK=χ:=by rw[hp];rfl
 have vF:=h.jc br;obtain⟨s,hc⟩:=h.rj;have Rt:(X.N0+X.n==0)=χ:=h.zH X.n;have au:Ĕ (gs.setIfInBounds (X.N0+X.n) ph) X.cL θ≠ []:=by
  obtain⟨i,hi,aW⟩:=hex;obtain⟨y,hy,hs⟩:=h.wk i (by omega)
  unfold WSit at hs;rw[aW] at hs;obtain⟨Mi,wi,y',z',_,hyp,_⟩:=hs;have:(X.N0+i,0)∈Ĕ (gs.setIfInBounds (X.N0+X.n) ph) X.cL θ:=mem_partners.2 ⟨y,stand_get (by omega) hy,by rw[hyp,ŵ,if_pos rfl];simp⟩
  exact List.ne_nil_of_mem this
 have jy:∀j k,(j,k)∈Ĕ (gs.setIfInBounds (X.N0+X.n) ph) X.cL θ->k=0/\j≠X.N0+X.n/\∃gj vj zj KV,gs[j]?=φ (Ï gj #[ö X.cL vj zj] KV):=by
  intro j k hm;obtain⟨y,hy,hk⟩:=mem_partners.1 hm;rcases Ń gs _ j y hy with⟨_,rfl⟩ | ⟨hj,hy⟩
  ·rw[ń] at hk;cases hk
  ·obtain⟨e,g,v,z,hyp⟩:=abc h hy hk
   exact⟨e,hj,g,v,z,.send,by rw[hy,hyp]⟩
 obtain⟨j,gj,vj,zj,KV,d,hj,Ju,bt⟩:=crowd_recv_meets_some (P:=X.P) (sl:=sl) hx (by rw[Rt];exact ft) hc au jy
 rw[tU,Aem] at bt;obtain⟨i,Mi,wi,yi,hi,rfl,aW,rfl,rfl,Mu,uX,m,hq⟩:=h.Wq Ju;have Ac:X.N0+X.n<gs.size:=(Ϝ.1 hx).1
 have sO:X.N0+i<gs.size:=(Ϝ.1 Ju).1
 obtain⟨G',hF,sQ⟩:=heard h d hi (by rw[aW];simp) (by rw[aW];simp) (abt (.inr aW)) (.inr hp) Mu ha (x:=Ϩ gj ω) (by rw[uX];exact hq) (ab4 x (ð χ (.bool θ) θ)) hW hc
  (x1:={g:=X.N0+i,fn:=gj.frame.fn,pos:=gj.frame.place,act:=.send X.cL s}) (x2:={g:=X.N0+X.n,fn:=x.frame.fn,pos:=x.frame.place,act:=.recv X.cL s 0})
  (x3:={g:=X.N0+i,fn:=gj.frame.fn,pos:=gj.frame.place,act:=.sendDone X.cL s}) (x4:={g:=X.N0+X.n,fn:=x.frame.fn,pos:=x.frame.place,act:=.recvDone X.cL s}) ⟨rfl,rfl⟩ ⟨rfl,rfl⟩ ⟨rfl,rfl⟩ ⟨rfl,rfl⟩
  (aY:=(gs.setIfInBounds (X.N0+i) (Ϩ gj ω)).setIfInBounds (X.N0+X.n) (Ϩ x (ð χ (.bool θ) θ))) (by simp) (by rw[sw,if_neg (by omega),if_pos ⟨rfl,sO⟩]) (by rw[sw,if_pos ⟨rfl,Ac⟩]) (λk h1 h2=>by rw[sw,if_neg (λe=>h2 e.1),if_neg (λe=>h1 e.1)])
 exact⟨_,_,_,G',bt,hF,sQ⟩
def apZ(h:FI X wb gs w t G)(sl:Option (Nat×Nat))(hp:G.cp=.walk (r+1))(hx:gs[X.N0+X.n]?=φ x)(ha:G.act (X.N0+X.n)=φ ⟨M,x,aO⟩)
 (hS:wP X (r+1) M x w)(hex:¬ ∃i,i<X.n/\G.st i=.oM):uD X wb gs w sl t G (X.N0+X.n):=by
 obtain⟨_,_,⟨z,ft⟩,hW⟩:=hS;have nV:=h.n0;have br:G.cp.nK=χ:=by rw[hp];rfl
 have vF:=h.jc br;obtain⟨s,hc⟩:=h.rj;have Rt:(X.N0+X.n==0)=χ:=h.zH X.n;have jA:G.closed=χ:=by unfold Gh.closed;rw[hp]
 have D5:Ĕ (gs.setIfInBounds (X.N0+X.n) ph) X.cL θ=[]:=by
  refine Afg λj y hy=>?_
  rcases Ń gs _ j y hy with⟨_,rfl⟩ | ⟨hj,hy⟩
  ·exact ń _ _
  ·cases hl:Š y X.cL θ with
   |nil=>rfl
   |cons a l=>
    exfalso;obtain⟨e,g,v,z',hyp⟩:=abc h (m:=a) hy (by rw[hl];simp)
    rw[hyp] at hy;obtain⟨i,_,_,_,hi,_,aW,_⟩:=h.Wq hy;exact hex ⟨i,by omega,aW⟩
 have bt:=Afi (P:=X.P) (sl:=sl) hx (by rw[Rt];exact ft) (λcc dh=>by
  simp only[à,Ã] at dh;subst dh;exact ways_recv_none hc D5)
 rw[tU] at bt;have Ac:X.N0+X.n<gs.size:=(Ϝ.1 hx).1
 refine⟨_,_,_,{G with cp:=.dt (r+1),act:=kj G.act (X.N0+X.n) (φ ⟨M,x,w⟩)},bt,?_,?_⟩
 ·refine h.EW (by simp) rfl br.symm Iff.rfl (λi' bG=>Iff.rfl) ?_ (λi' bG=>?_) (λhc=>?_) (λg h1 h2=>⟨?_,rfl,?_⟩) (λg hg=>?_) ?_ h.aB (λe=>h.sU e) (λ_ i' bG aW=>hex ⟨i',bG,aW⟩) (λ_=>rfl) (by simp only[á];exact h.wt.again ha x) h.rj (by obtain⟨s',e⟩:=h.rl;rw[jA] at e;exact⟨s',e⟩) h.base (by simp) (λi' bG hq=>by rw[á];exact h.kq i' bG hq) (by rw[jA];rfl)
  ·obtain⟨y,hy,hs⟩:=h.main
   refine⟨y,by rw[one_set,if_neg (by omega)];exact hy,?_⟩
   exact mW.congr (G:=G) (by exact rfl) (by exact rfl) (by simp only[bR _ _ (show 0≠X.N0+X.n by omega)]) (by exact rfl) hs
  ·obtain⟨y',fV,cu⟩:=h.wk i' bG
   refine⟨y',by rw[one_set,if_neg (by omega)];exact fV,?_⟩
   exact WSit.congr (G:=G) (by exact rfl) (by simp only[bR _ _ (show X.N0+i'≠X.N0+X.n by omega)]) (by exact rfl) (by exact rfl) cu
  ·refine⟨Ï x #[ß X.cL z] (.recv χ),by rw[one_set,if_pos ⟨rfl,Ac⟩],?_⟩
   unfold CSit;simp only[mL];exact⟨r,M,w,x,z,rfl,rfl,rfl,hW⟩
  ·rw[one_set,if_neg (by omega)]
  ·simp only[bR _ _ (show g≠X.N0+X.n by omega)]
   exact h.tV g h1 h2
  ·simp only[bR _ _ (show g≠X.N0+X.n by omega)]
   exact h.sK g hg
  ·have dv:=h.cnt
   unfold tn at dv |-
   rw[hp] at dv;exact dv
 ·unfold Gh.mu
  simp only[hp,CP.wt];omega
def ap1(h:FI X wb gs w t G)(sl:Option (Nat×Nat))(hp:G.mp=.walk f aB)(hx:gs[0]?=φ x)(ha:G.act 0=φ ⟨M,y,aO⟩)(oG:wO x y)
 (hS:∀aa,bQ M aO aa->tB X f aB M y aa)(jA:G.closed=χ)(hex:¬ ∃i,i<X.n/\G.st i=.pb):uD X wb gs w sl t G 0:=by
 obtain⟨_,_,z,ft,_⟩:=(hS w (h.wt.keep _ _ ha)).at;have nV:=h.n0;have yq:=h.jn;obtain⟨s,hc⟩:=h.rl;rw[jA] at hc;have D5:Ĕ (gs.setIfInBounds 0 ph) X.cN θ=[]:=by
  refine Afg λj y hy=>?_
  rcases Ń gs _ j y hy with⟨_,rfl⟩ | ⟨hj,hy⟩
  ·exact ń _ _
  ·cases hl:Š y X.cN θ with
   |nil=>rfl
   |cons a l=>
    exfalso;obtain⟨e,g,v,z',hyp⟩:=TT h (m:=a) hy (by rw[hl];simp)
    rw[hyp] at hy;obtain⟨i,_,_,_,hi,_,aW,_⟩:=h.P5 hy;exact hex ⟨i,by omega,aW⟩
 have vO:Ϛ X.P (0==0) x w=.comm y #[ß X.cN z] θ (.recv θ) w #[]:=by
  rw[Afj oG.1 oG.2.1 oG.2.2.1];exact ft
 have bt:=Afi (P:=X.P) (sl:=sl) hx vO (λcc dh=>by
  simp only[à,Ã] at dh;subst dh;exact ways_recv_none hc D5)
 rw[tU] at bt;have qp:0<gs.size:=(Ϝ.1 hx).1
 refine⟨_,_,_,{G with mp:=.dt f aB},bt,?_,?_⟩
 ·refine h.EW (by simp) rfl rfl ⟨λ_=>⟨_,_,.inl hp⟩,λ_=>⟨_,_,.inr rfl⟩⟩ (λi' bG=>Iff.rfl) ?_ (λi' bG=>?_) (λhc=>?_) (λg h1 h2=>⟨?_,rfl,h.tV g h1 h2⟩) h.sK h.cnt ?_ (λ_ i' bG e=>hex ⟨i',bG,e⟩) (λe=>h.Co e) (λ_=>jA) (by simp only[á];exact h.wt) h.rj h.rl h.base (by simp) (λi' bG hq=>by rw[á];exact h.kq i' bG hq) rfl
  ·refine⟨Ï y #[ß X.cN z] (.recv θ),by rw[one_set,if_pos ⟨rfl,qp⟩],?_⟩
   unfold mW;exact⟨M,aO,y,z,ha,rfl,hS⟩
  ·obtain⟨y',fV,cu⟩:=h.wk i' bG
   exact⟨y',by rw[one_set,if_neg (by omega)];exact fV,WSit.congr (G:=G) (by exact rfl) (by exact rfl) (by exact rfl) (by exact rfl) cu⟩
  ·obtain⟨y',fV,cu⟩:=h.cl hc
   exact⟨y',by rw[one_set,if_neg (by omega)];exact fV,CSit.congr (G:=G) (by exact rfl) (by exact rfl) (by exact rfl) (by exact rfl) cu⟩
  ·rw[one_set,if_neg (by omega)]
  ·have cB:=h.aB
   unfold tt at cB |-
   rw[hp] at cB;exact cB
 ·unfold Gh.mu
  simp only[hp,MP.wt];omega
def ap0(h:FI X wb gs w t G)(sl:Option (Nat×Nat))(hp:G.mp=.walk f aB){M0:ay}(h0:gs[0]?=φ x)(wX:G.act 0=φ ⟨M0,y,v0⟩)(oG:wO x y)
 (hR:∀aa,bQ M0 v0 aa->tB X f aB M0 y aa)(hex:∃i,i<X.n/\G.st i=.pb):uD X wb gs w sl t G 0:=by
 have nV:=h.n0;have yq:=h.jn;have cB:=h.aB;unfold tt at cB;rw[hp] at cB;obtain⟨g1,g2,g3⟩:=cB;have jA:G.closed=χ:=by
  obtain⟨i,hi,aW⟩:=hex;exact h.TR hi (by rw[aW];simp)
 obtain⟨s,hc⟩:=h.rl;rw[jA] at hc;have au:Ĕ (gs.setIfInBounds 0 ph) X.cN θ≠ []:=by
  obtain⟨i,hi,aW⟩:=hex;obtain⟨y,hy,hs⟩:=h.wk i (h.aaU hi (by rw[aW];simp))
  unfold WSit at hs;rw[aW] at hs;obtain⟨Mi,wi,y',z',_,hyp,_⟩:=hs;have:(X.N0+i,0)∈Ĕ (gs.setIfInBounds 0 ph) X.cN θ:=mem_partners.2 ⟨y,stand_get (by omega) hy,by rw[hyp,ŵ,if_pos rfl];simp⟩
  exact List.ne_nil_of_mem this
 have jy:∀j k,(j,k)∈Ĕ (gs.setIfInBounds 0 ph) X.cN θ->k=0/\j≠0/\∃gj vj zj KV,gs[j]?=φ (Ï gj #[ö X.cN vj zj] KV):=by
  intro j k hm;obtain⟨y,hy,hk⟩:=mem_partners.1 hm;rcases Ń gs _ j y hy with⟨_,rfl⟩ | ⟨hj,hy⟩
  ·rw[ń] at hk;cases hk
  ·obtain⟨e,g,v,z,hyp⟩:=TT h hy hk
   exact⟨e,hj,g,v,z,.send,by rw[hy,hyp]⟩
 obtain⟨_,_,z,ft,_⟩:=(hR w (h.wt.keep _ _ wX)).at;have vO:Ϛ X.P (0==0) x w=.comm y #[ß X.cN z] θ (.recv θ) w #[]:=by
  rw[Afj oG.1 oG.2.1 oG.2.2.1];exact ft
 obtain⟨j,gj,vj,zj,KV,d,hj,Ju,bt⟩:=crowd_recv_meets_some (P:=X.P) (sl:=sl) h0 vO hc au jy;rw[tU,Aem] at bt;obtain⟨i,M,aO,yi,hi,rfl,aW,rfl,rfl,hn,ha,uX,yB⟩:=h.P5 Ju;have D4:i ∉ aB:=λe=>by have:=((g3 i).1 e).2.2;rw[aW] at this;cases this
 obtain⟨f',rfl⟩:∃f',f=f'+1:=by
  have h1:=GG X.n (i::aB) (List.nodup_cons.2 ⟨D4,g1⟩) λa ha=>by
   rcases ϥ.1 ha with rfl|ha
   ·omega
   ·exact((g3 a).1 ha).1
  simp only[Ď] at h1;exact⟨f - 1,by omega⟩
 have qp:0<gs.size:=(Ϝ.1 h0).1
 have sO:X.N0+i<gs.size:=(Ϝ.1 Ju).1
 obtain⟨yy,xh⟩:=QS (a:=X.N0+i) (b:=0) (c:=X.cN) (s:=s) (r:=s) (cap:=0) (B:=w.heap.size) (N:=gs.size)
  (x1:={g:=X.N0+i,fn:=gj.frame.fn,pos:=gj.frame.place,act:=.send X.cN s}) (x2:={g:=0,fn:=y.frame.fn,pos:=y.frame.place,act:=.recv X.cN s 0})
  (x3:={g:=X.N0+i,fn:=gj.frame.fn,pos:=gj.frame.place,act:=.sendDone X.cN s}) (x4:={g:=0,fn:=y.frame.fn,pos:=y.frame.place,act:=.recvDone X.cN s}) ⟨rfl,rfl⟩ ⟨rfl,rfl⟩ ⟨rfl,rfl⟩ ⟨rfl,rfl⟩ h.wt.hN sO qp
 obtain⟨c1,c2,c3⟩:=Um (w.at d) X.cN 0 #[] χ (s+1) (s+1) χ;obtain⟨_,_,z1,_,_,ajz⟩:=hR w (h.wt.keep _ _ wX);have Gv:=h.wt.mute (w':=(w.at d).setChan X.cN 0 #[] χ (s+1) (s+1) χ) yy c1 (λb _ hb=>c2 b hb) rfl rfl rfl
 obtain⟨T0,zS⟩:=((ajz i (by omega) hn D4).rely (Tj (w':=(w.at d).setChan X.cN 0 #[] χ (s+1) (s+1) χ) c1 c2 (λb hb=>(h.wt.low 0 _ wX b hb).2.2) rfl rfl rfl)).tree
 obtain⟨Ti,Ms⟩:=((yB.rely (h.wt.keep _ _ ha)).rely (Tj (w':=(w.at d).setChan X.cN 0 #[] χ (s+1) (s+1) χ) c1 c2 (λb hb=>(h.wt.low _ _ ha b hb).2.2) rfl rfl rfl)).tree
 rw[<-uX] at Ms;have J4:=(Gv.again wX (Ϩ y (ð θ (X.val i) θ))).again (g:=X.N0+i) (j:=⟨M,yi,aO⟩) (by rw[bR _ _ (by omega)];exact ha) (Ϩ gj ω)
 refine⟨_,_,_,{G with st:=upd G.st i .oO,mp:=.walk f' (aB++ [i]),act:=kj (kj G.act 0 (φ ⟨M0,Ϩ y (ð θ (X.val i) θ),(w.at d).setChan X.cN 0 #[] χ (s+1) (s+1) χ⟩)) (X.N0+i) (φ ⟨M,Ϩ gj ω,(w.at d).setChan X.cN 0 #[] χ (s+1) (s+1) χ⟩),tr:=upd (upd G.tr 0 T0) (X.N0+i) Ti},bt,?_,?_⟩
 ·refine h.EW (by simp) rfl rfl ?_ (λi' bG=>?_) ?_ (λi' bG=>?_) (λhc=>?_) (λg h1 h2=>⟨?_,rfl,?_⟩) (λg hg=>?_) ?_ ?_ (λ⟨_,_,e⟩=>by cases e) (λhr i' bG=>?_) (λ⟨_,_,e⟩=>by cases e) J4 ?_ ?_ ⟨by rw[c1];exact h.base.size,h.base.tape,h.base.os,h.base.e⟩ xh (λi' bG hq=>?_) rfl
  ·exact⟨λ_=>⟨_,_,.inl hp⟩,λ_=>⟨_,_,.inl rfl⟩⟩
  ·by_cases e:i'=i
   ·subst e;simp only[upd_same];rw[aW];simp
   ·simp only[upd_ne _ _ e]
  ·refine⟨Ϩ y (ð θ (X.val i) θ),?_,?_⟩
   ·rw[sw,if_pos ⟨rfl,qp⟩];rfl
   ·exact⟨M0,(w.at d).setChan X.cN 0 #[] χ (s+1) (s+1) χ,Ϩ y (ð θ (X.val i) θ),by simp only[bR _ _ (show 0≠X.N0+i by omega),mL],wO.refl rfl,by simp only[upd_ne _ _ (show 0≠X.N0+i by omega),upd_same];exact zS⟩
  ·by_cases e:i'=i
   ·subst e
    refine⟨Ϩ gj ω,?_,?_⟩
    ·rw[sw,if_neg (by omega),if_pos ⟨rfl,sO⟩];rfl
    ·unfold WSit
     simp only[upd_same,mL];exact⟨M,_,rfl,rfl,Ms⟩
   ·obtain⟨y',fV,cu⟩:=h.wk i' bG
    refine⟨y',by rw[sw,if_neg (by omega),if_neg (by omega)];exact fV,?_⟩
    refine WSit.congr (G:=G) (by exact upd_ne _ _ e) ?_ ?_ (by exact rfl) cu
    ·simp only[bR _ _ (show X.N0+i'≠X.N0+i by omega),bR _ _ (show X.N0+i'≠0 by omega)]
    ·simp only[upd_ne _ _ (show X.N0+i'≠X.N0+i by omega),upd_ne _ _ (show X.N0+i'≠0 by omega)]
  ·obtain⟨y',fV,cu⟩:=h.cl hc
   refine⟨y',by rw[sw,if_neg (by omega),if_neg (by omega)];exact fV,?_⟩
   refine CSit.congr (G:=G) (by exact rfl) ?_ ?_ (by exact rfl) cu
   ·simp only[bR _ _ (show X.N0+X.n≠X.N0+i by omega),bR _ _ (show X.N0+X.n≠0 by omega)]
   ·simp only[upd_ne _ _ (show X.N0+X.n≠X.N0+i by omega),upd_ne _ _ (show X.N0+X.n≠0 by omega)]
  ·rw[sw,if_neg (by omega),if_neg (by omega)]
  ·simp only[bR _ _ (show g≠X.N0+i by omega),bR _ _ (show g≠0 by omega)]
   exact h.tV g h1 h2
  ·simp only[bR _ _ (show g≠X.N0+i by omega),bR _ _ (show g≠0 by omega)]
   exact h.sK g hg
  ·have hq:=GO G.st (show i<X.n by omega) .oO
   have e1:(G.st i).q=0:=by rw[aW];rfl
   have e2:WS.q .oO=0:=rfl;have dv:=h.cnt;unfold tn at dv |-
   simp only;rw[show sumTo X.n (λa=>(upd G.st i .oO a).q)=sumTo X.n (λa=>(G.st a).q) by omega]
   exact dv
  ·refine⟨List.nodup_append.2 ⟨g1,by simp,λa MG b hb=>?_⟩,by simp only[Ę,Af7];omega,λa=>?_⟩
   ·simp only[Ã] at hb
    subst hb
    exactλe=>D4 (e▸MG)
   ·by_cases e:a=i
    ·subst e
     simp only[È,Ã,or_true,upd_same,true_iff];exact⟨by omega,hn,rfl⟩
    ·simp only[È,Ã,e,or_false,upd_ne _ _ e]
     exact g3 a
  ·by_cases e:i'=i
   ·subst e;simp only[upd_same];simp
   ·simp only[upd_ne _ _ e];exact h.Co hr i' bG
  ·obtain⟨s',e'⟩:=h.rj
   exact⟨s',by rw[c2 _ h.neq];exact e'⟩
  ·exact⟨s+1,by rw[c3 h.wt.hN];unfold Gh.closed at jA |-;simp only;rw[jA]⟩
  ·have vK:G.st i'=.quit:=by
    by_cases e:i'=i
    ·subst e;simp only[upd_same] at hq;cases hq
    ·simp only[upd_ne _ _ e] at hq;exact hq
   exact(h.kq i' bG vK).app λop ae _=>(xh op ae).1
 ·have hm:=GF G.st (show i<X.n by omega) .oO
  have e1:(G.st i).wt=4:=by rw[aW];rfl
  have e2:WS.wt .oO=3:=rfl;unfold Gh.mu;simp only[hp,MP.wt];omega
def Bq:((gs.setIfInBounds 0 x).push y)[i]?=if i=gs.size then φ y else if i=0/\0<gs.size then φ x else gs[i]?:=by
 rw[Array.getElem?_push,ü]
 by_cases h:i=gs.size
 ·rw[if_pos h,if_pos h]
 ·rw[if_neg h,if_neg h,one_set]
def acg(h1:x1.act=.go N)(h2:x2.act=.start):∀op∈#[x1,x2],op.act.touch? =ν:=by
 intro op ae;simp only[à,ϥ,ϸ,or_false] at ae;rcases ae with rfl|rfl
 ·rw[h1];rfl
 ·rw[h2];rfl
def ar0(h:FI X wb gs w t G)(sl:Option (Nat×Nat))(hp:G.mp=.spawn)(hr:X.n - G.j=r+1)(hx:gs[0]?=φ x)(ha:G.act 0=φ ⟨M,x,aO⟩)
 (hS:StopA X (r+1) M x w):uD X wb gs w sl t G 0:=by
 obtain⟨_,cr,child,ft,tH,DS,Na,iw⟩:=hS;have nV:=h.n0;have br:G.cp.nK=θ:=by
  cases e:G.cp.nK with
  |true=>rfl
  |false=>exact absurd (h.mc.2 e) (by rw[hp];rintro⟨_,_,e|e⟩<;>cases e)
 have Eh:gs.size=X.N0+G.j:=by have:=h.size;rw[br] at this;simpa using this
 have hi:X.n - (r+1)=G.j:=by omega
 rw[hi] at Na;have qq:X.n - (G.j+1)=r:=by omega
 have qp:0<gs.size:=(Ϝ.1 hx).1
 have bt:=runT_crowd_spawn (P:=X.P) (sl:=sl) (i:=0) hx (show Ϛ X.P (0==0) x w=_ from ft)
 rw[tU] at bt;have D8:(#[].push ({g:=0,fn:=x.frame.fn,pos:=x.frame.place,act:=.go gs.size}:MemOp) |>.push {g:=gs.size,fn:=child.frame.fn,pos:=x.frame.place,act:=.start})=#[{g:=0,fn:=x.frame.fn,pos:=x.frame.place,act:=.go gs.size},{g:=gs.size,fn:=child.frame.fn,pos:=x.frame.place,act:=.start}]:=rfl
 rw[D8] at bt;obtain⟨T0,zS⟩:=iw.tree;obtain⟨Tc,Je⟩:=Na.tree;have yo:=h.sK gs.size (ϊ _);have Am:=h.wt.spawn ha yo (by omega) (x:={g:=0,fn:=x.frame.fn,pos:=x.frame.place,act:=.go gs.size}) (y:={g:=gs.size,fn:=child.frame.fn,pos:=x.frame.place,act:=.start}) ⟨rfl,rfl⟩ ⟨rfl,rfl⟩ cr child
 have sQ:=acg (N:=gs.size) (x1:={g:=0,fn:=x.frame.fn,pos:=x.frame.place,act:=.go gs.size}) (x2:={g:=gs.size,fn:=child.frame.fn,pos:=x.frame.place,act:=.start}) rfl rfl;generalize hu:(#[{g:=0,fn:=x.frame.fn,pos:=x.frame.place,act:=.go gs.size},{g:=gs.size,fn:=child.frame.fn,pos:=x.frame.place,act:=.start}]:Â)=u at bt Am sQ;have SQ:∀op∈u,op.g<gs.size+1:=by
  rw[<-hu];intro op ae;simp only[à,ϥ,ϸ,or_false] at ae;rcases ae with rfl|rfl
  ·exact Nat.succ_pos _
  ·exact Nat.lt_succ_self _
 have jA:G.closed=χ:=by
  unfold Gh.closed;cases e:G.cp with
  |quit=>rw[e] at br;cases br
  |_=>rfl
 have old:∀ {k a},Ö (t++u) k=φ a->Ö t k=φ a/\(t++u).g? k= t.g? k:=by
  intro k a ha;obtain⟨op,ae,cC⟩:=ć ha;rcases ñ ae with⟨_,bJ⟩ | ⟨_,fK⟩
  ·exact⟨by rw[ĕ bJ];exact cC,by simp[Ð,ae,bJ]⟩
  ·rw[sQ op fK] at cC;cases cC
 have R7:G.j<X.n:=by omega
 have ZW:G.st G.j=.no:=(h.AE G.j R7).2 (ϊ _);refine⟨_,_,_,{G with j:=G.j+1,st:=upd G.st G.j .qI,act:=kj (kj G.act 0 (φ ⟨M.shared,cr,w⟩)) gs.size (φ ⟨M.shared,child,w⟩),tr:=upd (upd G.tr 0 T0) gs.size Tc},bt,?_,?_⟩
 ·refine⟨?_,nV,by simp only;omega,λhc=>(by have hc:G.cp.nK=χ:=hc;rw[br] at hc;cases hc),h.mc,λi hi=>?_,?_,λi hi=>?_,λhc=>(by have hc:G.cp.nK=χ:=hc;rw[br] at hc;cases hc),λg y h1 h2 hy=>?_,λg h1 h2=>?_,λg hg=>?_,?_,?_,λ⟨_,_,e⟩=>(by have e:G.mp=_:=e;rw[hp] at e;cases e),λ⟨r,e⟩=>?_,λ⟨_,_,e⟩=>(by have e:G.mp=_:=e;rw[hp] at e;cases e),Am,h.rj,h.rl,h.neq,h.base,λk a ha hm g hg aj=>?_,λk g hg=>?_,λi hi hq=>?_,λhc k a ha=>?_,λhc=>(by rw[show Gh.closed {G with j:=G.j+1,st:=upd G.st G.j .qI,act:=kj (kj G.act 0 (φ ⟨M.shared,cr,w⟩)) gs.size (φ ⟨M.shared,child,w⟩),tr:=upd (upd G.tr 0 T0) gs.size Tc}=G.closed from rfl,jA] at hc;cases hc)⟩
  ·simp only[Ŵ,ü,br,if_true];omega
  ·by_cases e:i=G.j
   ·subst e;simp only[upd_same];simp
   ·simp only[upd_ne _ _ e]
    rw[h.AE i hi];omega
  ·refine⟨cr,by rw[Bq,if_neg (by omega),if_pos ⟨rfl,qp⟩],?_⟩
   unfold mW;simp only[hp,bR _ _ (show 0≠gs.size by omega),mL,upd_ne _ _ (show 0≠gs.size by omega),upd_same]
   exact⟨_,_,rfl,tH,by rw[qq];exact zS⟩
  ·by_cases e:i=G.j
   ·subst e
    refine⟨child,by rw[Bq,if_pos Eh.symm],?_⟩
    unfold WSit;simp only[upd_same,<-Eh,mL];exact⟨_,_,rfl,DS,Je⟩
   ·have BN:i<G.j+1:=hi
    obtain⟨y',fV,cu⟩:=h.wk i (by omega)
    refine⟨y',by rw[Bq,if_neg (by omega),if_neg (by omega)];exact fV,?_⟩
    exact WSit.congr (G:=G) (by exact upd_ne _ _ e) (by simp only[bR _ _ (show X.N0+i≠gs.size by omega),bR _ _ (show X.N0+i≠0 by omega)]) (by simp only[upd_ne _ _ (show X.N0+i≠gs.size by omega),upd_ne _ _ (show X.N0+i≠0 by omega)]) (by exact rfl) cu
  ·rw[Bq,if_neg (by omega),if_neg (by omega)] at hy
   exact h.old g y h1 h2 hy
  ·simp only[bR _ _ (show g≠gs.size by omega),bR _ _ (show g≠0 by omega)]
   exact h.tV g h1 h2
  ·simp only[Ŵ,ü] at hg
   simp only[bR _ _ (show g≠gs.size by omega),bR _ _ (show g≠0 by omega)]
   exact h.sK g (by omega)
  ·have hq:=GO G.st R7 .qI
   have e1:(G.st G.j).q=0:=by rw[ZW];rfl
   have e2:WS.q .qI=0:=rfl;have dv:=h.cnt;unfold tn at dv |-
   simp only;rw[show sumTo X.n (λa=>(upd G.st G.j .qI a).q)=sumTo X.n (λa=>(G.st a).q) by omega]
   exact dv
  ·have cB:=h.aB
   unfold tt at cB |-
   simp only;rw[hp] at cB |-
   intro i hi hn;by_cases e:i=G.j
   ·subst e;rw[upd_same];rfl
   ·rw[upd_ne _ _ e];exact cB i hi hn
  ·simp only at e
   rw[e] at br;cases br
  ·obtain⟨a1,a2⟩:=old ha
   rw[a2] at hg;exact(h.Cq k a a1 hm g hg aj).app u
  ·simp only[Ŵ,ü]
   unfold Ð at hg;obtain⟨op,ae,e⟩:=Ă.1 hg;rcases ñ ae with⟨_,bJ⟩ | ⟨_,fK⟩
   ·have:=h.zO k g (by simp[Ð,bJ,e]);omega
   ·rw[<-e];exact SQ op fK
  ·by_cases e:i=G.j
   ·subst e;simp only[upd_same] at hq;cases hq
   ·simp only[upd_ne _ _ e] at hq
    exact(h.kq i hi hq).app λop ae _=>sQ op ae
  ·exact h.EE jA k a (old ha).1
 ·have hm:=GF G.st R7 .qI
  have e1:(G.st G.j).wt=6:=by rw[ZW];rfl
  have e2:WS.wt .qI=5:=rfl;unfold Gh.mu;simp only;omega
def arZ(h:FI X wb gs w t G)(sl:Option (Nat×Nat))(hp:G.mp=.spawn)(hr:X.n - G.j=0)(hx:gs[0]?=φ x)(ha:G.act 0=φ ⟨M,x,aO⟩)
 (hS:StopA X 0 M x w):uD X wb gs w sl t G 0:=by
 obtain⟨_,cr,child,ft,tH,DS,Na,iw⟩:=hS;have nV:=h.n0;have yq:=h.jn;have hj:G.j=X.n:=by omega
 have br:G.cp.nK=θ:=by
  cases e:G.cp.nK with
  |true=>rfl
  |false=>exact absurd (h.mc.2 e) (by rw[hp];rintro⟨_,_,e|e⟩<;>cases e)
 have vE:G.cp=.no:=by
  cases e:G.cp with
  |no=>rfl
  |_=>rw[e] at br;cases br
 have Eh:gs.size=X.N0+X.n:=by have:=h.size;rw[br] at this;simp at this;omega
 have qp:0<gs.size:=(Ϝ.1 hx).1
 have bt:=runT_crowd_spawn (P:=X.P) (sl:=sl) (i:=0) hx (show Ϛ X.P (0==0) x w=_ from ft)
 rw[tU] at bt;have D8:(#[].push ({g:=0,fn:=x.frame.fn,pos:=x.frame.place,act:=.go gs.size}:MemOp) |>.push {g:=gs.size,fn:=child.frame.fn,pos:=x.frame.place,act:=.start})=#[{g:=0,fn:=x.frame.fn,pos:=x.frame.place,act:=.go gs.size},{g:=gs.size,fn:=child.frame.fn,pos:=x.frame.place,act:=.start}]:=rfl
 rw[D8] at bt;obtain⟨T0,zS⟩:=iw.tree;obtain⟨Tc,Je⟩:=Na.tree;have yo:=h.sK gs.size (ϊ _);have Am:=h.wt.spawn ha yo (by omega) (x:={g:=0,fn:=x.frame.fn,pos:=x.frame.place,act:=.go gs.size}) (y:={g:=gs.size,fn:=child.frame.fn,pos:=x.frame.place,act:=.start}) ⟨rfl,rfl⟩ ⟨rfl,rfl⟩ cr child
 have sQ:=acg (N:=gs.size) (x1:={g:=0,fn:=x.frame.fn,pos:=x.frame.place,act:=.go gs.size}) (x2:={g:=gs.size,fn:=child.frame.fn,pos:=x.frame.place,act:=.start}) rfl rfl;generalize hu:(#[{g:=0,fn:=x.frame.fn,pos:=x.frame.place,act:=.go gs.size},{g:=gs.size,fn:=child.frame.fn,pos:=x.frame.place,act:=.start}]:Â)=u at bt Am sQ;have SQ:∀op∈u,op.g<gs.size+1:=by
  rw[<-hu];intro op ae;simp only[à,ϥ,ϸ,or_false] at ae;rcases ae with rfl|rfl
  ·exact Nat.succ_pos _
  ·exact Nat.lt_succ_self _
 have jA:G.closed=χ:=by unfold Gh.closed;rw[vE]
 have old:∀ {k a},Ö (t++u) k=φ a->Ö t k=φ a/\(t++u).g? k= t.g? k:=by
  intro k a ha;obtain⟨op,ae,cC⟩:=ć ha;rcases ñ ae with⟨_,bJ⟩ | ⟨_,fK⟩
  ·exact⟨by rw[ĕ bJ];exact cC,by simp[Ð,ae,bJ]⟩
  ·rw[sQ op fK] at cC;cases cC
 refine⟨_,_,_,{G with mp:=.walk X.n [],cp:=.walk X.n,act:=kj (kj G.act 0 (φ ⟨M.shared,cr,w⟩)) gs.size (φ ⟨M.shared,child,w⟩),tr:=upd (upd G.tr 0 T0) gs.size Tc},bt,?_,?_⟩
 ·refine⟨?_,nV,yq,λ_=>hj,⟨λ_=>rfl,λ_=>⟨_,_,.inl rfl⟩⟩,h.AE,?_,λi hi=>?_,λ_=>?_,λg y h1 h2 hy=>?_,λg h1 h2=>?_,λg hg=>?_,?_,?_,λ⟨_,_,e⟩=>(by cases e),λ⟨r,e⟩=>(by cases e),λ⟨_,_,e⟩=>(by cases e),Am,h.rj,?_,h.neq,h.base,λk a ha hm g hg aj=>?_,λk g hg=>?_,λi hi hq=>(h.kq i hi hq).app λop ae _=>sQ op ae,λhc k a ha=>h.EE jA k a (old ha).1,λhc=>(by cases hc)⟩
  ·simp only[Ŵ,ü,CP.nK];simp;omega
  ·refine⟨cr,by rw[Bq,if_neg (by omega),if_pos ⟨rfl,qp⟩],?_⟩
   unfold mW;simp only[bR _ _ (show 0≠gs.size by omega),mL,upd_ne _ _ (show 0≠gs.size by omega),upd_same]
   exact⟨_,_,_,rfl,wO.refl tH,zS⟩
  ·have BN:i<G.j:=hi
   obtain⟨y',fV,cu⟩:=h.wk i hi;refine⟨y',by rw[Bq,if_neg (by omega),if_neg (by omega)];exact fV,?_⟩
   exact WSit.congr (G:=G) (by exact rfl) (by simp only[bR _ _ (show X.N0+i≠gs.size by omega),bR _ _ (show X.N0+i≠0 by omega)]) (by simp only[upd_ne _ _ (show X.N0+i≠gs.size by omega),upd_ne _ _ (show X.N0+i≠0 by omega)]) (by exact rfl) cu
  ·refine⟨child,by rw[Bq,if_pos Eh.symm],?_⟩
   unfold CSit;simp only[<-Eh,mL,upd_same];exact⟨_,_,rfl,DS,Je⟩
  ·rw[Bq,if_neg (by omega),if_neg (by omega)] at hy
   exact h.old g y h1 h2 hy
  ·simp only[bR _ _ (show g≠gs.size by omega),bR _ _ (show g≠0 by omega)]
   exact h.tV g h1 h2
  ·simp only[Ŵ,ü] at hg
   simp only[bR _ _ (show g≠gs.size by omega),bR _ _ (show g≠0 by omega)]
   exact h.sK g (by omega)
  ·have dv:=h.cnt
   unfold tn at dv |-
   rw[vE] at dv;simp only at dv |-
   omega
  ·have cB:=h.aB
   unfold tt at cB |-
   rw[hp] at cB;refine⟨List.nodup_nil,rfl,λi=>⟨λe=>(by cases e),λ⟨h1,h2,h3⟩=>?_⟩⟩
   rw[cB i h1 h2] at h3;cases h3
  ·obtain⟨s,e⟩:=h.rl
   rw[jA] at e;exact⟨s,e⟩
  ·obtain⟨a1,a2⟩:=old ha
   rw[a2] at hg;exact(h.Cq k a a1 hm g hg aj).app u
  ·simp only[Ŵ,ü]
   unfold Ð at hg;obtain⟨op,ae,e⟩:=Ă.1 hg;rcases ñ ae with⟨_,bJ⟩ | ⟨_,fK⟩
   ·have:=h.zO k g (by simp[Ð,bJ,e]);omega
   ·rw[<-e];exact SQ op fK
 ·unfold Gh.mu
  simp only[hp,vE,MP.wt,CP.wt];omega
def WT.close{cL cN:Nat}{act:Nat->Option rQ}(h:WT cL cN w t act)(gY:∀k a,Ö t k=φ a->a.loc≠ .obj cN){x1 x2:MemOp}(hg:x1.g=x2.g)(h1:x1.act=.access ⟨.obj cN,χ,θ⟩)(h2:x2.act=.close cN){w':Ψ}
 (hs:w'.heap.size=w.heap.size)(hk:∀b,b≠cN->w'.heap[b]?=w.heap[b]?)(ht:w'.tape=w.tape)(ho:w'.os=w.os)(hp:w'.output=w.output):WT cL cN w' (t++#[x1,x2]) act:=by
 have mem:∀op∈#[x1,x2],op=x1\/op=x2:=λop ae=>by simpa using ae
 have sp:∀ {k a},Ö (t++#[x1,x2]) k=φ a->Ö t k=φ a\/a.loc=.obj cN:=by
  intro k a ha;obtain⟨op,ae,cC⟩:=ć ha;rcases ñ ae with⟨_,bJ⟩ | ⟨_,fK⟩
  ·exact .inl (by rw[ĕ bJ];exact cC)
  ·rcases mem op fK with rfl|rfl
   ·rw[h1] at cC;simp[Ņ] at cC;subst cC;exact .inr rfl
   ·rw[h2] at cC;cases cC
 refine⟨λg j e=>(h.keep g j e).trans ⟨by rw[hs];exact ϊ _,λb hb=>hk b (h.low g j e b hb).2.2,ht,ho,hp⟩,h.sI,λg j e b hb=>by rw[hs];exact h.low g j e b hb,λop ae=>?_,h.nd.app λop ae=>?_,λsaid=>?_,λg j e k a ha b hb hc=>?_,by rw[hs];exact h.hL,by rw[hs];exact h.hN⟩
 ·rw[hs]
  rcases Array.mem_append.1 ae with ae|ae
  ·exact h.tl op ae
  ·rcases mem op ae with rfl|rfl
   ·rw[h1];exact h.hN
   ·rw[h2];exact h.hN
 ·rcases mem op ae with rfl|rfl
  ·rw[h1];simp
  ·rw[h2];simp
 ·refine noRace_append (g:=x1.g) (h.clean said) (λop ae=>by rcases mem op ae with rfl|rfl;rfl;exact hg.symm) λk a ha op ae b hb hc=>?_
  rcases mem op ae with rfl|rfl
  ·rw[h1] at hb
   simp[Ņ] at hb;subst hb;exact absurd hc.1 (gY k a ha)
  ·rw[h2] at hb;cases hb
 ·rcases sp ha with ha|ha
  ·exact(h.perm g j e k a ha b hb hc).app _
  ·exfalso
   have:xS a.loc cN:=.inl ha;obtain rfl:=Tr hb this;exact(h.low g j e b (hc.imp id (·.1))).2.2 rfl
def closes(h:FI X wb gs w t G)(sl:Option (Nat×Nat))(hp:G.cp=.walk 0)(hx:gs[X.N0+X.n]?=φ x)(ha:G.act (X.N0+X.n)=φ ⟨M,x,aO⟩)
 (hS:AtClose X M x w):uD X wb gs w sl t G (X.N0+X.n):=by
 obtain⟨hrx,alv,mZ⟩:=hS;have nV:=h.n0;have br:G.cp.nK=χ:=by rw[hp];rfl
 have vF:=h.jc br;have jA:G.closed=χ:=by unfold Gh.closed;rw[hp]
 obtain⟨s,hc⟩:=h.rl;rw[jA] at hc;obtain⟨cr,k,ft,hq⟩:=mZ s s hc;have jy:∀i,i<X.n->G.st i=.quit:=by
  have dv:=h.cnt;unfold tn at dv;rw[hp] at dv;exact UF _ _ (by simpa using dv)
 have Ac:X.N0+X.n<gs.size:=(Ϝ.1 hx).1
 have bt:=runT_crowd_go (P:=X.P) (sl:=sl) (i:=X.N0+X.n) hx (by rw[h.zH];exact ft)
 have ym:ħ (X.N0+X.n) x.frame.fn x.frame.place #[⟨.obj X.cN,χ,θ⟩,⟨.obj X.cN,θ,θ⟩]=#[{g:=X.N0+X.n,fn:=x.frame.fn,pos:=x.frame.place,act:=.access ⟨.obj X.cN,χ,θ⟩},{g:=X.N0+X.n,fn:=x.frame.fn,pos:=x.frame.place,act:=.close X.cN}]:=by
  rw[ofEvents_eq];simp[ē]
 rw[ym] at bt;have ZP:(w.shut X.cN s s χ).heap.size=w.heap.size:=by simp[World.shut]
 have ZQ:∀b,b≠X.cN->(w.shut X.cN s s χ).heap[b]?=w.heap[b]?:=λb hb=>by simp only[World.shut];rw[ċ (Λ hb)]
 have ZR:(w.shut X.cN s s χ).heap[X.cN]?=φ (.chan 0 #[] θ s s χ):=by simp[World.shut,h.wt.hN]
 have Am:=h.wt.close (h.EE jA) (x1:={g:=X.N0+X.n,fn:=x.frame.fn,pos:=x.frame.place,act:=.access ⟨.obj X.cN,χ,θ⟩}) (x2:={g:=X.N0+X.n,fn:=x.frame.fn,pos:=x.frame.place,act:=.close X.cN}) rfl rfl rfl (w':=w.shut X.cN s s χ) ZP ZQ rfl rfl rfl;have ajO:∃s',(w.shut X.cN s s χ).heap[X.cL]?=φ (.chan 0 #[] χ s' s' χ):=by
  obtain⟨s',e⟩:=h.rj;exact⟨s',by rw[ZQ _ h.neq];exact e⟩
 have akc:cr.status=.running\/cr.status=.finished:=hq.status;have Cg:∀y,ø X.P x cr (w.shut X.cN s s χ) y=y.again (w.shut X.cN s s χ):=by
  intro y;unfold ø;rw[alv];rcases akc with e|e<;>rw[e]<;>rfl
 have gq:∀ {i:Nat} {y:ϐ},i≠0->i≠X.N0+X.n->gs[i]?=φ y->((gs.map (ø X.P x cr (w.shut X.cN s s χ))).setIfInBounds (X.N0+X.n) cr)[i]?=φ y:=by
  intro i y di Jy hy;rw[ċ (Λ Jy),Ć,hy,ç]
  have:∃n,Ĝ X.P n y:=by
   rcases h.zi (Ϝ.1 hy).1 with e| ⟨h1,h2⟩ | ⟨i',bG,rfl⟩ | ⟨e,_⟩
   ·exact absurd e di
   ·exact⟨_,h.old i y h1 h2 hy⟩
   ·obtain⟨y',fV,cu⟩:=h.wk i' bG
    rw[hy] at fV;obtain rfl:=Ϟ fV;unfold WSit at cu;rw[jy i' (by omega)] at cu
    exact⟨_,cu.2⟩
   ·exact absurd e Jy
  obtain⟨n,hn⟩:=this;rw[woken_quits hn]
 have gc:((gs.map (ø X.P x cr (w.shut X.cN s s χ))).setIfInBounds (X.N0+X.n) cr)[X.N0+X.n]?=φ cr:=QX Ac cr;have aL:((gs.map (ø X.P x cr (w.shut X.cN s s χ))).setIfInBounds (X.N0+X.n) cr).size=gs.size:=by simp
 have Sg:∃y f aB,(G.mp=.walk f aB\/G.mp=.dt f aB)/\((gs.map (ø X.P x cr (w.shut X.cN s s χ))).setIfInBounds (X.N0+X.n) cr)[0]?=φ y/\∃M aO y',G.act 0=φ ⟨M,y',aO⟩/\wO y y'/\tC X.P θ (tB X f aB) (G.tr 0) M y' aO:=by
  obtain⟨y,hy,hs⟩:=h.main;have Ya:((gs.map (ø X.P x cr (w.shut X.cN s s χ))).setIfInBounds (X.N0+X.n) cr)[0]?=φ (ø X.P x cr (w.shut X.cN s s χ) y):=by
   rw[ċ (by omega),Ć,hy,ç]
  unfold mW at hs;cases e:G.mp with
  |spawn=>exact absurd (h.mc.2 br) (by rw[e];rintro⟨_,_,e|e⟩<;>cases e)
  |walk f aB=>
   rw[e] at hs;obtain⟨M,aO,y',h1,h2,h3⟩:=hs;exact⟨y,f,aB,.inl rfl,by rw[Ya,woken_run h2.2.2.2],M,aO,y',h1,h2,h3⟩
  |dt f aB=>
   rw[e] at hs;obtain⟨M,aO,y',z,h1,h2,h3⟩:=hs;refine⟨{Ï y' #[ß X.cN z] (.recv θ) with status:=.running},f,aB,.inr rfl,?_,M,aO,y',h1,⟨rfl,rfl,rfl,rfl⟩,.stop h3⟩
   rw[Ya,Cg,h2,again_recv_closed ZR]
 obtain⟨y0,f,aB,yA,hy0,M0,v0,y0',wX,oG,zS⟩:=Sg;refine⟨_,_,_,{G with mp:=.walk f aB,cp:=.quit,act:=kj G.act (X.N0+X.n) ν,q:=upd G.q (X.N0+X.n) k},bt,?_,?_⟩
 ·refine⟨aL.trans ?_,nV,h.jn,λ_=>vF,⟨λ_=>rfl,λ_=>⟨_,_,.inl rfl⟩⟩,h.AE,⟨y0,hy0,?_⟩,λi hi=>?_,λ_=>⟨cr,gc,?_⟩,λg y h1 h2 hy=>?_,λg h1 h2=>?_,λg hg=>?_,?_,?_,λ⟨_,_,e⟩=>(by cases e),λ⟨r,e⟩=>(by cases e),λ⟨_,_,e⟩=>(by cases e),Am.drop _,ajO,⟨s,ZR⟩,h.neq,⟨by rw[ZP];exact h.base.size,h.base.tape,h.base.os,h.base.e⟩,λi a R0 hm g hg aj=>?_,λi g hg=>?_,λi hi vL=>?_,(λhc=>by cases hc),λ_=>?_⟩
  ·rw[h.size,br];rfl
  ·unfold mW
   simp only[bR _ _ (show 0≠X.N0+X.n by omega)]
   exact⟨M0,v0,y0',wX,oG,zS⟩
  ·have BN:i<G.j:=hi
   obtain⟨y',fV,cu⟩:=h.wk i hi;refine⟨y',gq (by omega) (by omega) fV,?_⟩
   exact WSit.congr (G:=G) (by exact rfl) (by simp only[bR _ _ (show X.N0+i≠X.N0+X.n by omega)]) (by exact rfl) (by simp only[upd_ne _ _ (show X.N0+i≠X.N0+X.n by omega)]) cu
  ·unfold CSit
   simp only[mL,upd_same];exact⟨trivial,hq⟩
  ·have tO:gs[g]?=φ y:=by
    have aj:g<gs.size:=by rw[<-aL];exact(Ϝ.1 hy).1
    have e1:=gq (i:=g) (y:=gs[g]) (by omega) (by omega) (â aj)
    rw[hy] at e1;rw[â aj]
    exact e1.symm
   simp only[upd_ne _ _ (show g≠X.N0+X.n by omega)]
   exact h.old g y h1 h2 tO
  ·simp only[bR _ _ (show g≠X.N0+X.n by omega)]
   exact h.tV g h1 h2
  ·rw[aL] at hg
   simp only[bR _ _ (show g≠X.N0+X.n by omega)]
   exact h.sK g hg
  ·have dv:=h.cnt
   unfold tn at dv |-
   rw[hp] at dv;simpa using dv
  ·have cB:=h.aB
   unfold tt at cB |-
   rcases yA with e|e<;>rw[e] at cB<;>exact cB
  ·obtain⟨op,ae,cC⟩:=ć R0
   rcases ñ ae with⟨_,bJ⟩ | ⟨_,fK⟩
   ·exact(h.Cq i a (by rw[ĕ bJ];exact cC) hm g (by simpa [Ð,ae,bJ] using hg) aj).app _
   ·exfalso
    have e:op.g=g:=by simpa [Ð,ae] using hg
    simp only[à,ϥ,ϸ,or_false] at fK;rcases fK with rfl|rfl<;>(simp only at e;omega)
  ·rw[aL]
   unfold Ð at hg;obtain⟨op,ae,e⟩:=Ă.1 hg;rcases ñ ae with⟨_,bJ⟩ | ⟨_,fK⟩
   ·exact h.zO i g (by simp[Ð,bJ,e])
   ·simp only[à,ϥ,ϸ,or_false] at fK
    rcases fK with rfl|rfl<;>(simp only at e;omega)
  ·refine(h.kq i hi vL).app λop ae e=>?_
   exfalso;simp only[à,ϥ,ϸ,or_false] at ae;rcases ae with rfl|rfl<;>(simp only at e;omega)
  ·have e1:(t++#[({g:=X.N0+X.n,fn:=x.frame.fn,pos:=x.frame.place,act:=.access ⟨.obj X.cN,χ,θ⟩}:MemOp),{g:=X.N0+X.n,fn:=x.frame.fn,pos:=x.frame.place,act:=.close X.cN}])[t.size+1]?=φ {g:=X.N0+X.n,fn:=x.frame.fn,pos:=x.frame.place,act:=.close X.cN}:=by
    rw[Aek (by omega)];simp
   refine⟨t.size+1,_,e1,rfl,rfl,λi a R0 g hg qm=>?_⟩
   obtain⟨op,ae,cC⟩:=ć R0;rcases ñ ae with⟨_,bJ⟩ | ⟨auN,fK⟩
   ·have JW:Ö t i=φ a:=by rw[ĕ bJ];exact cC
    have Ga: t.g? i=φ g:=by simpa [Ð,ae,bJ] using hg
    have aj:=h.zO i g Ga;have cM:Knows t (X.N0+X.n) i:=by
     rcases h.zi aj with e| ⟨_,e⟩ | ⟨i',bG,e⟩ | ⟨e,_⟩
     ·omega
     ·omega
     ·subst e;exact h.kq i' (by omega) (jy i' (by omega)) i a JW Ga
     ·subst e;exact zF.self t _ i a JW Ga
    exact .inr (cM.hb_new (by omega) e1 rfl)
   ·have Jw:i=t.size:=by
     have:= Ae7 ae;simp at this;by_cases e:i=t.size
     ·exact e
     ·have e3:i=t.size+1:=by omega
      subst e3;rw[e1] at ae;obtain rfl:=Ϟ ae;cases cC
    subst Jw;exact .inr (hb_po (by omega) ae e1 (by simp only[à,ϥ,ϸ,or_false] at fK;rcases fK with rfl|rfl<;>rfl))
 ·unfold Gh.mu
  simp only[hp,CP.wt,MP.wt];rcases yA with e|e<;>rw[e]<;>simp only[MP.wt]<;>omega
def Ends(X:Pm)(wb:Ψ)(aY:Array ϐ)(w':Ψ)(t':Â):Prop:=
 ∃q' g' M aB,Fr X.P aY w' t' q' g'/\X.End aB M g' w'/\aB.Nodup/\(∀i,i∈aB↔i<X.n/\X.cR i=θ)/\Base wb w'/\∀b,M.has b->b<w'.heap.size
def ends(h:FI X wb gs w t G)(sl:Option (Nat×Nat))(mZ:G.closed=θ)(hp:G.mp=.walk f aB)(h0:gs[0]?=φ x)(ha:G.act 0=φ ⟨M,y,v0⟩)(oG:wO x y)
 (hR:tB X f aB M y w):∃aY u,runT X.P (æ gs w sl) 0=(.next (æ aY w sl),u)/\Ends X wb aY w (t++u):=by
 obtain⟨_,_,z,ft,xc⟩:=hR.at;have nV:=h.n0;have br:=CP.agl mZ;have vF:=h.jc br;have jy:=h.LF mZ;obtain⟨s,hc⟩:=h.rl;rw[mZ] at hc;have D5:Ĕ (gs.setIfInBounds 0 ph) X.cN θ=[]:=by
  refine Afg λj y hy=>?_
  rcases Ń gs _ j y hy with⟨_,rfl⟩ | ⟨hj,hy⟩
  ·exact ń _ _
  ·cases hl:Š y X.cN θ with
   |nil=>rfl
   |cons a l=>
    exfalso;obtain⟨e,g,v,z',hyp⟩:=TT h (m:=a) hy (by rw[hl];simp)
    rw[hyp] at hy;obtain⟨i,_,_,_,hi,_,aW,_⟩:=h.P5 hy;rw[jy i (by omega)] at aW
    cases aW
 have vO:Ϛ X.P (0==0) x w=.comm y #[ß X.cN z] θ (.recv θ) w #[]:=by
  rw[Afj oG.1 oG.2.1 oG.2.2.1];exact ft
 have bt:=crowd_recv_closed (P:=X.P) (sl:=sl) h0 vO hc D5;rw[tU,Aem] at bt;have qp:0<gs.size:=(Ϝ.1 h0).1
 let y1:MemOp:={g:=0,fn:=y.frame.fn,pos:=y.frame.place,act:=.recvClosed X.cN}
 have hm:=h.wt.mute (u:=#[y1]) (w':=w) (λop ae=>by
  simp only[à,Ã] at ae;subst ae;exact⟨rfl,h.wt.hN,by simp[y1],by simp[y1]⟩) rfl (λ_ _ _=>rfl) rfl rfl rfl
 have e1:(t++#[y1])[t.size]?=φ y1:=by rw[Aek (ϊ _)];simp
 obtain⟨c,zc,c1,c2,c3,c4⟩:=h.IQ mZ;have ec:(t++#[y1])[c]?=φ zc:=by rw[Ae6 (Ae7 c1)];exact c1
 have Y9:∀k a,Ö (t++#[y1]) k=φ a->a.loc.isMemory=θ->Knows (t++#[y1]) 0 k:=by
  intro k a BR hmm;obtain⟨op,ae,cC⟩:=ć BR;rcases ñ ae with⟨hk,bJ⟩ | ⟨_,fK⟩
  ·have JW:Ö t k=φ a:=by rw[ĕ bJ];exact cC
   by_cases hg:op.g<X.N0
   ·exact(h.Cq k a JW hmm op.g (by simp[Ð,bJ]) hg).app _
   ·have hb:=c4 k a JW op.g (by simp[Ð,bJ]) (by omega)
    have ahi:HappensBefore (t++#[y1]) c t.size:=.single (.inr ⟨.closed (c:=X.cN) (by rw[act?_of ec,c2]) (by rw[act?_of e1]),NC hm.nd ec,NC hm.nd e1⟩)
    exact⟨t.size,y1,e1,rfl,.inr ((hb.app #[y1]).hb ahi)⟩
  ·simp only[à,Ã] at fK
   subst fK;cases cC
 have DX:∀op∈t++#[y1],op.g<(gs.setIfInBounds 0 (Ϩ y (ð θ z χ))).size:=by
  intro op ae;rw[ü];obtain⟨k,hk⟩:=Array.getElem?_of_mem ae
  rcases ñ hk with⟨_,vH⟩ | ⟨_,vH⟩
  ·exact h.zO k op.g (by simp[Ð,vH])
  ·simp only[à,Ã] at vH
   subst vH;exact qp
 refine⟨_,_,bt,G.q,Ϩ y (ð θ z χ),M,aB,⟨by rw[one_set,if_pos ⟨rfl,qp⟩];rfl,λi xi hi J5=>?_,⟨hm.clean,λk a BR hmm=>.inl (Y9 k a BR hmm),λk g hg au dv=>?_,Ku hm.nd 0,hm.tl⟩,hm.nd,DX⟩,xc,?_,?_,h.base,λb hb=>(h.wt.low 0 _ ha b hb).1⟩
 ·rw[one_set,if_neg (by omega)] at J5
  rcases h.zi (Ϝ.1 J5).1 with e| ⟨h1,h2⟩ | ⟨i',bG,rfl⟩ | ⟨rfl,_⟩
  ·omega
  ·exact h.old i xi h1 h2 J5
  ·obtain⟨y',fV,cu⟩:=h.wk i' bG
   rw[J5] at fV;obtain rfl:=Ϟ fV;unfold WSit at cu;rw[jy i' (by omega)] at cu
   exact cu.2
  ·obtain⟨y',fV,cu⟩:=h.cl br
   rw[J5] at fV;obtain rfl:=Ϟ fV;unfold CSit at cu;unfold Gh.closed at mZ;cases e:G.cp with
   |quit=>rw[e] at cu;exact cu.2
   |_=>rw[e] at mZ;cases mZ
 ·obtain⟨a,ha,hmm,_⟩:=dv
  obtain⟨q,z',Af,Ag,Sy⟩:=Y9 k a ha hmm;rcases Sy with rfl|Sy
  ·exfalso
   apply au;have:(t++#[y1]).g? k=φ z'.g:=by unfold Ð;rw[Af];rfl
   have e:φ z'.g=φ g:=this.symm.trans hg;rw[Ag] at e;exact(Ϟ e).symm
  ·exact⟨q,by unfold Ð;rw[Af,ç,Ag],Sy⟩
 ·have cB:=h.aB
  unfold tt at cB;rw[hp] at cB;exact cB.1
 ·have cB:=h.aB
  unfold tt at cB;rw[hp] at cB;intro i;rw[cB.2.2 i];exact⟨λ⟨a,b,_⟩=>⟨a,b⟩,λ⟨a,b⟩=>⟨a,b,by rw[jy i a];rfl⟩⟩
def Lw(X:Pm)(G' G:Gh):Prop:=
 G'.mu X<G.mu X\/(G'.mu X=G.mu X/\(Fj (X.N0+X.n+1) G'.tr G.tr\/(G'.tr=G.tr/\sumTo (X.N0+X.n+1) G'.q<sumTo (X.N0+X.n+1) G.q)))
def ah5(h:FI X wb gs w t G)(sl:Option (Nat×Nat)):
 (∃aY w' bz u,stepT X.P (æ gs w sl)=(.next (æ aY w' bz),u)/\Ends X wb aY w' (t++u))\/
 ∃aY w' bz u G',stepT X.P (æ gs w sl)=(.next (æ aY w' bz),u)/\FI X wb aY w' (t++u) G'/\Lw X G' G:=by
 obtain⟨k,x,d,bz,hx,bt,aW⟩:=crowd_pick (P:=X.P) (w:=w) (sl:=sl) h.awake h.arI;have h1:=h.at d;have nV:=h.n0;have yq:=h.jn;have wQ:uD X wb gs (w.at d) bz t G k->∃aY w' bz u G',stepT X.P (æ gs w sl)=(.next (æ aY w' bz),u)/\FI X wb aY w' (t++u) G'/\Lw X G' G:=by
  rintro⟨aY,w',u,G',r1,r2,r3⟩;exact⟨aY,w',bz,u,G',aW.trans r1,r2,.inl r3⟩
 have II:∀ {j:rQ} {T':Tree} {g':ϐ} {w':Ψ} {es:Array Event},G.act k=φ j->Ϛ X.P (k==0) x (w.at d)=.go g' w' es->j4 j.M (w.at d) w' es->Tree.lt T' (G.tr k)->k<X.N0+X.n+1->
  Wd X {G with act:=kj G.act k (φ ⟨j.M.grow (w.at d) w',g',w'⟩),tr:=upd G.tr k T'} k g'->∃aY w' bz u G',stepT X.P (æ gs w sl)=(.next (æ aY w' bz),u)/\FI X wb aY w' (t++u) G'/\Lw X G' G:=by
  intro j T' g' w' es uM ft hd hT hk xq;refine⟨_,w',bz,_,_,aW.trans (runT_crowd_go hx ft),h1.own hx uM hd T' _ _ xq,.inr ⟨rfl,.inl ⟨k,hk,?_,λi hi=>?_⟩⟩⟩
  ·show Tree.lt (upd G.tr k T' k) _
   rw[upd_same];exact hT
  ·exact upd_ne _ _ hi
 have Qh:Ĝ X.P (G.q k) x->k<X.N0+X.n+1->k≠0->((0<k/\k<X.N0)\/(∃i,i<G.j/\k=X.N0+i/\G.st i=.quit)\/(k=X.N0+X.n/\G.closed=θ))->∃aY w' bz u G',stepT X.P (æ gs w sl)=(.next (æ aY w' bz),u)/\FI X wb aY w' (t++u) G'/\Lw X G' G:=by
  intro hq hk oC xq;have akk:(k==0)=χ:=by simpa using oC
  cases Sz:G.q k with
  |zero=>rw[Sz] at hq;rw[show x.status=.finished from hq] at bt;cases bt
  |succ m=>
   rw[Sz] at hq;rcases hq with hf| ⟨_,g',JU,vK⟩
   ·rw[hf] at bt;cases bt
   have hr:=runT_crowd_go (P:=X.P) (sl:=bz) (i:=k) hx (by rw[akk];exact JU (w.at d))
   rw[tU] at hr;refine⟨_,w.at d,bz,#[],{G with q:=upd G.q k m},aW.trans hr,by rw[á];exact h1.apQ hx xq vK,.inr ⟨rfl,.inr ⟨rfl,?_⟩⟩⟩
   have M8:sumTo (X.N0+X.n+1) (upd G.q k m)+(m+1)=sumTo (X.N0+X.n+1) G.q+m:=by
    have:=sumTo_upd G.q m id hk;simpa [Sz] using this
   show sumTo (X.N0+X.n+1) (upd G.q k m)<_;omega
 rcases h.zi (Ϝ.1 hx).1 with rfl| ⟨k1,k2⟩ | ⟨i,hi,rfl⟩ | ⟨rfl,br⟩
 ·
  obtain⟨x',oI,hs⟩:=h.main;rw[hx] at oI;obtain rfl:=Ϟ oI;unfold mW at hs;cases e:G.mp with
  |spawn=>
   rw[e] at hs;obtain⟨M,aO,ha,hr,hT⟩:=hs;have hk:=h1.wt.keep 0 _ ha;rcases hT.ya with sf| ⟨_,hgo⟩
   ·right
    cases qq:X.n - G.j with
    |zero=>exact wQ (arZ h1 bz e qq hx ha (by rw[qq] at sf;exact sf _ hk))
    |succ r=>exact wQ (ar0 h1 bz e qq hx ha (by rw[qq] at sf;exact sf _ hk))
   ·right
    obtain⟨T',g',w',es,aj,ft,hd,rX⟩:=hgo _ hk;refine II ha ft hd aj (by omega) (.inl ⟨rfl,?_⟩)
    unfold mW;simp only[e,mL,upd_same];refine⟨_,_,rfl,?_,rX⟩
    rcases rX.ya with fA| ⟨qq,_⟩
    ·have:=fA _ (bQ.refl _ _)
     revert this
     cases X.n - G.j with
     |zero=>exactλh=>h.1
     |succ r=>exactλh=>h.1
    ·exact qq
  |walk f aB=>
   rw[e] at hs;obtain⟨M,aO,y,ha,oG,hT⟩:=hs;have hk:=h1.wt.keep 0 _ ha;rcases hT.ya with sf| ⟨_,hgo⟩
   ·by_cases mZ:G.closed=θ
    ·left
     obtain⟨aY,u,r1,r2⟩:=ends h1 bz mZ e hx ha oG (sf _ hk);exact⟨aY,_,bz,u,aW.trans r1,r2⟩
    ·right
     by_cases hex:∃i,i<X.n/\G.st i=.pb
     ·exact wQ (ap0 h1 bz e hx ha oG sf hex)
     ·exact wQ (ap1 h1 bz e hx ha oG sf (by simpa using mZ) hex)
   ·right
    obtain⟨T',g',w',es,aj,ft,hd,rX⟩:=hgo _ hk;have alc:Ϛ X.P (0==0) x (w.at d)=.go g' w' es:=by rw[Afj oG.1 oG.2.1 oG.2.2.1];exact ft
    refine II ha alc hd aj (by omega) (.inl ⟨rfl,?_⟩)
    unfold mW;simp only[e,mL,upd_same];refine⟨_,_,_,rfl,wO.refl ?_,rX⟩
    rcases rX.ya with fA| ⟨qq,_⟩
    ·exact(fA _ (bQ.refl _ _)).at.1
    ·exact qq
  |dt f aB=>
   rw[e] at hs;obtain⟨M,aO,y,z,ha,hr,hT⟩:=hs;rw[hr] at bt;cases bt
 ·right;exact Qh (h.old k x k1 k2 hx) (by omega) (by omega) (.inl ⟨k1,k2⟩)
 ·
  right;obtain⟨x',oI,hs⟩:=h.wk i hi;rw[hx] at oI;obtain rfl:=Ϟ oI;have wY:(X.N0+i==0)=χ:=h.zH i;have acy:∀ {M:ay} {aO:Ψ},CZ X G i->G.act (X.N0+i)=φ ⟨M,x,aO⟩->W2 X M x (w.at d)->uD X wb gs (w.at d) bz t G (X.N0+i):=by
   intro M aO hd ha hW;by_cases hp:∃r,G.cp=.dt r
   ·obtain⟨r,hp⟩:=hp
    exact arq h1 bz hi hd hx ha hW hp
   ·exact ars h1 bz hi hd hx ha hW hp
  unfold WSit at hs;cases e:G.st i with
  |no=>rw[e] at hs;exact hs.elim
  |qI=>
   rw[e] at hs;obtain⟨M,aO,ha,hr,hT⟩:=hs;have hk:=h1.wt.keep _ _ ha;rcases hT.ya with sf| ⟨_,hgo⟩
   ·rcases sf _ hk with⟨hn,hS⟩ | ⟨hn,hS⟩
    ·by_cases hp:∃f aB,G.mp=.dt f aB
     ·obtain⟨f,aB,hp⟩:=hp
      exact wQ (art h1 bz hi e hx ha hn hS hp)
     ·exact wQ (aru h1 bz hi e hx ha hn hS hp)
    ·exact wQ (acy (.inr ⟨e,hn⟩) ha hS)
   ·obtain⟨T',g',w',es,aj,ft,hd,rX⟩:=hgo _ hk
    refine II ha (by rw[wY];exact ft) hd aj (by omega) (.inr (.inl ⟨i,hi,rfl,?_⟩))
    unfold WSit;simp only[e,mL,upd_same];refine⟨_,_,rfl,?_,rX⟩
    rcases rX.ya with fA| ⟨qq,_⟩
    ·rcases fA _ (bQ.refl _ _) with⟨_,hS⟩ | ⟨_,hS⟩
     ·exact hS.1
     ·exact hS.1
    ·exact qq
  |pb=>
   rw[e] at hs;obtain⟨M,aO,y,z,ha,hr,_⟩:=hs;rw[hr] at bt;cases bt
  |oO=>
   rw[e] at hs;obtain⟨M,aO,ha,hr,hT⟩:=hs;have hk:=h1.wt.keep _ _ ha;rcases hT.ya with sf| ⟨_,hgo⟩
   ·exact wQ (acy (.inl e) ha (sf _ hk))
   ·obtain⟨T',g',w',es,aj,ft,hd,rX⟩:=hgo _ hk
    refine II ha (by rw[wY];exact ft) hd aj (by omega) (.inr (.inl ⟨i,hi,rfl,?_⟩))
    unfold WSit;simp only[e,mL,upd_same];refine⟨_,_,rfl,?_,rX⟩
    rcases rX.ya with fA| ⟨qq,_⟩
    ·exact(fA _ (bQ.refl _ _)).1
    ·exact qq
  |oM=>
   rw[e] at hs;obtain⟨M,aO,y,z,ha,hr,_⟩:=hs;rw[hr] at bt;cases bt
  |quit=>
   rw[e] at hs;exact Qh hs.2 (by omega) (by omega) (.inr (.inl ⟨i,hi,rfl,e⟩))
 ·
  right;obtain⟨x',oI,hs⟩:=h.cl br;rw[hx] at oI;obtain rfl:=Ϟ oI;have wY:(X.N0+X.n==0)=χ:=h.zH X.n;unfold CSit at hs;cases e:G.cp with
  |no=>rw[e] at hs;exact hs.elim
  |walk r=>
   rw[e] at hs;obtain⟨M,aO,ha,hr,hT⟩:=hs;have hk:=h1.wt.keep _ _ ha;rcases hT.ya with sf| ⟨_,hgo⟩
   ·cases r with
    |zero=>exact wQ (closes h1 bz e hx ha (sf _ hk))
    |succ r=>
     by_cases hex:∃i,i<X.n/\G.st i=.oM
     ·exact wQ (apY h1 bz e hx ha (sf _ hk) hex)
     ·exact wQ (apZ h1 bz e hx ha (sf _ hk) hex)
   ·obtain⟨T',g',w',es,aj,ft,hd,rX⟩:=hgo _ hk
    refine II ha (by rw[wY];exact ft) hd aj (by omega) (.inr (.inr ⟨rfl,br,?_⟩))
    unfold CSit;simp only[e,mL,upd_same];refine⟨_,_,rfl,?_,rX⟩
    rcases rX.ya with fA| ⟨qq,_⟩
    ·have:=fA _ (bQ.refl _ _)
     revert this
     cases r with
     |zero=>exactλh=>h.1
     |succ r=>exactλh=>h.1
    ·exact qq
  |dt r=>
   rw[e] at hs;obtain⟨r',M,aO,y,z,_,ha,hr,_⟩:=hs;rw[hr] at bt;cases bt
  |quit=>
   rw[e] at hs;exact Qh hs.2 (by omega) (by omega) (.inr (.inr ⟨rfl,by unfold Gh.closed;rw[e]⟩))
def ah4:∀ {gs:Array ϐ} {w:Ψ} {t:Â} {G:Gh} (sl:Option (Nat×Nat)),FI X wb gs w t G->
 ∃N aY w' bz t',runNT X.P N (æ gs w sl) t=(.next (æ aY w' bz),t')/\Ends X wb aY w' t':=by
 have key:∀(m:Nat) (tr:Nat->Tree),Acc (Fj (X.N0+X.n+1)) tr->∀(s:Nat) {gs:Array ϐ} {w:Ψ} {t:Â} {G:Gh} (sl:Option (Nat×Nat)),G.mu X=m->G.tr=tr->sumTo (X.N0+X.n+1) G.q=s->FI X wb gs w t G->
  ∃N aY w' bz t',runNT X.P N (æ gs w sl) t=(.next (æ aY w' bz),t')/\Ends X wb aY w' t':=by
  intro m;induction m using Nat.strongRecOn with
  |_ m ihm=>
   intro tr Jh;induction Jh with
   |intro tr _ alM=>
    intro s;induction s using Nat.strongRecOn with
    |_ s ihs=>
     intro gs w t G sl sQ vP M8 hF;rcases ah5 hF sl with⟨aY,w',bz,u,r1,r2⟩ | ⟨aY,w',bz,u,G',r1,r2,r3⟩
     ·exact⟨1,aY,w',bz,t++u,by simp only[runNT,r1],r2⟩
     ·have fin:(∃N Mh bB td t',runNT X.P N (æ aY w' bz) (t++u)=(.next (æ Mh bB td),t')/\Ends X wb Mh bB t')->∃N aY w' bz t',runNT X.P N (æ gs w sl) t=(.next (æ aY w' bz),t')/\Ends X wb aY w' t':=by
       rintro⟨N,Mh,bB,td,t',q1,q2⟩;exact⟨N+1,Mh,bB,td,t',by simp only[runNT,r1];exact q1,q2⟩
      apply fin;rcases r3 with aj| ⟨he,ft| ⟨alk,aj⟩⟩
      ·exact ihm _ (by rw[<-sQ];exact aj) G'.tr (ach _ _) _ bz rfl rfl rfl r2
      ·exact alM G'.tr (by rw[<-vP];exact ft) _ bz (he.trans sQ) rfl rfl r2
      ·exact ihs _ (by rw[<-M8];exact aj) bz (he.trans sQ) (alk.trans vP) rfl r2
 exactλ{gs w t G} sl hF=>key _ _ (ach _ _) _ sl rfl rfl rfl hF
end
end Go.Sim
namespace Go.Tw
open Go Go.Proofs Go.Sim
class aJ where
 N9:Func
variable [aJ]
def dead:Func:={Tryz.f38 with name:= "left out",body:=ν}
def bad:List Nat:=[0,1,21,38,120,121,124,218,219,220,221,222,223,224,225,226,227,228,229,230,231,232,233,237,238,239]
def An(f:Nat):Bool:=bad.contains f
def F:Array Func:=(ϋ.funcs.mapIdx λi fn=>if An i then dead else fn).setIfInBounds 21 aJ.N9
def prog:Program:=tw ϋ F
def asO(P:Program)(F:Array Func):(tw P F).funcs=F:=rfl
def TZ:prog.funcs=F:=asO _ _
def afh(h:P.funcs[f]?=φ fn)(hb:fn.body.isSome=θ):∀g,P.funcs[f]?=φ g->g.body.isSome=θ:=by
 intro g hg;rw[h] at hg;cases hg;exact hb
def Vz(f:Nat)(h:An f=χ):F[f]?=ϋ.funcs[f]?:=by
 have yh:21≠f:=by rintro rfl;exact absurd h (by decide)
 unfold F;rw[Ó,if_neg yh,Aeo]
 cases ϋ.funcs[f]? with
 |none=>rfl
 |some fn=>simp only[ç,h,Bool.false_eq_true,if_false]
def adw(f:Nat)(h:An f=θ)(yh:21≠f):F[f]?=ν\/F[f]?=φ dead:=by
 unfold F;rw[Ó,if_neg yh,Aeo]
 cases ϋ.funcs[f]? with
 |none=>exact .inl rfl
 |some fn=>right;simp only[ç,h,if_true]
def E4:F[21]?=φ aJ.N9:=by
 have hs:21<ϋ.funcs.size:=by
  apply Ø;intro h;have:=Tryz.func21;rw[Ô (by omega)] at this;exact absurd this (by simp)
 unfold F;rw[Ó,if_pos rfl,if_pos (by simpa using hs)]
def get(f:Nat)(h:An f=χ):prog.funcs[f]?=ϋ.funcs[f]?:=by rw[TZ];exact Vz f h
def aQ{g:Func}(h:An f=χ)(k:ϋ.funcs[f]?=φ g):prog.funcs[f]?=φ g:=(get f h).trans k
def func20:=aQ rfl Tryz.func20
def func22:=aQ rfl Tryz.func22
def func24:=aQ rfl Tryz.func24
def func26:=aQ rfl Tryz.func26
def func28:=aQ rfl Tryz.func28
def func30:=aQ rfl Tryz.func30
def func31:=aQ rfl Tryz.func31
def func33:=aQ rfl Tryz.func33
def func35:=aQ rfl Tryz.func35
def func36:=aQ rfl Tryz.func36
def func40:=aQ rfl Tryz.func40
def func43:=aQ rfl Tryz.func43
def func47:=aQ rfl Tryz.func47
def func48:=aQ rfl Tryz.func48
def func49:=aQ rfl Tryz.func49
def func50:=aQ rfl Tryz.func50
def func51:=aQ rfl Tryz.func51
def func53:=aQ rfl Tryz.func53
def func56:=aQ rfl Tryz.func56
def func57:=aQ rfl Tryz.func57
def func61:=aQ rfl Tryz.func61
def func62:=aQ rfl Tryz.func62
def func66:=aQ rfl Tryz.func66
def func67:=aQ rfl Tryz.func67
def func68:=aQ rfl Tryz.func68
def func69:=aQ rfl Tryz.func69
def func75:=aQ rfl Tryz.func75
def func94:=aQ rfl Tryz.func94
def func95:=aQ rfl Tryz.func95
def func96:=aQ rfl Tryz.func96
def func98:=aQ rfl Tryz.func98
def func99:=aQ rfl Tryz.func99
def func100:=aQ rfl Tryz.func100
def func101:=aQ rfl Tryz.func101
def func102:=aQ rfl Tryz.func102
def func104:=aQ rfl Tryz.func104
def func107:=aQ rfl Tryz.func107
def func108:=aQ rfl Tryz.func108
def func109:=aQ rfl Tryz.func109
def func110:=aQ rfl Tryz.func110
def func113:=aQ rfl Tryz.func113
def func114:=aQ rfl Tryz.func114
def func115:=aQ rfl Tryz.func115
def func117:=aQ rfl Tryz.func117
def func119:=aQ rfl Tryz.func119
def func122:=aQ rfl Tryz.func122
def func123:=aQ rfl Tryz.func123
def func126:=aQ rfl Tryz.func126
def func127:=aQ rfl Tryz.func127
def func128:=aQ rfl Tryz.func128
def func132:=aQ rfl Tryz.func132
def func133:=aQ rfl Tryz.func133
def func134:=aQ rfl Tryz.func134
def func135:=aQ rfl Tryz.func135
def func136:=aQ rfl Tryz.func136
def func138:=aQ rfl Tryz.func138
def func139:=aQ rfl Tryz.func139
def func141:=aQ rfl Tryz.func141
def func142:=aQ rfl Tryz.func142
def func143:=aQ rfl Tryz.func143
def func144:=aQ rfl Tryz.func144
def func145:=aQ rfl Tryz.func145
def func146:=aQ rfl Tryz.func146
def func147:=aQ rfl Tryz.func147
def func150:=aQ rfl Tryz.func150
def func154:=aQ rfl Tryz.func154
def func155:=aQ rfl Tryz.func155
def func158:=aQ rfl Tryz.func158
def func162:=aQ rfl Tryz.func162
def func163:=aQ rfl Tryz.func163
def func164:=aQ rfl Tryz.func164
def func165:=aQ rfl Tryz.func165
def func166:=aQ rfl Tryz.func166
def func169:=aQ rfl Tryz.func169
def func170:=aQ rfl Tryz.func170
def func171:=aQ rfl Tryz.func171
def func172:=aQ rfl Tryz.func172
def func173:=aQ rfl Tryz.func173
def func174:=aQ rfl Tryz.func174
def func175:=aQ rfl Tryz.func175
def func176:=aQ rfl Tryz.func176
def func177:=aQ rfl Tryz.func177
def func178:=aQ rfl Tryz.func178
def func179:=aQ rfl Tryz.func179
def func180:=aQ rfl Tryz.func180
def func181:=aQ rfl Tryz.func181
def func182:=aQ rfl Tryz.func182
def func183:=aQ rfl Tryz.func183
def func184:=aQ rfl Tryz.func184
def func185:=aQ rfl Tryz.func185
def func186:=aQ rfl Tryz.func186
def func187:=aQ rfl Tryz.func187
def func188:=aQ rfl Tryz.func188
def func189:=aQ rfl Tryz.func189
def func190:=aQ rfl Tryz.func190
def func191:=aQ rfl Tryz.func191
def func192:=aQ rfl Tryz.func192
def func193:=aQ rfl Tryz.func193
def func194:=aQ rfl Tryz.func194
def func195:=aQ rfl Tryz.func195
def func196:=aQ rfl Tryz.func196
def func197:=aQ rfl Tryz.func197
def func198:=aQ rfl Tryz.func198
def func199:=aQ rfl Tryz.func199
def func200:=aQ rfl Tryz.func200
def func201:=aQ rfl Tryz.func201
def func202:=aQ rfl Tryz.func202
def func203:=aQ rfl Tryz.func203
def func204:=aQ rfl Tryz.func204
def func205:=aQ rfl Tryz.func205
def func206:=aQ rfl Tryz.func206
def func207:=aQ rfl Tryz.func207
def func208:=aQ rfl Tryz.func208
def func209:=aQ rfl Tryz.func209
def func210:=aQ rfl Tryz.func210
def func211:=aQ rfl Tryz.func211
def func212:=aQ rfl Tryz.func212
def func213:=aQ rfl Tryz.func213
def func214:=aQ rfl Tryz.func214
def func215:=aQ rfl Tryz.func215
def func216:=aQ rfl Tryz.func216
def func217:=aQ rfl Tryz.func217
def func234:=aQ rfl Tryz.func234
def func235:=aQ rfl Tryz.func235
def func236:=aQ rfl Tryz.func236
section
variable (P:Program)(F:Array Func)
def acI(t:ό)(w:Ψ):(typeInfo t).run (tw P F) w=(typeInfo t).run P w:=by
 simp only[typeInfo,Go.program,Sem.run,bind,Sem.bind,rI];cases P.info? t<;>rfl
def acG(t:ό)(w:Ψ):(Go.underlying t).run (tw P F) w=(Go.underlying t).run P w:=by
 simp only[Go.underlying,Go.program,Sem.run,bind,Sem.bind,pT];cases P.underlying t<;>rfl
def asQ(t:ό)(w:Ψ):(sizeOf t).run (tw P F) w=(sizeOf t).run P w:=by
 simp only[sizeOf,Afv,acI,Afw]
def asT(t:ό)(w:Ψ):(zeroValue t).run (tw P F) w=(zeroValue t).run P w:=by
 unfold zeroValue;rw[Afv,Afv,acI];congr 1;funext i w;cases i.zero with
 |none=>simp only[unsupported,Sem.run]
 |some v=>simp only[Afw]
def asP(t:ό)(w:Ψ):(isAgg t).run (tw P F) w=(isAgg t).run P w:=by
 unfold isAgg;rw[Afv,Afv,acG];congr 1;funext i w;cases i<;>simp only[Afw]
def asM{P:Program}{F:Array Func}(h:(tw P F).funcs[f]?=P.funcs[f]?)(args:Array υ)(w:Ψ)(hs:∀fn,P.funcs[f]?=φ fn->fn.body.isSome=θ){r:Result Next}(hr:(callFunc f args).run P w=r):(callFunc f args).run (tw P F) w=r:=by
 rw[<-hr];simp only[callFunc,Go.program,Sem.run,bind,Sem.bind,h];cases e:P.funcs[f]? with
 |none=>rfl
 |some fn=>
  have hb:=hs fn e;obtain⟨c,hc⟩:=Option.isSome_iff_exists.1 hb;simp only[hc,Option.isNone_some,Bool.false_eq_true,if_false];split<;>rfl
end
@[simp]theorem Ot(t:ό):prog.underlying t=ϋ.underlying t:=pT _ _ _
@[simp]theorem v8(t:ό): prog.info? t= ϋ.info? t:=rI _ _ _
@[simp]theorem avR(t:ό)(w:Ψ):(Go.underlying t).run prog w=(Go.underlying t).run ϋ w:=acG _ _ _ _
@[simp]theorem asJ(t:ό)(w:Ψ):(sizeOf t).run prog w=(sizeOf t).run ϋ w:=asQ _ _ _ _
@[simp]theorem UN(t:ό)(w:Ψ):(zeroValue t).run prog w=(zeroValue t).run ϋ w:=asT _ _ _ _
@[simp]theorem asI(t:ό)(w:Ψ):(isAgg t).run prog w=(isAgg t).run ϋ w:=asP _ _ _ _
@[simp]theorem acB(t:ό):prog.stoodInHeld t=ϋ.stoodInHeld t:=acH _ _ _
@[simp]theorem avQ(d:Nat)(t:ό):prog.eqGuardType d t=ϋ.eqGuardType d t:=Ow _ _ _ _
@[simp]theorem avP:prog.depth=ϋ.depth:=GX _ _
def aZ(h:An f=χ)(hf:ϋ.funcs[f]?=φ fn)(hb:fn.body.isSome=θ)(args:Array υ)(w:Ψ)(hc:(callFunc f args).run ϋ w=.ok (.enter f args) w):(callFunc f args).run prog w=.ok (.enter f args) w:=asM (get f h) args w (afh hf hb) hc
variable (args:Array υ)(w:Ψ)
@[simp]def call20:=aZ rfl Tryz.func20 rfl args w (Tryz.call20 args w)
@[simp]def call22:=aZ rfl Tryz.func22 rfl args w (Tryz.call22 args w)
@[simp]def call24:=aZ rfl Tryz.func24 rfl args w (Tryz.call24 args w)
@[simp]def call26:=aZ rfl Tryz.func26 rfl args w (Tryz.call26 args w)
@[simp]def call28:=aZ rfl Tryz.func28 rfl args w (Tryz.call28 args w)
@[simp]def call30:=aZ rfl Tryz.func30 rfl args w (Tryz.call30 args w)
@[simp]def call31:=aZ rfl Tryz.func31 rfl args w (Tryz.call31 args w)
@[simp]def call33:=aZ rfl Tryz.func33 rfl args w (Tryz.call33 args w)
@[simp]def call35:=aZ rfl Tryz.func35 rfl args w (Tryz.call35 args w)
@[simp]def call36:=aZ rfl Tryz.func36 rfl args w (Tryz.call36 args w)
@[simp]def call40:=aZ rfl Tryz.func40 rfl args w (Tryz.call40 args w)
@[simp]def call43:=aZ rfl Tryz.func43 rfl args w (Tryz.call43 args w)
@[simp]def call47:=aZ rfl Tryz.func47 rfl args w (Tryz.call47 args w)
@[simp]def call48:=aZ rfl Tryz.func48 rfl args w (Tryz.call48 args w)
@[simp]def call49:=aZ rfl Tryz.func49 rfl args w (Tryz.call49 args w)
@[simp]def call50:=aZ rfl Tryz.func50 rfl args w (Tryz.call50 args w)
@[simp]def call51:=aZ rfl Tryz.func51 rfl args w (Tryz.call51 args w)
@[simp]def call53:=aZ rfl Tryz.func53 rfl args w (Tryz.call53 args w)
@[simp]def call56:=aZ rfl Tryz.func56 rfl args w (Tryz.call56 args w)
@[simp]def call57:=aZ rfl Tryz.func57 rfl args w (Tryz.call57 args w)
@[simp]def call61:=aZ rfl Tryz.func61 rfl args w (Tryz.call61 args w)
@[simp]def call62:=aZ rfl Tryz.func62 rfl args w (Tryz.call62 args w)
@[simp]def call66:=aZ rfl Tryz.func66 rfl args w (Tryz.call66 args w)
@[simp]def call67:=aZ rfl Tryz.func67 rfl args w (Tryz.call67 args w)
@[simp]def call68:=aZ rfl Tryz.func68 rfl args w (Tryz.call68 args w)
@[simp]def call69:=aZ rfl Tryz.func69 rfl args w (Tryz.call69 args w)
@[simp]def call75:=aZ rfl Tryz.func75 rfl args w (Tryz.call75 args w)
@[simp]def call94:=aZ rfl Tryz.func94 rfl args w (Tryz.call94 args w)
@[simp]def call95:=aZ rfl Tryz.func95 rfl args w (Tryz.call95 args w)
@[simp]def call96:=aZ rfl Tryz.func96 rfl args w (Tryz.call96 args w)
@[simp]def call98:=aZ rfl Tryz.func98 rfl args w (Tryz.call98 args w)
@[simp]def call99:=aZ rfl Tryz.func99 rfl args w (Tryz.call99 args w)
@[simp]def call100:=aZ rfl Tryz.func100 rfl args w (Tryz.call100 args w)
@[simp]def call101:=aZ rfl Tryz.func101 rfl args w (Tryz.call101 args w)
@[simp]def call102:=aZ rfl Tryz.func102 rfl args w (Tryz.call102 args w)
@[simp]def call107:=aZ rfl Tryz.func107 rfl args w (Tryz.call107 args w)
@[simp]def call108:=aZ rfl Tryz.func108 rfl args w (Tryz.call108 args w)
@[simp]def call109:=aZ rfl Tryz.func109 rfl args w (Tryz.call109 args w)
@[simp]def call110:=aZ rfl Tryz.func110 rfl args w (Tryz.call110 args w)
@[simp]def call113:=aZ rfl Tryz.func113 rfl args w (Tryz.call113 args w)
@[simp]def call114:=aZ rfl Tryz.func114 rfl args w (Tryz.call114 args w)
@[simp]def call115:=aZ rfl Tryz.func115 rfl args w (Tryz.call115 args w)
@[simp]def call117:=aZ rfl Tryz.func117 rfl args w (Tryz.call117 args w)
@[simp]def call119:=aZ rfl Tryz.func119 rfl args w (Tryz.call119 args w)
@[simp]def call122:=aZ rfl Tryz.func122 rfl args w (Tryz.call122 args w)
@[simp]def call123:=aZ rfl Tryz.func123 rfl args w (Tryz.call123 args w)
@[simp]def call126:=aZ rfl Tryz.func126 rfl args w (Tryz.call126 args w)
@[simp]def call127:=aZ rfl Tryz.func127 rfl args w (Tryz.call127 args w)
@[simp]def call128:=aZ rfl Tryz.func128 rfl args w (Tryz.call128 args w)
@[simp]def call132:=aZ rfl Tryz.func132 rfl args w (Tryz.call132 args w)
@[simp]def call133:=aZ rfl Tryz.func133 rfl args w (Tryz.call133 args w)
@[simp]def call134:=aZ rfl Tryz.func134 rfl args w (Tryz.call134 args w)
@[simp]def call135:=aZ rfl Tryz.func135 rfl args w (Tryz.call135 args w)
@[simp]def call136:=aZ rfl Tryz.func136 rfl args w (Tryz.call136 args w)
@[simp]def call138:=aZ rfl Tryz.func138 rfl args w (Tryz.call138 args w)
@[simp]def call139:=aZ rfl Tryz.func139 rfl args w (Tryz.call139 args w)
@[simp]def call141:=aZ rfl Tryz.func141 rfl args w (Tryz.call141 args w)
@[simp]def call142:=aZ rfl Tryz.func142 rfl args w (Tryz.call142 args w)
@[simp]def call143:=aZ rfl Tryz.func143 rfl args w (Tryz.call143 args w)
@[simp]def call144:=aZ rfl Tryz.func144 rfl args w (Tryz.call144 args w)
@[simp]def call145:=aZ rfl Tryz.func145 rfl args w (Tryz.call145 args w)
@[simp]def call146:=aZ rfl Tryz.func146 rfl args w (Tryz.call146 args w)
@[simp]def call147:=aZ rfl Tryz.func147 rfl args w (Tryz.call147 args w)
@[simp]def call150:=aZ rfl Tryz.func150 rfl args w (Tryz.call150 args w)
@[simp]def call154:=aZ rfl Tryz.func154 rfl args w (Tryz.call154 args w)
@[simp]def call155:=aZ rfl Tryz.func155 rfl args w (Tryz.call155 args w)
@[simp]def call158:=aZ rfl Tryz.func158 rfl args w (Tryz.call158 args w)
@[simp]def call162:=aZ rfl Tryz.func162 rfl args w (Tryz.call162 args w)
@[simp]def call165:=aZ rfl Tryz.func165 rfl args w (Tryz.call165 args w)
@[simp]def call166:=aZ rfl Tryz.func166 rfl args w (Tryz.call166 args w)
@[simp]def call169:=aZ rfl Tryz.func169 rfl args w (Tryz.call169 args w)
@[simp]def call170:=aZ rfl Tryz.func170 rfl args w (Tryz.call170 args w)
@[simp]def call171:=aZ rfl Tryz.func171 rfl args w (Tryz.call171 args w)
@[simp]def call172:=aZ rfl Tryz.func172 rfl args w (Tryz.call172 args w)
@[simp]def call173:=aZ rfl Tryz.func173 rfl args w (Tryz.call173 args w)
@[simp]def call174:=aZ rfl Tryz.func174 rfl args w (Tryz.call174 args w)
@[simp]def call175:=aZ rfl Tryz.func175 rfl args w (Tryz.call175 args w)
@[simp]def call176:=aZ rfl Tryz.func176 rfl args w (Tryz.call176 args w)
@[simp]def call177:=aZ rfl Tryz.func177 rfl args w (Tryz.call177 args w)
@[simp]def call178:=aZ rfl Tryz.func178 rfl args w (Tryz.call178 args w)
@[simp]def call179:=aZ rfl Tryz.func179 rfl args w (Tryz.call179 args w)
@[simp]def call180:=aZ rfl Tryz.func180 rfl args w (Tryz.call180 args w)
@[simp]def call181:=aZ rfl Tryz.func181 rfl args w (Tryz.call181 args w)
@[simp]def call182:=aZ rfl Tryz.func182 rfl args w (Tryz.call182 args w)
@[simp]def call183:=aZ rfl Tryz.func183 rfl args w (Tryz.call183 args w)
@[simp]def call184:=aZ rfl Tryz.func184 rfl args w (Tryz.call184 args w)
@[simp]def call185:=aZ rfl Tryz.func185 rfl args w (Tryz.call185 args w)
@[simp]def call186:=aZ rfl Tryz.func186 rfl args w (Tryz.call186 args w)
@[simp]def call187:=aZ rfl Tryz.func187 rfl args w (Tryz.call187 args w)
@[simp]def call188:=aZ rfl Tryz.func188 rfl args w (Tryz.call188 args w)
@[simp]def call189:=aZ rfl Tryz.func189 rfl args w (Tryz.call189 args w)
@[simp]def call201:=aZ rfl Tryz.func201 rfl args w (Tryz.call201 args w)
@[simp]def call202:=aZ rfl Tryz.func202 rfl args w (Tryz.call202 args w)
@[simp]def call204:=aZ rfl Tryz.func204 rfl args w (Tryz.call204 args w)
@[simp]def call205:=aZ rfl Tryz.func205 rfl args w (Tryz.call205 args w)
@[simp]def call206:=aZ rfl Tryz.func206 rfl args w (Tryz.call206 args w)
@[simp]def call207:=aZ rfl Tryz.func207 rfl args w (Tryz.call207 args w)
@[simp]def call208:=aZ rfl Tryz.func208 rfl args w (Tryz.call208 args w)
@[simp]def call209:=aZ rfl Tryz.func209 rfl args w (Tryz.call209 args w)
@[simp]def call215:=aZ rfl Tryz.func215 rfl args w (Tryz.call215 args w)
@[simp]def call216:=aZ rfl Tryz.func216 rfl args w (Tryz.call216 args w)
@[simp]def call234:=aZ rfl Tryz.func234 rfl args w (Tryz.call234 args w)
@[simp]def call235:=aZ rfl Tryz.func235 rfl args w (Tryz.call235 args w)
@[simp]def call236:=aZ rfl Tryz.func236 rfl args w (Tryz.call236 args w)
end Go.Tw
def Go.RowKit.Hid.e{p:Prop}(h:Go.RowKit.Hid p):p:=Go.RowKit.Hid.out h
namespace Go.Tw
open Go Go.RowKit
def cq(a:Addr)(n:Nat):(a.add n).block=a.block:=by unfold Addr.add;split<;>rfl
def Wi(a:Addr)(i j:Nat):(a.add i).add j=a.add (i+j):=by
 unfold Addr.add;by_cases hi:i=0<;>by_cases hj:j=0<;>simp[hi,hj,Nat.add_assoc]
def Δ(B:Nat)(w w':Ψ):Prop:=∀p:Addr,p.block<B-> w'.cell? p= w.cell? p
def Δ.refl(w:Ψ):Δ B w w:=λ_ _=>rfl
def Δ.trans{B:Nat}{a b c:Ψ}(h:Δ B a b)(k:Δ B b c):Δ B a c:=λp hp=>(k p hp).trans (h p hp)
def Δ.aN{B':Nat}(h:Γ B' w w')(hB:B<=B'):Δ B w w':=λ_ hp=>h.cell (by omega)
def Δ.alloc{B:Nat}{a w:Ψ}(h:Δ B a w)(hB:B<=w.heap.size)(o:Obj):Δ B a (w.alloc o):=λp hp=>(Ĉ w o p (by omega)).trans (h p hp)
def Row(w:Ψ)(B sz:Nat)(R:α->List υ->Prop)(v:υ)(xs:List α):Prop:=
 ∃A c,v=ζ A xs.length c/\xs.length<=c/\c<=ϕ/\(xs≠ []->∃ad,A=φ ad/\ad.block<B/\
  ∀i x,xs[i]?=φ x->∃cs,R x cs/\cs.length=sz/\∀j u,cs[j]?=φ u-> w.cell? (ad.add (i * sz+j))=φ u)
section
variable {α:Type}{w w':Ψ}{B B' sz:Nat}{R R':α->List υ->Prop}{v:υ}{xs:List α}
def Row.still(h:Row w B sz R v xs)(hs:Δ B w w')(hR:∀x cs,R x cs->R' x cs):Row w' B sz R' v xs:=by
 obtain⟨A,c,hv,h1,h2,h3⟩:=h;refine⟨A,c,hv,h1,h2,λhx=>?_⟩
 obtain⟨ad,ha,hb,hc⟩:=h3 hx;refine⟨ad,ha,hb,λi x hi=>?_⟩
 obtain⟨cs,r,hl,aq⟩:=hc i x hi;exact⟨cs,hR _ _ r,hl,λj u hu=>(hs _ (by rw[cq];exact hb)).trans (aq j u hu)⟩
def Row.more(h:Row w B sz R v xs)(hB:B<=B'):Row w B' sz R v xs:=by
 obtain⟨A,c,hv,h1,h2,h3⟩:=h;refine⟨A,c,hv,h1,h2,λhx=>?_⟩
 obtain⟨ad,ha,hb,hc⟩:=h3 hx;exact⟨ad,ha,by omega,hc⟩
def Row.nil:Row w B sz R (ζ ν 0 0) ([]:List α):=⟨ν,0,rfl,ϊ _,by unfold ϕ;omega,λh=>absurd rfl h⟩
def Row.Φ(h:Row w B sz R v xs):∃A n c,v=ζ A n c/\xs.length=n/\n<=c/\c<=ϕ/\
 ∀i,i<n->∃ad x cs,A=φ ad/\ad.block<B/\xs[i]?=φ x/\R x cs/\cs.length=sz/\∀j u,cs[j]?=φ u-> w.cell? (ad.add (i * sz+j))=φ u:=by
 obtain⟨A,c,hv,h1,h2,h3⟩:=h;refine⟨A,xs.length,c,hv,rfl,h1,h2,λi hi=>?_⟩
 obtain⟨ad,ha,hb,hc⟩:=h3 (by intro e;subst e;simp at hi)
 obtain⟨cs,r,hl,aq⟩:=hc i xs[i] (Ä hi)
 exact⟨ad,xs[i],cs,ha,hb,Ä hi,r,hl,aq⟩
end
def cA{cs:List υ}(h:∀j u,cs[j]?=φ u-> w.cell? (ad.add (k+j))=φ u)(hs:Δ B w w')(hb:ad.block<B){u:υ}(hu:cs[0]?=φ u): w'.cell? (ad.add k)=φ u:=
 (hs _ (by rw[cq];exact hb)).trans (h 0 u hu)
def bH{cs:List υ}(h:∀j u,cs[j]?=φ u-> w.cell? (ad.add (k+j))=φ u)(hs:Δ B w w')(hb:ad.block<B)(j:Nat){u:υ}(hu:cs[j+1]?=φ u): w'.cell? ⟨(ad.add k).block,(ad.add k).off+(j+1),ν⟩=φ u:=by
 have e:(⟨(ad.add k).block,(ad.add k).off+(j+1),ν⟩:Addr)=ad.add (k+(j+1)):=by rw[<-Wi];rfl
 rw[e];exact(hs _ (by rw[cq];exact hb)).trans (h (j+1) u hu)
def oT{a:Ψ}(h:Γ B a w):Γ B a w.drew:=⟨h.os,h.tape,h.output,h.size,h.block⟩
def oU{a:Ψ}(h:Γ B a w)(n:Nat):Γ B a (w.drewN n):=⟨h.os,h.tape,h.output,h.size,h.block⟩
def bj{b:Int}(h:a=b):Ending.returned (ξ κ a)=Ω (ξ κ b):=by rw[h]
def cj{a b:Bool}(h:a=b):Ending.returned (.bool a)=Ω (.bool b):=by rw[h]
structure Span where
 lo:Int
 hi:Int
 deriving DecidableEq
structure Piece where
 name:ByteArray
 len:Span
 bears:Int
structure aP where
 name:ByteArray
 aw:Int
 aU:List Span
structure Tape where
 pieces:List Int
 sum:Span
structure an where
 ab:Int
 pieces:List Piece
 aF:List aP
 aM:List Tape
structure Cut where
 bm:Int
 from_:Int
 deriving DecidableEq
def Span.R(x:Span)(cs:List υ):Prop:=cs=[ξ κ x.lo,ξ κ x.hi]
structure al where
 a:Int
 b:Int
 c:Int
 deriving DecidableEq
def al.R(x:al)(cs:List υ):Prop:=cs=[ξ κ x.a,ξ κ x.b,ξ κ x.c]
def vR(p:α->Bool)(l:List α):Int:=match l.findIdx? p with
 |some i=>i
 |none=> -1
def J9{p:α->Bool}{l:List α}{x:α}(hx:l[i]?=φ x)(hp:p x=θ)(h:∀(j:Nat) (y:α),j<i->l[j]?=φ y->p y=χ):vR p l=i:=by
 have hl:=(ϩ.1 hx)
 obtain⟨aj,e⟩:=hl;have: l.findIdx? p=φ i:=by
  rw[Agb]
  exact⟨aj,by rw[e];exact hp,λj hj=>by simpa using h j _ hj (Ä (by omega))⟩
 unfold vR;rw[this]
def J8{p:α->Bool}{l:List α}(h:∀(j:Nat) (y:α),l[j]?=φ y->p y=χ):vR p l= -1:=by
 have: l.findIdx? p=ν:=by
  rw[Agc]
  intro x hx;obtain⟨j,hj⟩:=List.getElem?_of_mem hx
  simpa using h j x hj
 unfold vR;rw[this]
def Gz{p:α->Bool}{l:List α}:l.any p=θ↔0<=vR p l:=by
 unfold vR;cases h: l.findIdx? p with
 |none=>rw[Agc] at h;simp;exactλx hx=>by simpa using h x hx
 |some i=>
  rw[Agb] at h
  obtain⟨hi,hp,_⟩:=h;simp only[List.any_eq_true];exact⟨λ_=>by simp,λ_=>⟨_,List.getElem_mem hi,hp⟩⟩
def J7{p:α->Bool}{l:List α}:l.any p=χ↔vR p l<0:=by
 have:=Gz (p:=p) (l:=l);rw[<-Int.not_le,<-this];simp
def cH(n:Int)(cs:List υ):Prop:=cs=[ξ κ n]
def Cut.R(x:Cut)(cs:List υ):Prop:=cs=[ξ κ x.bm,ξ κ x.from_]
def Piece.R(x:Piece)(cs:List υ):Prop:=cs=[.string x.name,ξ κ x.len.lo,ξ κ x.len.hi,ξ κ x.bears]/\x.name.size<=ϕ
def aP.R(w:Ψ)(B:Nat)(x:aP)(cs:List υ):Prop:=∃kv,cs=[.string x.name,ξ κ x.aw,kv]/\x.name.size<=ϕ/\Row w B 2 Span.R kv x.aU
def Tape.R(w:Ψ)(B:Nat)(x:Tape)(cs:List υ):Prop:=∃pv,cs=[pv,ξ κ x.sum.lo,ξ κ x.sum.hi]/\Row w B 1 cH pv x.pieces
def aP.R.still{w w':Ψ}{B:Nat}{x:aP}{cs:List υ}(h:aP.R w B x cs)(hs:Δ B w w'):aP.R w' B x cs:=by
 obtain⟨kv,h1,h2,h3⟩:=h;exact⟨kv,h1,h2,h3.still hs λ_ _ h=>h⟩
def Tape.R.still{w w':Ψ}{B:Nat}{x:Tape}{cs:List υ}(h:Tape.R w B x cs)(hs:Δ B w w'):Tape.R w' B x cs:=by
 obtain⟨kv,h1,h3⟩:=h;exact⟨kv,h1,h3.still hs λ_ _ h=>h⟩
structure bq(w:Ψ)(B:Nat)(b:an)(pv bv tv:υ):Prop where
 pieces:Row w B 4 Piece.R pv b.pieces
 aF:Row w B 3 (aP.R w B) bv b.aF
 aM:Row w B 3 (Tape.R w B) tv b.aM
def bq.still{w w':Ψ}{B:Nat}{b:an}{pv bv tv:υ}(h:bq w B b pv bv tv)(hs:Δ B w w'):bq w' B b pv bv tv:=
 ⟨h.pieces.still hs λ_ _ h=>h,h.aF.still hs λ_ _ h=>h.still hs,h.aM.still hs λ_ _ h=>h.still hs⟩
end Go.Tw
namespace Go.Tw
variable [Go.Tw.aJ]
open Go Go.Proofs Go.RowKit
def cf(n lo hi:Int):Bool:=decide (lo<=n) && decide (n<=hi)
def inside(n lo hi:Int)(w:Ψ):ύ prog 134 #[ξ κ n,ξ κ lo,ξ κ hi] w λe w'=>e=Ω (.bool (cf n lo hi))/\w=w':=by
 go_enter func134,Tryz.ntmps134;go_wp2;all_goals go_ret
 all_goals (refine⟨cj ?_,rfl⟩;unfold cf;first| (simp;done) | (simp;omega))
def pK(i:Nat)(c:Int):Bool:=(decide (97<=c) && decide (c<=122)) || (decide (0<i) && (decide (48<=c) && decide (c<=57)))
def Bi:Nat->List UInt8->Bool
 |_,[]=>θ
 |i,c::l=>pK i c.toNat && Bi (i+1) l
def sr(l:List UInt8):Bool:=Bi 0 l && cf l.length 1 10
def WZ:∀(l:List UInt8) (i k:Nat) (c:UInt8),Bi i l=θ->l[k]?=φ c->pK (i+k) c.toNat=θ
 | [],_,_,_,_,h=>by simp at h
 |d::l,i,0,c,h,hk=>by simp at hk;subst hk;simp[Bi] at h;exact h.1
 |d::l,i,k+1,c,h,hk=>by
  simp[Bi] at h;have:=WZ l (i+1) k c h.2 (by simpa using hk)
  rwa[show i+(k+1)=i+1+k by omega]
def Qv:∀(l:List UInt8) (i:Nat),(∀k c,l[k]?=φ c->pK (i+k) c.toNat=θ)->Bi i l=θ
 | [],_,_=>rfl
 |d::l,i,h=>by
  simp only[Bi,Bool.and_eq_true];exact⟨h 0 d rfl,Qv l (i+1) λk c hk=>by have:=h (k+1) c (by simpa using hk);rwa[show i+(k+1)=i+1+k by omega] at this⟩
def agy(s:ByteArray)(w:Ψ):∃C cap m,(convert 9 228 (.string s)).run prog w=.ok (ζ (φ ⟨w.heap.size,0,ν⟩) s.size cap) (w.drew.alloc (.cells C 5 m))/\
 ∀i (h:i<s.size),C[i]?=φ (.int .u8 (s[i].toNat:Int)):=by
 refine⟨_,_,_,run_bytes_of_string (P:=prog) w 9 228 5 s ((Ot _).trans Tryz.underlying9) ((Ot _).trans Tryz.underlying228) ((Ot _).trans Tryz.underlying5),λi h=>?_⟩
 rw[bytesRow,Array.getElem?_append_left (by simpa using h)]
 simp[Ć]
 exact⟨_,â (by simpa using h),rfl⟩
def IJ{s:ByteArray}(h:n<s.size):s.data.toList[n]?=φ s[n]:=by
 rw[Ä (by simpa using h)];rfl
def TO{l:List UInt8}{c:UInt8}(h:l[n]?=φ c)(hb:pK n c.toNat=χ):sr l=χ:=by
 unfold sr;cases e:Bi 0 l with
 |false=>rfl
 |true=>have:=WZ l 0 n c e h;rw[Nat.zero_add,hb] at this;cases this
def isName{s:ByteArray}(hs:s.size<=ϕ)(w:Ψ):
 ύ prog 182 #[.string s] w λe w'=>e=Ω (.bool (sr s.data.toList))/\Γ w.heap.size w w':=by
 unfold ϕ at hs;obtain⟨C,cap,m,ajS,hC⟩:=agy s w;have H:=ψ hC;clear hC;go_enter func182,Tryz.ntmps182;go_wp2;clear ajS
 go_loop [3,4,8] (λi c k=>∃n:Nat,n<=s.size/\k=ξ κ n/\∀j c,j<n->s.data.toList[j]?=φ c->pK j c.toNat=θ) (λ_ _ k=>s.size - (Ϭ k).toNat)
 case atStart=>exact⟨0,Ϡ _,rfl,λj _ hj=>by omega⟩
 case round=>
  obtain⟨n,hn,rfl,bL⟩:=hrel;have HA:=ψ bL;clear bL;by_cases aj:n<s.size
  ·have hc:(w.alloc (.cells C 5 m)).cell? ⟨w.heap.size,n,ν⟩=φ (.int .u8 (s[n].toNat:Int)):=by
    rw[į];exact H.e n aj
   go_wp2;all_goals try simp only[Bool.not_eq_true',Bool.not_eq_false',decide_eq_true_eq,decide_eq_false_iff_not] at *
   all_goals first
    | (go_round
       case rel=>
        refine⟨n+1,by omega,by go_num,λj c hj vF=>?_⟩
        rcases ε.1 hj with h|rfl
        ·exact HA.e j c h vF
        ·have e:c=s[j]:=by simpa using((IJ aj).symm.trans vF).symm
         subst e;simp only[pK,Bool.or_eq_true,Bool.and_eq_true,decide_eq_true_eq];omega
       case measure=>simp[Ϭ];omega)
    | (go_ret
       refine⟨cj (Eq.symm (TO (IJ aj) ?_)),oT ((ώ _ _).alloc (ϊ _) _)⟩
       simp only[pK,Bool.or_eq_false_iff,Bool.and_eq_false_iff,decide_eq_false_iff_not];omega)
  ·obtain rfl:n=s.size:=by omega
   go_wp2_with (first
    | (go_at_call 134;refine(inside _ _ _ _).mono ?_;rintro e w' ⟨rfl,rfl⟩))
   go_ret;refine⟨cj ?_,oT ((ώ _ _).alloc (ϊ _) _)⟩
   simp[sr,Qv s.data.toList 0 (λk c hk=>by
    have:=HA.e k c (by have:=(ϩ.1 hk).1;simpa using this) hk;simpa using this)]
def nN(a b:Int)(k:Span):Bool:=decide (k.lo<=b) && decide (a<=k.hi)
def cQ(l:List Span)(a b:Int):Int:=(l.filter (nN a b)).length
def TE(l:List Span)(a b:Int):0<=cQ l a b/\cQ l a b<=l.length:=by
 unfold cQ;have:=Agd (nN a b) l;omega
def an6(l:List Span)(x:Span)(a b:Int):cQ (l++ [x]) a b=cQ l a b+if nN a b x then 1 else 0:=by
 unfold cQ;by_cases h:nN a b x<;>simp[h]
def su{l:List α}{x:α}(h:l[i]?=φ x):l.take (i+1)=l.take i++ [x]:=by
 rw[List.take_add_one,h];rfl
def met{aw b:Int}{ks:List Span}{kv:υ}(hk:Row w B 2 Span.R kv ks)(hB:B<=w.heap.size):
 ύ prog 132 #[η #[.string nm,ξ κ aw,kv],η #[ξ κ a,ξ κ b]] w λe w'=>e=Ω (ξ κ (cQ ks a b))/\Γ w.heap.size w w':=by
 obtain⟨A,n,c,rfl,hl,gY,hc,hr⟩:=hk.Φ;unfold ϕ at hc;have H:=ψ hl;have H2:=ψ hr;clear hl hr hk;go_enter func132,Tryz.ntmps132;go_wp2;go_loopw [5,7,11] (λm t k wr=>∃i:Nat,i<=n/\k=ξ κ i/\m=ξ κ (cQ (ks.take i) a b)/\Γ (w.heap.size+2) ((w.alloc (Ϥ #[Value.string nm,ϛ ϗ aw,Value.slice A n c] 59)).alloc
 (Ϥ #[ϛ ϗ a,ϛ ϗ b] 37)) wr) (λ_ _ k _=>n - (Ϭ k).toNat)
 case atStart=>exact⟨0,Ϡ _,rfl,rfl,ώ _ _⟩
 case round=>
  obtain⟨i,hi,rfl,rfl,hb⟩:=hrel;have hm:=TE (ks.take i) a b;have hml:(ks.take i).length<=i:=Age _ _;by_cases aj:i<n
  ·obtain⟨ad,x,cs,rfl,aD,hx,rfl,-,aq⟩:=H2.e i aj
   have st:=(Δ.aN hb (by omega:B<=w.heap.size+2))
   have UB:=((Δ.refl (B:=B) w).alloc hB (Ϥ #[Value.string nm,ϛ ϗ aw,Value.slice (φ ad) n c] 59)).alloc (by simp;omega) (Ϥ #[ϛ ϗ a,ϛ ϗ b] 37)
   have h0:=cA aq (UB.trans st) aD rfl;have h1:=bH aq (UB.trans st) aD 0 rfl;have h2: wr.cell? ⟨w.heap.size+1,0,ν⟩=φ (ξ κ a):=(hb.cell (p:=⟨w.heap.size+1,0,ν⟩) (by simp)).trans (by simp[go_sem])
   have h3: wr.cell? ⟨w.heap.size+1,1,ν⟩=φ (ξ κ b):=(hb.cell (p:=⟨w.heap.size+1,1,ν⟩) (by simp)).trans (by simp[go_sem])
   have hz:w.heap.size+1<wr.heap.size:=by have:=hb.size;simp at this;omega
   have HH:=ψ (Ϗ hx hb);clear hx hb aq st UB;go_wp2;all_goals
    go_roundw;case rel=>
     have hb:=HH.e.2;refine⟨i+1,by omega,by go_num,?_,hb.trans ((ώ _ _).alloc (by omega) _)⟩
     rw[su HH.e.1,an6];have e:nN a b x=(decide (x.lo<=b) && decide (a<=x.hi)):=rfl
     first
      | (rw[if_pos (by rw[e];simp;omega)])
      | (rw[if_neg (by rw[e];simp;omega)];go_num)
    case measure=>simp[Ϭ];omega
  ·have fP:i=n:=by omega
   subst fP;go_wp2;go_ret;refine⟨bj ?_,?_⟩
   ·have:=H.e
    simp[ę (ÿ this)]
   ·exact(((ώ _ _).alloc (ϊ _) _).alloc (by simp) _).trans (hb.mono (by simp))
abbrev fv(K:Nat)(lb:Array υ):υ:=.func (.func K) #[] lb
def aaj{l:List Piece}(p:Piece->Bool)(eg:∀args w,(callFunc K args).run prog w=.ok (.enter K args) w)
 (hv:Row w B 4 Piece.R v l)(hB:B<=w.heap.size)
 (hK:∀(W:Ψ) (x:Piece),Γ w.heap.size w W->x.name.size<=ϕ->x∈l->ύ prog K (#[η #[.string x.name,ξ κ x.len.lo,ξ κ x.len.hi,ξ κ x.bears]]++lb) W λe W'=>e=Ω (.bool (p x))/\Γ W.heap.size W W'):
 ύ prog 204 #[v,fv K lb] w λe w'=>e=Ω (ξ κ (vR p l))/\Γ w.heap.size w w':=by
 obtain⟨A,n,c,rfl,hl,gY,hc,hr⟩:=hv.Φ;unfold ϕ at hc;have H:=ψ hl;have H2:=ψ hr;have HK:=ψ hK;clear hl hr hv hK;go_enter func204,Tryz.ntmps204;go_wp2;go_loopw [5,8] (λt k wr=>∃i:Nat,i<=n/\k=ξ κ i/\(∀j x,j<i->l[j]?=φ x->p x=χ)/\Γ w.heap.size w wr) (λ_ k _=>n - (Ϭ k).toNat)
 case atStart=>exact⟨0,Ϡ _,rfl,λj _ hj=>by omega,ώ _ _⟩
 case round=>
  obtain⟨i,hi,rfl,bL,hb⟩:=hrel;have HH:=ψ (Ϗ bL hb);by_cases aj:i<n
  ·obtain⟨ad,x,cs,rfl,aD,hx,⟨rfl,dk⟩,-,aq⟩:=H2.e i aj
   have st:=Δ.aN hb hB;have h0:=cA aq st aD rfl;have h1:=bH aq st aD 0 rfl;have h2:=bH aq st aD 1 rfl;have h3:=bH aq st aD 2 rfl;have HX:=ψ hx;clear bL hb hx aq st;go_wp2;refine(HK.e wr x HH.e.2 dk (ϡ HX.e)).mono ?_
   rintro e w1 ⟨rfl,ag⟩;have HB:=ψ ag;clear ag;cases hp:p x with
   |true=>
    go_wp2;go_ret;exact⟨bj (J9 HX.e hp HH.e.1).symm,HH.e.2.trans (HB.e.mono HH.e.2.size)⟩
   |false=>
    go_wp2;go_roundw;case rel=>exact⟨i+1,by omega,by go_num,λj y hj hy=>by
     rcases ε.1 hj with h|rfl
     ·exact HH.e.1 j y h hy
     ·rw[HX.e] at hy;cases hy;exact hp,HH.e.2.trans (HB.e.mono HH.e.2.size)⟩
    case measure=>simp[Ϭ];omega
  ·have fP:i=n:=by omega
   subst fP;go_wp2;go_ret;exact⟨bj (J8 (λj x hj=>HH.e.1 j x (by have:=(ϩ.1 hj).1;have:=H.e;omega) hj)).symm,HH.e.2⟩
def L1{l:List Piece}(p:Piece->Bool)(eg:∀args w,(callFunc K args).run prog w=.ok (.enter K args) w)
 (hv:Row w B 4 Piece.R v l)(hB:B<=w.heap.size)
 (hK:∀(W:Ψ) (x:Piece),Γ w.heap.size w W->x.name.size<=ϕ->x∈l->ύ prog K (#[η #[.string x.name,ξ κ x.len.lo,ξ κ x.len.hi,ξ κ x.bears]]++lb) W λe W'=>e=Ω (.bool (p x))/\Γ W.heap.size W W'):
 ύ prog 183 #[v,fv K lb] w λe w'=>e=Ω (.bool (l.any p))/\Γ w.heap.size w w':=by
 have HV:=ψ hv;have HK:=ψ hK;clear hv hK;cases hp:l.any p with
 |true=>
  have hi:=(Gz (l:=l) (p:=p)).1 hp;go_enter func183,Tryz.ntmps183;go_wp2;refine(aaj p eg HV.e hB HK.e).mono ?_
  rintro e w1 ⟨rfl,ag⟩;go_wp2;go_ret;exact⟨cj rfl,ag⟩
 |false=>
  have hi:=(J7 (l:=l) (p:=p)).1 hp;go_enter func183,Tryz.ntmps183;go_wp2;refine(aaj p eg HV.e hB HK.e).mono ?_
  rintro e w1 ⟨rfl,ag⟩;go_wp2;go_ret;exact⟨cj (by simp;omega),ag⟩
def aak{l:List aP}(p:aP->Bool)(eg:∀args w,(callFunc K args).run prog w=.ok (.enter K args) w)
 (hv:Row w B 3 (aP.R w B) v l)(hB:B<=w.heap.size)
 (hK:∀(W:Ψ) (x:aP) (kv:υ),Γ w.heap.size w W->x.name.size<=ϕ->Row w B 2 Span.R kv x.aU->x∈l->ύ prog K (#[η #[.string x.name,ξ κ x.aw,kv]]++lb) W λe W'=>e=Ω (.bool (p x))/\Γ W.heap.size W W'):
 ύ prog 215 #[v,fv K lb] w λe w'=>e=Ω (ξ κ (vR p l))/\Γ w.heap.size w w':=by
 obtain⟨A,n,c,rfl,hl,gY,hc,hr⟩:=hv.Φ;unfold ϕ at hc;have H:=ψ hl;have H2:=ψ hr;have HK:=ψ hK;clear hl hr hv hK;go_enter func215,Tryz.ntmps215;go_wp2;go_loopw [5,8] (λt k wr=>∃i:Nat,i<=n/\k=ξ κ i/\(∀j x,j<i->l[j]?=φ x->p x=χ)/\Γ w.heap.size w wr) (λ_ k _=>n - (Ϭ k).toNat)
 case atStart=>exact⟨0,Ϡ _,rfl,λj _ hj=>by omega,ώ _ _⟩
 case round=>
  obtain⟨i,hi,rfl,bL,hb⟩:=hrel;have HH:=ψ (Ϗ bL hb);by_cases aj:i<n
  ·obtain⟨ad,x,cs,rfl,aD,hx,⟨kv,rfl,dk,fp⟩,-,aq⟩:=H2.e i aj
   have st:=Δ.aN hb hB;have h0:=cA aq st aD rfl;have h1:=bH aq st aD 0 rfl;have h2:=bH aq st aD 1 rfl;have HX:=ψ hx;clear bL hb hx aq st;go_wp2;refine(HK.e wr x kv HH.e.2 dk fp (ϡ HX.e)).mono ?_
   rintro e w1 ⟨rfl,ag⟩;have HB:=ψ ag;clear ag;cases hp:p x with
   |true=>
    go_wp2;go_ret;exact⟨bj (J9 HX.e hp HH.e.1).symm,HH.e.2.trans (HB.e.mono HH.e.2.size)⟩
   |false=>
    go_wp2;go_roundw;case rel=>exact⟨i+1,by omega,by go_num,λj y hj hy=>by
     rcases ε.1 hj with h|rfl
     ·exact HH.e.1 j y h hy
     ·rw[HX.e] at hy;cases hy;exact hp,HH.e.2.trans (HB.e.mono HH.e.2.size)⟩
    case measure=>simp[Ϭ];omega
  ·have fP:i=n:=by omega
   subst fP;go_wp2;go_ret;exact⟨bj (J8 (λj x hj=>HH.e.1 j x (by have:=(ϩ.1 hj).1;have:=H.e;omega) hj)).symm,HH.e.2⟩
def L3{l:List aP}(p:aP->Bool)(eg:∀args w,(callFunc K args).run prog w=.ok (.enter K args) w)
 (hv:Row w B 3 (aP.R w B) v l)(hB:B<=w.heap.size)
 (hK:∀(W:Ψ) (x:aP) (kv:υ),Γ w.heap.size w W->x.name.size<=ϕ->Row w B 2 Span.R kv x.aU->x∈l->ύ prog K (#[η #[.string x.name,ξ κ x.aw,kv]]++lb) W λe W'=>e=Ω (.bool (p x))/\Γ W.heap.size W W'):
 ύ prog 205 #[v,fv K lb] w λe w'=>e=Ω (.bool (l.any p))/\Γ w.heap.size w w':=by
 have HV:=ψ hv;have HK:=ψ hK;clear hv hK;cases hp:l.any p with
 |true=>
  have hi:=(Gz (l:=l) (p:=p)).1 hp;go_enter func205,Tryz.ntmps205;go_wp2;refine(aak p eg HV.e hB HK.e).mono ?_
  rintro e w1 ⟨rfl,ag⟩;go_wp2;go_ret;exact⟨cj rfl,ag⟩
 |false=>
  have hi:=(J7 (l:=l) (p:=p)).1 hp;go_enter func205,Tryz.ntmps205;go_wp2;refine(aak p eg HV.e hB HK.e).mono ?_
  rintro e w1 ⟨rfl,ag⟩;go_wp2;go_ret;exact⟨cj (by simp;omega),ag⟩
def aal{l:List Tape}(p:Tape->Bool)(eg:∀args w,(callFunc K args).run prog w=.ok (.enter K args) w)
 (hv:Row w B 3 (Tape.R w B) v l)(hB:B<=w.heap.size)
 (hK:∀(W:Ψ) (x:Tape) (kv:υ),Γ w.heap.size w W->Row w B 1 cH kv x.pieces->x∈l->ύ prog K (#[η #[kv,ξ κ x.sum.lo,ξ κ x.sum.hi]]++lb) W λe W'=>e=Ω (.bool (p x))/\Γ W.heap.size W W'):
 ύ prog 216 #[v,fv K lb] w λe w'=>e=Ω (ξ κ (vR p l))/\Γ w.heap.size w w':=by
 obtain⟨A,n,c,rfl,hl,gY,hc,hr⟩:=hv.Φ;unfold ϕ at hc;have H:=ψ hl;have H2:=ψ hr;have HK:=ψ hK;clear hl hr hv hK;go_enter func216,Tryz.ntmps216;go_wp2;go_loopw [5,8] (λt k wr=>∃i:Nat,i<=n/\k=ξ κ i/\(∀j x,j<i->l[j]?=φ x->p x=χ)/\Γ w.heap.size w wr) (λ_ k _=>n - (Ϭ k).toNat)
 case atStart=>exact⟨0,Ϡ _,rfl,λj _ hj=>by omega,ώ _ _⟩
 case round=>
  obtain⟨i,hi,rfl,bL,hb⟩:=hrel;have HH:=ψ (Ϗ bL hb);by_cases aj:i<n
  ·obtain⟨ad,x,cs,rfl,aD,hx,⟨kv,rfl,fp⟩,-,aq⟩:=H2.e i aj
   have st:=Δ.aN hb hB;have h0:=cA aq st aD rfl;have h1:=bH aq st aD 0 rfl;have h2:=bH aq st aD 1 rfl;have HX:=ψ hx;clear bL hb hx aq st;go_wp2;refine(HK.e wr x kv HH.e.2 fp (ϡ HX.e)).mono ?_
   rintro e w1 ⟨rfl,ag⟩;have HB:=ψ ag;clear ag;cases hp:p x with
   |true=>
    go_wp2;go_ret;exact⟨bj (J9 HX.e hp HH.e.1).symm,HH.e.2.trans (HB.e.mono HH.e.2.size)⟩
   |false=>
    go_wp2;go_roundw;case rel=>exact⟨i+1,by omega,by go_num,λj y hj hy=>by
     rcases ε.1 hj with h|rfl
     ·exact HH.e.1 j y h hy
     ·rw[HX.e] at hy;cases hy;exact hp,HH.e.2.trans (HB.e.mono HH.e.2.size)⟩
    case measure=>simp[Ϭ];omega
  ·have fP:i=n:=by omega
   subst fP;go_wp2;go_ret;exact⟨bj (J8 (λj x hj=>HH.e.1 j x (by have:=(ϩ.1 hj).1;have:=H.e;omega) hj)).symm,HH.e.2⟩
def agx{l:List Tape}(p:Tape->Bool)(eg:∀args w,(callFunc K args).run prog w=.ok (.enter K args) w)
 (hv:Row w B 3 (Tape.R w B) v l)(hB:B<=w.heap.size)
 (hK:∀(W:Ψ) (x:Tape) (kv:υ),Γ w.heap.size w W->Row w B 1 cH kv x.pieces->x∈l->ύ prog K (#[η #[kv,ξ κ x.sum.lo,ξ κ x.sum.hi]]++lb) W λe W'=>e=Ω (.bool (p x))/\Γ W.heap.size W W'):
 ύ prog 208 #[v,fv K lb] w λe w'=>e=Ω (.bool (l.any p))/\Γ w.heap.size w w':=by
 have HV:=ψ hv;have HK:=ψ hK;clear hv hK;cases hp:l.any p with
 |true=>
  have hi:=(Gz (l:=l) (p:=p)).1 hp;go_enter func208,Tryz.ntmps208;go_wp2;refine(aal p eg HV.e hB HK.e).mono ?_
  rintro e w1 ⟨rfl,ag⟩;go_wp2;go_ret;exact⟨cj rfl,ag⟩
 |false=>
  have hi:=(J7 (l:=l) (p:=p)).1 hp;go_enter func208,Tryz.ntmps208;go_wp2;refine(aal p eg HV.e hB HK.e).mono ?_
  rintro e w1 ⟨rfl,ag⟩;go_wp2;go_ret;exact⟨cj (by simp;omega),ag⟩
def aai(p:Int->Bool)(eg:∀args w,(callFunc K args).run prog w=.ok (.enter K args) w)
 (hv:Row w B 1 cH v l)(hB:B<=w.heap.size)
 (hK:∀(W:Ψ) (x:Int),Γ w.heap.size w W->x∈l->ύ prog K (#[ξ κ x]++lb) W λe W'=>e=Ω (.bool (p x))/\Γ W.heap.size W W'):
 ύ prog 202 #[v,fv K lb] w λe w'=>e=Ω (ξ κ (vR p l))/\Γ w.heap.size w w':=by
 obtain⟨A,n,c,rfl,hl,gY,hc,hr⟩:=hv.Φ;unfold ϕ at hc;have H:=ψ hl;have H2:=ψ hr;have HK:=ψ hK;clear hl hr hv hK;go_enter func202,Tryz.ntmps202;go_wp2;go_loopw [5,8] (λt k wr=>∃i:Nat,i<=n/\k=ξ κ i/\(∀j x,j<i->l[j]?=φ x->p x=χ)/\Γ w.heap.size w wr) (λ_ k _=>n - (Ϭ k).toNat)
 case atStart=>exact⟨0,Ϡ _,rfl,λj _ hj=>by omega,ώ _ _⟩
 case round=>
  obtain⟨i,hi,rfl,bL,hb⟩:=hrel;have HH:=ψ (Ϗ bL hb);by_cases aj:i<n
  ·obtain⟨ad,x,cs,rfl,aD,hx,rfl,-,aq⟩:=H2.e i aj
   have st:=Δ.aN hb hB;have h0:=cA aq st aD rfl;rw[Ķ] at h0;have HX:=ψ hx;clear bL hb hx aq st;go_wp2;refine(HK.e wr x HH.e.2 (ϡ HX.e)).mono ?_
   rintro e w1 ⟨rfl,ag⟩;have HB:=ψ ag;clear ag;cases hp:p x with
   |true=>
    go_wp2;go_ret;exact⟨bj (J9 HX.e hp HH.e.1).symm,HH.e.2.trans (HB.e.mono HH.e.2.size)⟩
   |false=>
    go_wp2;go_roundw;case rel=>exact⟨i+1,by omega,by go_num,λj y hj hy=>by
     rcases ε.1 hj with h|rfl
     ·exact HH.e.1 j y h hy
     ·rw[HX.e] at hy;cases hy;exact hp,HH.e.2.trans (HB.e.mono HH.e.2.size)⟩
    case measure=>simp[Ϭ];omega
  ·have fP:i=n:=by omega
   subst fP;go_wp2;go_ret;exact⟨bj (J8 (λj x hj=>HH.e.1 j x (by have:=(ϩ.1 hj).1;have:=H.e;omega) hj)).symm,HH.e.2⟩
def Xl(p:Int->Bool)(eg:∀args w,(callFunc K args).run prog w=.ok (.enter K args) w)
 (hv:Row w B 1 cH v l)(hB:B<=w.heap.size)
 (hK:∀(W:Ψ) (x:Int),Γ w.heap.size w W->x∈l->ύ prog K (#[ξ κ x]++lb) W λe W'=>e=Ω (.bool (p x))/\Γ W.heap.size W W'):
 ύ prog 177 #[v,fv K lb] w λe w'=>e=Ω (.bool (l.any p))/\Γ w.heap.size w w':=by
 have HV:=ψ hv;have HK:=ψ hK;clear hv hK;cases hp:l.any p with
 |true=>
  have hi:=(Gz (l:=l) (p:=p)).1 hp;go_enter func177,Tryz.ntmps177;go_wp2;refine(aai p eg HV.e hB HK.e).mono ?_
  rintro e w1 ⟨rfl,ag⟩;go_wp2;go_ret;exact⟨cj rfl,ag⟩
 |false=>
  have hi:=(J7 (l:=l) (p:=p)).1 hp;go_enter func177,Tryz.ntmps177;go_wp2;refine(aai p eg HV.e hB HK.e).mono ?_
  rintro e w1 ⟨rfl,ag⟩;go_wp2;go_ret;exact⟨cj (by simp;omega),ag⟩
def aah{l:List al}(p:al->Bool)(eg:∀args w,(callFunc K args).run prog w=.ok (.enter K args) w)
 (hv:Row w B 3 al.R v l)(hB:B<=w.heap.size)
 (hK:∀(W:Ψ) (x:al),Γ w.heap.size w W->x∈l->ύ prog K (#[η #[ξ κ x.a,ξ κ x.b,ξ κ x.c]]++lb) W λe W'=>e=Ω (.bool (p x))/\Γ W.heap.size W W'):
 ύ prog 187 #[v,fv K lb] w λe w'=>e=Ω (ξ κ (vR p l))/\Γ w.heap.size w w':=by
 obtain⟨A,n,c,rfl,hl,gY,hc,hr⟩:=hv.Φ;unfold ϕ at hc;have H:=ψ hl;have H2:=ψ hr;have HK:=ψ hK;clear hl hr hv hK;go_enter func187,Tryz.ntmps187;go_wp2;go_loopw [5,8] (λt k wr=>∃i:Nat,i<=n/\k=ξ κ i/\(∀j x,j<i->l[j]?=φ x->p x=χ)/\Γ w.heap.size w wr) (λ_ k _=>n - (Ϭ k).toNat)
 case atStart=>exact⟨0,Ϡ _,rfl,λj _ hj=>by omega,ώ _ _⟩
 case round=>
  obtain⟨i,hi,rfl,bL,hb⟩:=hrel;have HH:=ψ (Ϗ bL hb);by_cases aj:i<n
  ·obtain⟨ad,x,cs,rfl,aD,hx,rfl,-,aq⟩:=H2.e i aj
   have st:=Δ.aN hb hB;have h0:=cA aq st aD rfl;have h1:=bH aq st aD 0 rfl;have h2:=bH aq st aD 1 rfl;have HX:=ψ hx;clear bL hb hx aq st;go_wp2;refine(HK.e wr x HH.e.2 (ϡ HX.e)).mono ?_
   rintro e w1 ⟨rfl,ag⟩;have HB:=ψ ag;clear ag;cases hp:p x with
   |true=>
    go_wp2;go_ret;exact⟨bj (J9 HX.e hp HH.e.1).symm,HH.e.2.trans (HB.e.mono HH.e.2.size)⟩
   |false=>
    go_wp2;go_roundw;case rel=>exact⟨i+1,by omega,by go_num,λj y hj hy=>by
     rcases ε.1 hj with h|rfl
     ·exact HH.e.1 j y h hy
     ·rw[HX.e] at hy;cases hy;exact hp,HH.e.2.trans (HB.e.mono HH.e.2.size)⟩
    case measure=>simp[Ϭ];omega
  ·have fP:i=n:=by omega
   subst fP;go_wp2;go_ret;exact⟨bj (J8 (λj x hj=>HH.e.1 j x (by have:=(ϩ.1 hj).1;have:=H.e;omega) hj)).symm,HH.e.2⟩
def agw{l:List al}(p:al->Bool)(eg:∀args w,(callFunc K args).run prog w=.ok (.enter K args) w)
 (hv:Row w B 3 al.R v l)(hB:B<=w.heap.size)
 (hK:∀(W:Ψ) (x:al),Γ w.heap.size w W->x∈l->ύ prog K (#[η #[ξ κ x.a,ξ κ x.b,ξ κ x.c]]++lb) W λe W'=>e=Ω (.bool (p x))/\Γ W.heap.size W W'):
 ύ prog 150 #[v,fv K lb] w λe w'=>e=Ω (.bool (l.any p))/\Γ w.heap.size w w':=by
 have HV:=ψ hv;have HK:=ψ hK;clear hv hK;cases hp:l.any p with
 |true=>
  have hi:=(Gz (l:=l) (p:=p)).1 hp;go_enter func150,Tryz.ntmps150;go_wp2;refine(aah p eg HV.e hB HK.e).mono ?_
  rintro e w1 ⟨rfl,ag⟩;go_wp2;go_ret;exact⟨cj rfl,ag⟩
 |false=>
  have hi:=(J7 (l:=l) (p:=p)).1 hp;go_enter func150,Tryz.ntmps150;go_wp2;refine(aah p eg HV.e hB HK.e).mono ?_
  rintro e w1 ⟨rfl,ag⟩;go_wp2;go_ret;exact⟨cj (by simp;omega),ag⟩
def mX(hb:Γ B W w1)(hB:B=W.heap.size):(∀b o,b<W.heap.size-> w1.cell? ⟨b,o,ν⟩= W.cell? ⟨b,o,ν⟩)/\(∀b o,b<W.heap.size-> w1.frozen? ⟨b,o,ν⟩= W.frozen? ⟨b,o,ν⟩):=by
 subst hB;exact⟨λb o h=>hb.cell (p:=⟨b,o,ν⟩) h,λb o h=>hb.frozen (p:=⟨b,o,ν⟩) h⟩
def Row.take{α:Type}{w:Ψ}{B sz:Nat}{R:α->List υ->Prop}{A:Option Addr}{n c:Nat}{l:List α}(h:Row w B sz R (ζ A n c) l){i:Nat}(hi:i<=n):Row w B sz R (ζ A i c) (l.take i):=by
 obtain⟨A',c',hv,h1,h2,h3⟩:=h;injection hv with e1 e2 e3
 subst e1;subst e3;subst e2
 have e:(l.take i).length=i:=by rw[List.length_take];omega
 refine⟨A,c,by rw[e],by omega,h2,λhx=>?_⟩
 obtain⟨ad,ha,hb,hc⟩:=h3 (by rintro rfl;simp at hx)
 refine⟨ad,ha,hb,λj x hj=>hc j x ?_⟩
 rw[List.getElem?_take] at hj;split at hj<;>simp_all
def scan{α:Type}(f:List α->α->Int):List α->List α->Int
 |_,[]=>0
 |fj,x::l=>if f fj x≠0 then f fj x else scan f (fj++ [x]) l
def abV{α:Type}{f:List α->α->Int}:∀(l fj:List α) (i:Nat) (x:α),l[i]?=φ x->(∀(j:Nat) (y:α),j<i->l[j]?=φ y->f (fj++l.take j) y=0)->f (fj++l.take i) x≠0->scan f fj l=f (fj++l.take i) x
 | [],_,_,_,h,_,_=>by simp at h
 |a::l,fj,0,x,h,_,hf=>by simp at h;subst h;simp at hf;simp[scan,hf]
 |a::l,fj,i+1,x,h,hz,hf=>by
  have h0:=hz 0 a (by omega) rfl
  simp at h0;have:=abV l (fj++ [a]) i x (by simpa using h) (λj y hj hy=>by simpa using hz (j+1) y (by omega) (by simpa using hy)) (by simpa using hf)
  simp[scan,h0,this]
def Ay{f:List α->α->Int}{l:List α}{x:α}(h:l[i]?=φ x)(hz:∀(j:Nat) (y:α),j<i->l[j]?=φ y->f (l.take j) y=0)(hf:f (l.take i) x≠0):scan f [] l=f (l.take i) x:=by
 simpa using abV l [] i x h (by simpa using hz) (by simpa using hf)
def abU{α:Type}{f:List α->α->Int}:∀(l fj:List α),(∀(j:Nat) (y:α),l[j]?=φ y->f (fj++l.take j) y=0)->scan f fj l=0
 | [],_,_=>rfl
 |a::l,fj,hz=>by
  have h0:=hz 0 a rfl;simp at h0;have:=abU l (fj++ [a]) (λj y hy=>by simpa using hz (j+1) y (by simpa using hy))
  simp[scan,h0,this]
def vZ{f:List α->α->Int}{l:List α}(hz:∀(j:Nat) (y:α),l[j]?=φ y->f (l.take j) y=0):scan f [] l=0:=abU l [] (by simpa using hz)
def qz(a b lo hi many:Int):Bool:=decide (lo<=a) && decide (a<=b) && decide (b<=hi) && decide (b - a<many)
def Eo{b many:Int}(oZ:0<=lo)(uR:hi<=1000000)(w:Ψ):ύ prog 154 #[η #[ξ κ a,ξ κ b],ξ κ lo,ξ κ hi,ξ κ many] w λe w'=>e=Ω (.bool (qz a b lo hi many))/\Γ w.heap.size w w':=by
 go_enter func154,Tryz.ntmps154;go_wp2;all_goals go_ret
 all_goals (refine⟨cj ?_,(ώ _ _).alloc (ϊ _) _⟩;unfold qz;first| (simp;done) | (simp;omega) | (simp[*];omega) | (simp[*];done))
def ab{n:Int}(w:Ψ):ύ prog 141 #[η #[ξ κ n,pv,bv,tv]] w λe w'=>e=Ω (ξ κ (if cf n 0 3 then 0 else 1))/\Γ w.heap.size w w':=by
 cases h:cf n 0 3;all_goals
  go_enter func141,Tryz.ntmps141;go_wp2_with (first
   | (go_at_call 134;refine(inside _ _ _ _).mono ?_;rintro e w' ⟨rfl,rfl⟩))
  go_ret;exact⟨bj rfl,(ώ _ _).alloc (ϊ _) _⟩
def there(k n:Int)(hn:0<=n)(w:Ψ)(Yh:n<=9223372036854775807):ύ prog 100 #[ξ κ k,ξ κ n] w λe w'=>e=Ω (ξ κ (if cf k 0 (n - 1) then 0 else 6))/\w=w':=by
 cases h:cf k 0 (n - 1);all_goals
  go_enter func100,Tryz.ntmps100;go_wp2_with (first
   | (go_at_call 134;refine(inside _ _ _ _).mono ?_;rintro e w' ⟨rfl,rfl⟩))
  go_ret;exact⟨bj rfl,rfl⟩
def pS(a b:ByteArray):Bool:=a.toList==b.toList
def N7{b c:Int}(hp: w.cell? p=φ (.string Ks))(JN:p.block<w.heap.size):
 ύ prog 184 #[η #[.string nm,ξ κ a,ξ κ b,ξ κ c],π (φ p)] w λe w'=>e=Ω (.bool (pS nm Ks))/\Γ w.heap.size w w':=by
 go_enter func184,Tryz.ntmps184;go_wp2;go_ret;exact⟨cj rfl,(ώ _ _).alloc (ϊ _) _⟩
def N8{kv:υ}(hp: w.cell? p=φ (.string Ks))(JN:p.block<w.heap.size):
 ύ prog 206 #[η #[.string nm,ξ κ a,kv],π (φ p)] w λe w'=>e=Ω (.bool (pS nm Ks))/\Γ w.heap.size w w':=by
 go_enter func206,Tryz.ntmps206;go_wp2;go_ret;exact⟨cj rfl,(ώ _ _).alloc (ϊ _) _⟩
def db(h:Γ B w wr)(h1:Γ (wr.alloc o).heap.size (wr.alloc o) w1)(hB:B<=wr.heap.size):Γ B w w1:=
 h.trans (((ώ _ _).alloc hB _).trans (h1.mono (by simp;omega)))
def chain(h:Γ B w wr)(h1:Γ wr.heap.size wr w1)(hB:B<=wr.heap.size):Γ B w w1:=h.trans (h1.mono hB)
def uY(h:Γ B (wr.alloc o) w1):wr.heap.size<w1.heap.size:=by have:=h.size;simp at this;omega
def app1{a b:υ}{R:Ending->Ψ->Prop}(h:ύ P f #[a,b] w R):ύ P f (#[a]++#[b]) w R:=by
 have e:(#[a]++#[b]:Array υ)=#[a,b]:=by simp
 rw[e];exact h
def th{a:Ψ}(h:Γ B a.drew w):Γ B a w:=⟨h.os,h.tape,h.output,h.size,h.block⟩
def qd(h:Γ (w.heap.size+1) (w.alloc o) wr):Γ w.heap.size w wr:=((ώ _ _).alloc (ϊ _) _).trans (h.mono (by omega))
def qy(fj:List Piece)(p:Piece):Int:=
 if sr p.name.data.toList then if fj.any (λq=>pS q.name p.name) then 5 else if qz p.len.lo p.len.hi 1 40 3 then if cf p.bears 0 2 then 0 else 1 else 1 else 4
def nP(l:List Piece):Int:=if cf l.length 1 3 then scan qy [] l else 2
def pieces{n:Int}{l:List Piece}(hv:Row w B 4 Piece.R pv l)(hB:B<=w.heap.size):
 ύ prog 142 #[η #[ξ κ n,pv,bv,tv]] w λe w'=>e=Ω (ξ κ (nP l))/\Γ w.heap.size w w':=by
 have HV:=ψ hv;obtain⟨A,m,c,rfl,hl,gY,hc,hr⟩:=hv.Φ;have fy:=ψ hl;unfold ϕ at hc;have H2:=ψ hr;clear hl hr hv;cases hlen:cf m 1 3 with
 |false=>
  go_enter func142,Tryz.ntmps142;go_wp2_with (first
   | (go_at_call 134;refine(inside _ _ _ _).mono ?_;rintro e w' ⟨rfl,rfl⟩))
  go_ret;exact⟨bj (by unfold nP;rw[fy.e,hlen];rfl),(ώ _ _).alloc (ϊ _) _⟩
 |true=>
  go_enter func142,Tryz.ntmps142;go_wp2_with (first
   | (go_at_call 134;refine(inside _ _ _ _).mono ?_;rintro e w' ⟨rfl,rfl⟩))
  go_loopw [2,3,4,15] (λr t q k wr=>∃i:Nat,i<=m/\k=ξ κ i/\(∀(j:Nat) (x:Piece),j<i->l[j]?=φ x->qy (l.take j) x=0)/\Γ (w.heap.size+1) (w.alloc (Ϥ #[ξ κ n,ζ A m c,bv,tv] 117)) wr) (λ_ _ _ k _=>m - (Ϭ k).toNat)
  case atStart=>exact⟨0,Ϡ _,rfl,λj _ hj=>by omega,ώ _ _⟩
  case round=>
   obtain⟨i,hi,rfl,bL,hb⟩:=hrel;have HH:=ψ (Ϗ bL hb);have iu:=hb.size;have aL:w.heap.size+1<=wr.heap.size:=by simpa using iu
   have Aj:w.heap.size<=wr.heap.size:=by omega
   have Eg:w.heap.size<wr.heap.size:=by omega
   have ho: wr.cell? ⟨w.heap.size,1,ν⟩=φ (ζ A m c):=(hb.cell (p:=⟨w.heap.size,1,ν⟩) (by simp)).trans (by simp[go_sem])
   by_cases aj:i<m
   ·obtain⟨ad,x,cs,rfl,aD,hx,⟨rfl,dk⟩,-,aq⟩:=H2.e i aj
    have st:Δ B w wr:=((Δ.refl w).alloc hB _).trans (Δ.aN hb (by omega))
    have ST:=ψ st;have h0:=cA aq st aD rfl;have h1:=bH aq st aD 0 rfl;have h2:=bH aq st aD 1 rfl;have h3:=bH aq st aD 2 rfl;have HX:=ψ hx;clear bL hb hx aq st iu;have qM:=ψ HH.e.2;have bad:∀s:Int,qy (l.take i) x=s->s≠0->s=nP l:=λs hs h0=>by
     unfold nP;rw[fy.e,hlen,if_pos rfl,Ay HX.e HH.e.1 (by rw[hs];exact h0),hs]
    have nA:=ψ bad;clear bad;cases fU:sr x.name.data.toList with
    |false=>
     go_wp2_with (first
      | (go_at_call 182;refine(isName dk _).mono ?_;rintro e w1 ⟨rfl,ag⟩;obtain⟨mG,oY⟩:=mX ag rfl))
     go_ret;exact⟨bj (nA.e 4 (by unfold qy;rw[fU];rfl) (by omega)),qd (db qM.e ag aL)⟩
    |true=>
     cases tM:(l.take i).any (λq=>pS q.name x.name) with
     |true=>
      go_wp2_with (first
       | (go_at_call 182;refine(isName dk _).mono ?_;rintro e w1 ⟨rfl,ag⟩;obtain⟨mG,oY⟩:=mX ag rfl;have aS:wr.heap.size<w1.heap.size:=uY ag;have pM:w.heap.size<w1.heap.size:=Agy Aj aS;have fL:=ψ (db qM.e ag aL);have rf:Hid (w1.cell? ⟨wr.heap.size,0,ν⟩=φ (.string x.name)):=ψ ((mG wr.heap.size 0 (by simp)).trans (į wr _ _ _ 0));clear ag)
       | (go_at_call 183;have HS:=ψ ((HV.e.take hi).still (Δ.aN (qd fL.e) hB) λ_ _ h=>h);refine(L1 (λq=>pS q.name x.name) call184 HS.e (ϣ hB (é pM)) (λW y hW _ _=>app1 (N7 (p:=⟨wr.heap.size,0,ν⟩) ((hW.cell (p:=⟨wr.heap.size,0,ν⟩) aS).trans rf.e) (ϟ aS hW.size)))).mono ?_;rintro e w2 ⟨rfl,ak⟩;obtain⟨gW,ru⟩:=mX ak rfl;have bu:wr.heap.size<w2.heap.size:=ϟ aS ak.size;have tO:w.heap.size<w2.heap.size:=ϟ pM ak.size;have il:=ψ (chain fL.e ak pM);clear ak))
      go_ret;exact⟨bj (nA.e 5 (by unfold qy;rw[fU,tM];rfl) (by omega)),qd il.e⟩
     |false=>
      cases oF:qz x.len.lo x.len.hi 1 40 3 with
      |false=>
       go_wp2_with (first
           | (go_at_call 182;refine(isName dk _).mono ?_;rintro e w1 ⟨rfl,ag⟩;obtain⟨mG,oY⟩:=mX ag rfl;have aS:wr.heap.size<w1.heap.size:=uY ag;have pM:w.heap.size<w1.heap.size:=Agy Aj aS;have fL:=ψ (db qM.e ag aL);have rf:Hid (w1.cell? ⟨wr.heap.size,0,ν⟩=φ (.string x.name)):=ψ ((mG wr.heap.size 0 (by simp)).trans (į wr _ _ _ 0));clear ag)
           | (go_at_call 183;have HS:=ψ ((HV.e.take hi).still (Δ.aN (qd fL.e) hB) λ_ _ h=>h);refine(L1 (λq=>pS q.name x.name) call184 HS.e (ϣ hB (é pM)) (λW y hW _ _=>app1 (N7 (p:=⟨wr.heap.size,0,ν⟩) ((hW.cell (p:=⟨wr.heap.size,0,ν⟩) aS).trans rf.e) (ϟ aS hW.size)))).mono ?_;rintro e w2 ⟨rfl,ak⟩;obtain⟨gW,ru⟩:=mX ak rfl;have bu:wr.heap.size<w2.heap.size:=ϟ aS ak.size;have tO:w.heap.size<w2.heap.size:=ϟ pM ak.size;have il:=ψ (chain fL.e ak pM);clear ak)
           | (go_at_call 154;refine(Eo (by omega) (by omega) _).mono ?_;rintro e w3 ⟨rfl,bM⟩;obtain⟨MB,DV⟩:=mX bM rfl;have xM:=ψ (chain il.e bM tO);have pN:wr.heap.size<w3.heap.size:=ϟ bu bM.size;have Z9:w.heap.size<w3.heap.size:=ϟ tO bM.size;clear bM))
       go_ret;exact⟨bj (nA.e 1 (by unfold qy;rw[fU,tM,oF];rfl) (by omega)),qd xM.e⟩
      |true=>
       cases D9:cf x.bears 0 2 with
       |false=>
        go_wp2_with (first
                | (go_at_call 182;refine(isName dk _).mono ?_;rintro e w1 ⟨rfl,ag⟩;obtain⟨mG,oY⟩:=mX ag rfl;have aS:wr.heap.size<w1.heap.size:=uY ag;have pM:w.heap.size<w1.heap.size:=Agy Aj aS;have fL:=ψ (db qM.e ag aL);have rf:Hid (w1.cell? ⟨wr.heap.size,0,ν⟩=φ (.string x.name)):=ψ ((mG wr.heap.size 0 (by simp)).trans (į wr _ _ _ 0));clear ag)
                | (go_at_call 183;have HS:=ψ ((HV.e.take hi).still (Δ.aN (qd fL.e) hB) λ_ _ h=>h);refine(L1 (λq=>pS q.name x.name) call184 HS.e (ϣ hB (é pM)) (λW y hW _ _=>app1 (N7 (p:=⟨wr.heap.size,0,ν⟩) ((hW.cell (p:=⟨wr.heap.size,0,ν⟩) aS).trans rf.e) (ϟ aS hW.size)))).mono ?_;rintro e w2 ⟨rfl,ak⟩;obtain⟨gW,ru⟩:=mX ak rfl;have bu:wr.heap.size<w2.heap.size:=ϟ aS ak.size;have tO:w.heap.size<w2.heap.size:=ϟ pM ak.size;have il:=ψ (chain fL.e ak pM);clear ak)
                | (go_at_call 154;refine(Eo (by omega) (by omega) _).mono ?_;rintro e w3 ⟨rfl,bM⟩;obtain⟨MB,DV⟩:=mX bM rfl;have xM:=ψ (chain il.e bM tO);have pN:wr.heap.size<w3.heap.size:=ϟ bu bM.size;have Z9:w.heap.size<w3.heap.size:=ϟ tO bM.size;clear bM)
                | (go_at_call 134;refine(inside _ _ _ _).mono ?_;rintro e w' ⟨rfl,rfl⟩))
        go_ret;exact⟨bj (nA.e 1 (by unfold qy;rw[fU,tM,oF,D9];rfl) (by omega)),qd xM.e⟩
       |true=>
        go_wp2_with (first
                | (go_at_call 182;refine(isName dk _).mono ?_;rintro e w1 ⟨rfl,ag⟩;obtain⟨mG,oY⟩:=mX ag rfl;have aS:wr.heap.size<w1.heap.size:=uY ag;have pM:w.heap.size<w1.heap.size:=Agy Aj aS;have fL:=ψ (db qM.e ag aL);have rf:Hid (w1.cell? ⟨wr.heap.size,0,ν⟩=φ (.string x.name)):=ψ ((mG wr.heap.size 0 (by simp)).trans (į wr _ _ _ 0));clear ag)
                | (go_at_call 183;have HS:=ψ ((HV.e.take hi).still (Δ.aN (qd fL.e) hB) λ_ _ h=>h);refine(L1 (λq=>pS q.name x.name) call184 HS.e (ϣ hB (é pM)) (λW y hW _ _=>app1 (N7 (p:=⟨wr.heap.size,0,ν⟩) ((hW.cell (p:=⟨wr.heap.size,0,ν⟩) aS).trans rf.e) (ϟ aS hW.size)))).mono ?_;rintro e w2 ⟨rfl,ak⟩;obtain⟨gW,ru⟩:=mX ak rfl;have bu:wr.heap.size<w2.heap.size:=ϟ aS ak.size;have tO:w.heap.size<w2.heap.size:=ϟ pM ak.size;have il:=ψ (chain fL.e ak pM);clear ak)
                | (go_at_call 154;refine(Eo (by omega) (by omega) _).mono ?_;rintro e w3 ⟨rfl,bM⟩;obtain⟨MB,DV⟩:=mX bM rfl;have xM:=ψ (chain il.e bM tO);have pN:wr.heap.size<w3.heap.size:=ϟ bu bM.size;have Z9:w.heap.size<w3.heap.size:=ϟ tO bM.size;clear bM)
                | (go_at_call 134;refine(inside _ _ _ _).mono ?_;rintro e w' ⟨rfl,rfl⟩))
        go_roundw;case rel=>exact⟨i+1,by omega,by go_num,λj y hj hy=>by
                rcases ε.1 hj with h|rfl
                ·exact HH.e.1 j y h hy
                ·rw[HX.e] at hy;cases hy;unfold qy;rw[fU,tM,oF,D9];rfl,xM.e⟩
        case measure=>simp[Ϭ];omega
   ·obtain rfl:i=m:=by omega
    go_wp2;go_ret;refine⟨bj ?_,qd HH.e.2⟩
    unfold nP;rw[fy.e,hlen,if_pos rfl,vZ (λj x hj=>HH.e.1 j x (by have:=(ϩ.1 hj).1;have:=fy.e;omega) hj)]
def tQ{n b:Int}(h:cf n a b=θ):a<=n/\n<=b:=by simpa [cf] using h
def qv(aw:Int):Int->List Span->Int
 |_,[]=>0
 |last,k::l=>if qz k.lo k.hi 0 (aw - 1) aw then if k.lo<=last then 7 else qv aw k.hi l else 1
def mP(fj:List aP)(x:aP):Int:=
 if sr x.name.data.toList then if fj.any (λq=>pS q.name x.name) then 5 else if cf x.aw 1 40 then if 3<x.aU.length then 2 else qv x.aw (-1) x.aU else 1 else 4
def drop_cons{l:List α}{x:α}(h:l[i]?=φ x):l.drop i=x::l.drop (i+1):=by
 obtain⟨hi,e⟩:=ϩ.1 h
 rw[List.drop_eq_getElem_cons hi,e]
def bm{x:aP}{kv:υ}{l:List aP}(dk:x.name.size<=ϕ)(hk:Row w B 2 Span.R kv x.aU)(hv:Row w B 3 (aP.R w B) v l)(hB:B<=w.heap.size):
 ύ prog 185 #[η #[.string x.name,ξ κ x.aw,kv],v] w λe w'=>e=Ω (ξ κ (mP l x))/\Γ w.heap.size w w':=by
 have HV:=ψ hv;have HK:=ψ hk;obtain⟨A,m,c,rfl,hl,gY,hc,hr⟩:=hk.Φ;have fy:=ψ hl;unfold ϕ at hc;have H2:=ψ hr;have Aj:w.heap.size<=w.heap.size:=ϊ _;clear hl hr hk hv;cases fU:sr x.name.data.toList with
 |false=>
  go_enter func185,Tryz.ntmps185;go_wp2_with (first
   | (go_at_call 182;refine(isName dk _).mono ?_;rintro e w1 ⟨rfl,ag⟩;obtain⟨mG,oY⟩:=mX ag rfl))
  go_ret;exact⟨bj (by unfold mP;rw[fU];rfl),db (ώ _ _) ag (ϊ _)⟩
 |true=>
  cases tM:l.any (λq=>pS q.name x.name) with
  |true=>
   go_enter func185,Tryz.ntmps185;go_wp2_with (first
    | (go_at_call 182;refine(isName dk _).mono ?_;rintro e w1 ⟨rfl,ag⟩;obtain⟨mG,oY⟩:=mX ag rfl;have aS:w.heap.size<w1.heap.size:=uY ag;have fL:=ψ (db (ώ w.heap.size w) ag (ϊ _));have rf:Hid (w1.cell? ⟨w.heap.size,0,ν⟩=φ (.string x.name)):=ψ ((mG w.heap.size 0 (by simp)).trans (į w _ _ _ 0));clear ag)
    | (go_at_call 205;have HS:=ψ (HV.e.still (Δ.aN fL.e hB) λ_ _ h=>h.still (Δ.aN fL.e hB));refine(L3 (λq=>pS q.name x.name) call206 HS.e (ϣ hB (é aS)) (λW y kv hW _ _ _=>app1 (N8 (p:=⟨w.heap.size,0,ν⟩) ((hW.cell (p:=⟨w.heap.size,0,ν⟩) aS).trans rf.e) (ϟ aS hW.size)))).mono ?_;rintro e w2 ⟨rfl,ak⟩;obtain⟨gW,ru⟩:=mX ak rfl;have bu:w.heap.size<w2.heap.size:=ϟ aS ak.size;have il:=ψ (chain fL.e ak (é aS));clear ak))
   go_ret;exact⟨bj (by unfold mP;rw[fU,tM];rfl),il.e⟩
  |false=>
   cases oF:cf x.aw 1 40 with
   |false=>
    go_enter func185,Tryz.ntmps185;go_wp2_with (first
     | (go_at_call 182;refine(isName dk _).mono ?_;rintro e w1 ⟨rfl,ag⟩;obtain⟨mG,oY⟩:=mX ag rfl;have aS:w.heap.size<w1.heap.size:=uY ag;have fL:=ψ (db (ώ w.heap.size w) ag (ϊ _));have rf:Hid (w1.cell? ⟨w.heap.size,0,ν⟩=φ (.string x.name)):=ψ ((mG w.heap.size 0 (by simp)).trans (į w _ _ _ 0));clear ag)
     | (go_at_call 205;have HS:=ψ (HV.e.still (Δ.aN fL.e hB) λ_ _ h=>h.still (Δ.aN fL.e hB));refine(L3 (λq=>pS q.name x.name) call206 HS.e (ϣ hB (é aS)) (λW y kv hW _ _ _=>app1 (N8 (p:=⟨w.heap.size,0,ν⟩) ((hW.cell (p:=⟨w.heap.size,0,ν⟩) aS).trans rf.e) (ϟ aS hW.size)))).mono ?_;rintro e w2 ⟨rfl,ak⟩;obtain⟨gW,ru⟩:=mX ak rfl;have bu:w.heap.size<w2.heap.size:=ϟ aS ak.size;have il:=ψ (chain fL.e ak (é aS));clear ak)
     | (go_at_call 134;refine(inside _ _ _ _).mono ?_;rintro e w' ⟨rfl,rfl⟩))
    go_ret;exact⟨bj (by unfold mP;rw[fU,tM,oF];rfl),il.e⟩
   |true=>
    obtain⟨oZ,uR⟩:=tQ oF;by_cases h3:3<m
    ·go_enter func185,Tryz.ntmps185
     go_wp2_with (first
      | (go_at_call 182;refine(isName dk _).mono ?_;rintro e w1 ⟨rfl,ag⟩;obtain⟨mG,oY⟩:=mX ag rfl;have aS:w.heap.size<w1.heap.size:=uY ag;have fL:=ψ (db (ώ w.heap.size w) ag (ϊ _));have rf:Hid (w1.cell? ⟨w.heap.size,0,ν⟩=φ (.string x.name)):=ψ ((mG w.heap.size 0 (by simp)).trans (į w _ _ _ 0));clear ag)
      | (go_at_call 205;have HS:=ψ (HV.e.still (Δ.aN fL.e hB) λ_ _ h=>h.still (Δ.aN fL.e hB));refine(L3 (λq=>pS q.name x.name) call206 HS.e (ϣ hB (é aS)) (λW y kv hW _ _ _=>app1 (N8 (p:=⟨w.heap.size,0,ν⟩) ((hW.cell (p:=⟨w.heap.size,0,ν⟩) aS).trans rf.e) (ϟ aS hW.size)))).mono ?_;rintro e w2 ⟨rfl,ak⟩;obtain⟨gW,ru⟩:=mX ak rfl;have bu:w.heap.size<w2.heap.size:=ϟ aS ak.size;have il:=ψ (chain fL.e ak (é aS));clear ak)
      | (go_at_call 134;refine(inside _ _ _ _).mono ?_;rintro e w' ⟨rfl,rfl⟩))
     go_ret;exact⟨bj (by unfold mP;rw[fU,tM,oF,fy.e];simp[h3]),il.e⟩
    ·go_enter func185,Tryz.ntmps185
     go_wp2_with (first
      | (go_at_call 182;refine(isName dk _).mono ?_;rintro e w1 ⟨rfl,ag⟩;obtain⟨mG,oY⟩:=mX ag rfl;have aS:w.heap.size<w1.heap.size:=uY ag;have fL:=ψ (db (ώ w.heap.size w) ag (ϊ _));have rf:Hid (w1.cell? ⟨w.heap.size,0,ν⟩=φ (.string x.name)):=ψ ((mG w.heap.size 0 (by simp)).trans (į w _ _ _ 0));have HL1:Hid (w1.cell? ⟨w.heap.size,1,ν⟩=φ (ξ κ x.aw)):=ψ ((mG w.heap.size 1 (by simp)).trans (į w _ _ _ 1));clear ag)
      | (go_at_call 205;have HS:=ψ (HV.e.still (Δ.aN fL.e hB) λ_ _ h=>h.still (Δ.aN fL.e hB));refine(L3 (λq=>pS q.name x.name) call206 HS.e (ϣ hB (é aS)) (λW y kv hW _ _ _=>app1 (N8 (p:=⟨w.heap.size,0,ν⟩) ((hW.cell (p:=⟨w.heap.size,0,ν⟩) aS).trans rf.e) (ϟ aS hW.size)))).mono ?_;rintro e w2 ⟨rfl,ak⟩;obtain⟨gW,ru⟩:=mX ak rfl;have bu:w.heap.size<w2.heap.size:=ϟ aS ak.size;have il:=ψ (chain fL.e ak (é aS));have HL2:Hid (w2.cell? ⟨w.heap.size,1,ν⟩=φ (ξ κ x.aw)):=ψ ((gW w.heap.size 1 aS).trans HL1.e);clear ak)
      | (go_at_call 134;refine(inside _ _ _ _).mono ?_;rintro e w' ⟨rfl,rfl⟩))
     clear mG oY gW ru;go_loopw [4,5,7,30] (λr la q k wr=>∃(i:Nat) (z:Int),i<=m/\k=ξ κ i/\la=ξ κ z/\qv x.aw (-1) x.aU=qv x.aw z (x.aU.drop i)/\Γ w2.heap.size w2 wr) (λ_ _ _ k _=>m - (Ϭ k).toNat)
     case atStart=>exact⟨0,-1,Ϡ _,rfl,rfl,rfl,ώ _ _⟩
     case round=>
      obtain⟨i,z,hi,rfl,rfl,bL,hb⟩:=hrel;have HH:=ψ (Ϗ bL hb);have iu:=hb.size;have Eg:w.heap.size<wr.heap.size:=ϟ bu iu;have hlg: wr.cell? ⟨w.heap.size,1,ν⟩=φ (ξ κ x.aw):=(hb.cell (p:=⟨w.heap.size,1,ν⟩) bu).trans HL2.e;by_cases aj:i<m
      ·obtain⟨ad,y,cs,rfl,aD,hx,rfl,-,aq⟩:=H2.e i aj
       have st:Δ B w wr:=(Δ.aN il.e hB).trans (Δ.aN hb (by omega))
       have h0:=cA aq st aD rfl;have h1:=bH aq st aD 0 rfl;have HX:=ψ (drop_cons hx);clear bL hb hx aq st;cases hq:qz y.lo y.hi 0 (x.aw - 1) x.aw with
       |false=>
        go_wp2_with (first
            | (go_at_call 154;refine(Eo (by omega) (by omega) _).mono ?_;rintro e w3 ⟨rfl,bM⟩;obtain⟨MB,DV⟩:=mX bM rfl))
        go_ret;exact⟨bj (by unfold mP;rw[fU,tM,oF,fy.e];simp[h3,HH.e.1,HX.e,qv,hq]),chain il.e (db HH.e.2 bM iu) (é bu)⟩
       |true=>
        go_wp2_with (first
            | (go_at_call 154;refine(Eo (by omega) (by omega) _).mono ?_;rintro e w3 ⟨rfl,bM⟩;obtain⟨MB,DV⟩:=mX bM rfl;have pN:wr.heap.size<w3.heap.size:=uY bM))
        ·have hz:y.lo<=z:=by assumption
         go_ret;exact⟨bj (by unfold mP;rw[fU,tM,oF,fy.e];simp[h3,HH.e.1,HX.e,qv,hq,hz]),chain il.e (db HH.e.2 bM iu) (é bu)⟩
        ·have hz:z<y.lo:=by assumption
         go_roundw;case rel=>exact⟨i+1,y.hi,by omega,by go_num,rfl,by rw[HH.e.1,HX.e];simp[qv,hq];omega,db HH.e.2 bM iu⟩
         case measure=>simp[Ϭ];omega
      ·obtain rfl:i=m:=by omega
       go_wp2;go_ret;refine⟨bj ?_,chain il.e HH.e.2 (é bu)⟩
       unfold mP;rw[fU,tM,oF,fy.e];simp[h3,HH.e.1]
       rw[Agh (ÿ fy.e)];rfl
def Cx{id:Nat}{Q:Exit->Act->Ψ->Prop}{a:Act}{l:List Oper}(n:Nat)(hm:P.follows .mixedOrders=θ)(hB:Region.lexTailB .any l.toArray n=θ)
 (h:wpStill P l.toArray w.drew (λa'=>wpList P l.toArray Q (l.drop n) a' w.drew) (l.take n) a):(Code.region id l.toArray θ).wp P Q a w:=
 wp_region_still_tail n hm hB h
def ox(l:List aP):Int:=if 3<l.length then 2 else scan mP [] l
def aF{n:Int}{l:List aP}(hv:Row w B 3 (aP.R w B) bv l)(hB:B<=w.heap.size):
 ύ prog 143 #[η #[ξ κ n,pv,bv,tv]] w λe w'=>e=Ω (ξ κ (ox l))/\Γ w.heap.size w w':=by
 have HV:=ψ hv;obtain⟨A,m,c,rfl,hl,gY,hc,hr⟩:=hv.Φ;have fy:=ψ hl;unfold ϕ at hc;have H2:=ψ hr;clear hl hr hv;by_cases hlen:3<m
 ·go_enter func143,Tryz.ntmps143
  go_wp2;go_ret;exact⟨bj (by unfold ox;rw[fy.e,if_pos hlen]),(ώ _ _).alloc (ϊ _) _⟩
 ·go_enter func143,Tryz.ntmps143
  go_wp2;go_loopw [2,3,4,5,15] (λr t q s k wr=>∃i:Nat,i<=m/\k=ξ κ i/\(∀(j:Nat) (x:aP),j<i->l[j]?=φ x->mP (l.take j) x=0)/\Γ (w.heap.size+1) (w.alloc (Ϥ #[ξ κ n,pv,ζ A m c,tv] 117)) wr) (λ_ _ _ _ k _=>m - (Ϭ k).toNat)
  case atStart=>exact⟨0,Ϡ _,rfl,λj _ hj=>by omega,ώ _ _⟩
  case round=>
   obtain⟨i,hi,rfl,bL,hb⟩:=hrel;have HH:=ψ (Ϗ bL hb);have iu:=hb.size;have aL:w.heap.size+1<=wr.heap.size:=by simpa using iu
   have Aj:w.heap.size<=wr.heap.size:=by omega
   have Eg:w.heap.size<wr.heap.size:=by omega
   have ho: wr.cell? ⟨w.heap.size,2,ν⟩=φ (ζ A m c):=(hb.cell (p:=⟨w.heap.size,2,ν⟩) (by simp)).trans (by simp[go_sem])
   by_cases aj:i<m
   ·obtain⟨ad,x,cs,rfl,aD,hx,⟨kv,rfl,dk,fp⟩,-,aq⟩:=H2.e i aj
    have st:Δ B w wr:=((Δ.refl w).alloc hB _).trans (Δ.aN hb (by omega))
    have ST:=ψ st;obtain⟨A2,c2,rfl,-⟩:=id fp;obtain⟨n2,dw⟩:∃n2,n2=x.aU.length:=⟨_,rfl⟩
    rw[<-dw] at fp aq;clear dw;have zy:=ψ fp;have h0:=cA aq st aD rfl;have h1:=bH aq st aD 0 rfl;have h2:=bH aq st aD 1 rfl;have HX:=ψ hx;clear bL hb hx aq st iu fp;have qM:=ψ HH.e.2;have Jy:i<=c:=by omega
    go_wp2;refine Cx 6 (by kernel_rfl) (by kernel_rfl) ?_
    simp only[ù,ú,ý,ĉ];repeat still_step
    refine wpStill_nil ?_
    have HS:Hid (Δ B w (wr.alloc (Ϥ #[Value.string x.name,ϛ ϗ x.aw,Value.slice A2 n2 c2] 59)).drew):=ψ λp hp=>(Ĉ wr _ p (by omega)).trans (ST.e p hp)
    have HR:=ψ ((HV.e.take hi).still HS.e λ_ _ h=>h.still HS.e)
    have Lq:=ψ (zy.e.still HS.e λ_ _ h=>h)
    by_cases hz:mP (l.take i) x=0
    ·go_wp2_with (first
      | (go_at_call 185;refine(bm dk Lq.e HR.e (by simp;omega)).mono ?_;rintro e w1 ⟨rfl,ag⟩;have fL:=ψ (db qM.e (th ag) aL);clear ag))
     go_roundw;case rel=>exact⟨i+1,by omega,by go_num,λj y hj hy=>by
      rcases ε.1 hj with h|rfl
      ·exact HH.e.1 j y h hy
      ·rw[HX.e] at hy;cases hy;exact hz,fL.e⟩
     case measure=>simp[Ϭ];omega
    ·go_wp2_with (first
      | (go_at_call 185;refine(bm dk Lq.e HR.e (by simp;omega)).mono ?_;rintro e w1 ⟨rfl,ag⟩;have fL:=ψ (db qM.e (th ag) aL);clear ag))
     go_ret;exact⟨bj (by unfold ox;rw[fy.e,if_neg hlen,Ay HX.e HH.e.1 hz]),qd fL.e⟩
   ·obtain rfl:i=m:=by omega
    go_wp2;go_ret;refine⟨bj ?_,qd HH.e.2⟩
    unfold ox;rw[fy.e,if_neg hlen,vZ (λj x hj=>HH.e.1 j x (by have:=(ϩ.1 hj).1;have:=fy.e;omega) hj)]
def iA(np:Int):Option Int->List Int->Int
 |_,[]=>0
 |none,k::l=>if cf k 0 (np - 1) then iA np (φ k) l else 6
 |some p,k::l=>if cf k 0 (np - 1) then if k<=p then 7 else iA np (φ k) l else 6
def qG(np:Int)(t:Tape):Int:=
 if t.pieces.length=0 then 2 else if iA np ν t.pieces≠0 then iA np ν t.pieces else if qz t.sum.lo t.sum.hi 0 120 121 then 0 else 1
def qW(np:Int)(l:List Tape):Int:=if 4<l.length then 2 else scan (λ_ t=>qG np t) [] l
def ss(l:List Int)(i:Nat):Option Int:=if i=0 then ν else l[i - 1]?
def aM{n:Int}{lp:List Piece}{l:List Tape}(hp:Row w B 4 Piece.R pv lp)(hv:Row w B 3 (Tape.R w B) tv l)(hB:B<=w.heap.size):
 ύ prog 144 #[η #[ξ κ n,pv,bv,tv]] w λe w'=>e=Ω (ξ κ (qW lp.length l))/\Γ w.heap.size w w':=by
 obtain⟨PA,np,pc,rfl,sd,MW,B7,-⟩:=hp.Φ;obtain⟨A,m,c,rfl,hl,gY,hc,hr⟩:=hv.Φ;have fy:=ψ hl;have JI:=ψ sd;unfold ϕ at hc B7;have H2:=ψ hr;clear hl hr hv sd hp;by_cases hlen:4<m
 ·go_enter func144,Tryz.ntmps144
  go_wp2;go_ret;exact⟨bj (by unfold qW;rw[fy.e,if_pos hlen]),(ώ _ _).alloc (ϊ _) _⟩
 ·go_enter func144,Tryz.ntmps144
  go_wp2;go_loopw [2,4,5,6,16] (λr t q s k wr=>∃i:Nat,i<=m/\k=ξ κ i/\(∀(j:Nat) (x:Tape),j<i->l[j]?=φ x->qG np x=0)/\Γ (w.heap.size+1) (w.alloc (Ϥ #[ξ κ n,ζ PA np pc,bv,ζ A m c] 117)) wr) (λ_ _ _ _ k _=>m - (Ϭ k).toNat)
  case atStart=>exact⟨0,Ϡ _,rfl,λj _ hj=>by omega,ώ _ _⟩
  case round=>
   obtain⟨i,hi,rfl,bL,hb⟩:=hrel;have HH:=ψ (Ϗ bL hb);have iu:=hb.size;have aL:w.heap.size+1<=wr.heap.size:=by simpa using iu
   have Aj:w.heap.size<=wr.heap.size:=by omega
   have Eg:w.heap.size<wr.heap.size:=by omega
   have ho: wr.cell? ⟨w.heap.size,1,ν⟩=φ (ζ PA np pc):=(hb.cell (p:=⟨w.heap.size,1,ν⟩) (by simp)).trans (by simp[go_sem])
   by_cases aj:i<m
   ·obtain⟨ad,x,cs,rfl,aD,hx,⟨kv,rfl,fp⟩,-,aq⟩:=H2.e i aj
    have st:Δ B w wr:=((Δ.refl w).alloc hB _).trans (Δ.aN hb (by omega))
    obtain⟨KA,kn,kc,rfl,cM,Y4,JB,tJ⟩:=fp.Φ;unfold ϕ at JB;have ST:=ψ st;have KL:=ψ cM;have KR:=ψ tJ;have h0:=cA aq st aD rfl;have h1:=bH aq st aD 0 rfl;have h2:=bH aq st aD 1 rfl;have HX:=ψ hx;clear bL hb hx aq st iu fp cM tJ;have qM:=ψ HH.e.2;have bad:∀s:Int,qG np x=s->s≠0->s=qW lp.length l:=λs hs h0=>by
     unfold qW;rw[fy.e,if_neg hlen,JI.e,Ay (f:=λ_ t=>qG np t) HX.e HH.e.1 (by rw[hs];exact h0),hs]
    have nA:=ψ bad;clear bad;by_cases oC:kn=0
    ·subst oC
     go_wp2;go_ret;exact⟨bj (nA.e 2 (by unfold qG;rw[KL.e];rfl) (by omega)),qd (qM.e.trans ((ώ _ _).alloc aL _))⟩
    ·have MK:0<kn:=by omega
     have ny:((kn:Int)==0)=χ:=by simp;omega
     go_wp2
     go_loop [2,5,6,27] (λr q s k=>∃j:Nat,j<=kn/\k=ξ κ j/\iA np ν x.pieces=iA np (ss x.pieces j) (x.pieces.drop j)) (λ_ _ _ k=>kn - (Ϭ k).toNat)
     case atStart=>exact⟨0,Ϡ _,rfl,rfl⟩
     case round=>
      obtain⟨j,hj,rfl,B8⟩:=hrel;have RE:=ψ B8;clear B8;by_cases tI:j<kn
      ·obtain⟨kd,y,qf,rfl,xe,hy,rfl,-,oB⟩:=KR.e j tI
       have g0:=cA oB ST.e xe rfl;rw[Ķ] at g0;have g1:(wr.alloc (Ϥ #[Value.slice (φ kd) kn kc,ϛ ϗ x.sum.lo,ϛ ϗ x.sum.hi] 95)).cell? (kd.add j)=φ (ξ κ y):=(Ĉ wr _ _ (by rw[cq];omega)).trans g0
       clear g0;have HY:=ψ hy;clear hy oB;cases fP:cf y 0 (np - 1) with
       |false=>
        go_wp2_with (first
            | (go_at_call 134;refine(inside _ _ _ _).mono ?_;rintro e w' ⟨rfl,rfl⟩))
        go_ret;refine⟨bj (nA.e 6 ?_ (by omega)),qd (qM.e.trans ((ώ _ _).alloc aL _))⟩
        have e:iA np ν x.pieces=6:=by
            rw[RE.e,drop_cons HY.e];cases ss x.pieces j<;>simp[iA,fP]
        unfold qG;rw[KL.e,if_neg oC,e];rfl
       |true=>
        rcases Nat.eq_zero_or_pos j with Bt|Bt
        ·subst Bt
         rw[show kd.add 0=kd from rfl] at g1
         go_wp2_with (first
            | (go_at_call 134;refine(inside _ _ _ _).mono ?_;rintro e w' ⟨rfl,rfl⟩))
         have hrel:iA np ν x.pieces=iA np (ss x.pieces 1) (x.pieces.drop 1):=by rw[RE.e,drop_cons HY.e];simp[ss,iA,fP,HY.e]
         go_round
         case rel=>exact⟨1,tI,by go_num,hrel⟩
         case measure=>simp[Ϭ];omega
        ·obtain⟨q,rfl⟩:∃q,j=q+1:=⟨j - 1,by omega⟩
         obtain⟨kg,z,Xn,IT,Y5,hz,rfl,-,BF⟩:=KR.e q (by omega)
         cases IT;rw[show kd.add (q+1)=⟨kd.block,kd.off+(q+1),ν⟩ from rfl] at g1
         have g2:=cA BF ST.e xe rfl;rw[Ķ] at g2;have g3:(wr.alloc (Ϥ #[Value.slice (φ kd) kn kc,ϛ ϗ x.sum.lo,ϛ ϗ x.sum.hi] 95)).cell? (kd.add q)=φ (ξ κ z):=(Ĉ wr _ _ (by rw[cq];omega)).trans g2
         have HZ:=ψ hz;clear g2 hz BF;go_wp2_with (first
            | (go_at_call 134;refine(inside _ _ _ _).mono ?_;rintro e w' ⟨rfl,rfl⟩))
         ·have xr:y<=z:=by assumption
          go_ret;refine⟨bj (nA.e 7 ?_ (by omega)),qd (qM.e.trans ((ώ _ _).alloc aL _))⟩
          have e:iA np ν x.pieces=7:=by
              rw[RE.e,drop_cons HY.e];simp[ss,HZ.e,iA,fP,xr]
          unfold qG;rw[KL.e,if_neg oC,e];rfl
         ·have xr:z<y:=by assumption
          have hrel:iA np ν x.pieces=iA np (ss x.pieces (q+2)) (x.pieces.drop (q+2)):=by rw[RE.e,drop_cons HY.e];simp[ss,HZ.e,HY.e,iA,fP];omega
          go_round
          case rel=>exact⟨q+2,by omega,by go_num,hrel⟩
          case measure=>simp[Ϭ];omega
      ·obtain rfl:j=kn:=by omega
       have e:iA np ν x.pieces=0:=by
           rw[RE.e,Agh (ÿ KL.e)];cases ss x.pieces j<;>rfl
       have HE:=ψ e;clear e;cases uW:qz x.sum.lo x.sum.hi 0 120 121 with
       |false=>
        go_wp2_with (first
            | (go_at_call 154;refine(Eo (by omega) (by omega) _).mono ?_;rintro e w3 ⟨rfl,bM⟩))
        go_ret;exact⟨bj (nA.e 1 (by unfold qG;rw[KL.e,if_neg oC,HE.e,uW];rfl) (by omega)),qd (db qM.e bM aL)⟩
       |true=>
        go_wp2_with (first
            | (go_at_call 154;refine(Eo (by omega) (by omega) _).mono ?_;rintro e w3 ⟨rfl,bM⟩))
        go_roundw;case rel=>exact⟨i+1,by omega,by go_num,λk y hk hy=>by
            rcases ε.1 hk with h|rfl
            ·exact HH.e.1 k y h hy
            ·rw[HX.e] at hy;cases hy;unfold qG;rw[KL.e,if_neg oC,HE.e,uW];rfl,db qM.e bM aL⟩
        case measure=>simp[Ϭ];omega
   ·obtain rfl:i=m:=by omega
    go_wp2;go_ret;refine⟨bj ?_,qd HH.e.2⟩
    unfold qW;rw[fy.e,if_neg hlen,JI.e,vZ (f:=λ_ t=>qG np t) (λj x hj=>HH.e.1 j x (by have:=(ϩ.1 hj).1;have:=fy.e;omega) hj)]
def pq(b:an):List Int:=[if cf b.ab 0 3 then 0 else 1,nP b.pieces,ox b.aF,qW b.pieces.length b.aM]
def dg(b:an):Int:=scan (λ_ s=>s) [] (pq b)
def we(w:Ψ)(s:Int)(p q r:υ):Ψ:=
 ((w.alloc (Ϥ #[ϛ ϗ s,p,q,r] 26)).alloc (Ϥ #[ϛ ϗ s,p,q,r] 117)).alloc
   (Ϥ #[Value.func (Fn.func 141) #[Value.agg #[ϛ ϗ s,p,q,r]] #[],Value.func (Fn.func 142) #[Value.agg #[ϛ ϗ s,p,q,r]] #[],Value.func (Fn.func 143) #[Value.agg #[ϛ ϗ s,p,q,r]] #[],Value.func (Fn.func 144) #[Value.agg #[ϛ ϗ s,p,q,r]] #[]] 175)
section
variable (w:Ψ)(s:Int)(p q r:υ)
def as8:(we w s p q r).heap.size=w.heap.size+3:=by simp[we]
def as3:Γ w.heap.size w (we w s p q r):=(((ώ _ _).alloc (ϊ _) _).alloc (by simp) _).alloc (by simp;omega) _
def as4:(we w s p q r).cell? ⟨w.heap.size+1+1,0,ν⟩=φ (Value.func (Fn.func 141) #[Value.agg #[ϛ ϗ s,p,q,r]] #[]):=by simp[we,go_sem]
def as5:(we w s p q r).cell? ⟨w.heap.size+1+1,1,ν⟩=φ (Value.func (Fn.func 142) #[Value.agg #[ϛ ϗ s,p,q,r]] #[]):=by simp[we,go_sem]
def as6:(we w s p q r).cell? ⟨w.heap.size+1+1,2,ν⟩=φ (Value.func (Fn.func 143) #[Value.agg #[ϛ ϗ s,p,q,r]] #[]):=by simp[we,go_sem]
def as7:(we w s p q r).cell? ⟨w.heap.size+1+1,3,ν⟩=φ (Value.func (Fn.func 144) #[Value.agg #[ϛ ϗ s,p,q,r]] #[]):=by simp[we,go_sem]
end
def Qw{b:an}(hb:bq w B b pv bv tv)(hB:B<=w.heap.size):
 ύ prog 68 #[η #[ξ κ b.ab,pv,bv,tv]] w λe w'=>e=Ω (ξ κ (dg b))/\Γ w.heap.size w w':=by
 have HB:=ψ hb;obtain⟨A1,c1,e1,-⟩:=id hb.pieces;obtain⟨A2,c2,e2,-⟩:=id hb.aF;obtain⟨A3,c3,e3,-⟩:=id hb.aM;obtain⟨n1,h1⟩:∃n,n=b.pieces.length:=⟨_,rfl⟩
 obtain⟨n2,h2⟩:∃n,n=b.aF.length:=⟨_,rfl⟩
 obtain⟨n3,h3⟩:∃n,n=b.aM.length:=⟨_,rfl⟩
 rw[<-h1] at e1;rw[<-h2] at e2;rw[<-h3] at e3
 subst e1;subst e2;subst e3
 clear hb h1 h2 h3;go_enter func68,Tryz.ntmps68;go_wp2;go_loopw [2,5,6,19] (λa f u k wr=>∃i:Nat,i<=4/\k=ξ κ i/\(∀(j:Nat) (x:Int),j<i->(pq b)[j]?=φ x->x=0)/\Γ (w.heap.size+3) (we w b.ab (ζ A1 n1 c1) (ζ A2 n2 c2) (ζ A3 n3 c3)) wr) (λ_ _ _ k _=>4 - (Ϭ k).toNat)
 case atStart=>exact⟨0,Ϡ _,rfl,λj _ hj=>by omega,ώ _ _⟩
 case round=>
  obtain⟨i,hi,rfl,bL,nv⟩:=hrel;have HH:=ψ (Ϗ bL nv);have aL:w.heap.size+3<=wr.heap.size:=by have:=nv.size;rw[as8] at this;exact this
  have wF:=ψ ((as3 w b.ab (ζ A1 n1 c1) (ζ A2 n2 c2) (ζ A3 n3 c3)).trans (nv.mono (by omega)))
  have bV:=ψ (HB.e.still (Δ.aN wF.e hB));have Q6:B<=wr.heap.size:=by omega
  clear bL;have done:∀(s:Int),(pq b)[i]?=φ s->s≠0->s=dg b:=λs hs h0=>(Ay (f:=λ_ s=>s) hs HH.e.1 h0).symm
  have Li:=ψ done;clear done;have next:∀(s:Int),(pq b)[i]?=φ s->s=0->∀(j:Nat) (x:Int),j<i+1->(pq b)[j]?=φ x->x=0:=λs hs h0 j x hj hx=>by
   rcases ε.1 hj with h|rfl
   ·exact HH.e.1 j x h hx
   ·rw[hs] at hx;cases hx;exact h0
  have Ly:=ψ next
  clear next
  by_cases aj:i<4
  ·match i,aj with
   |0,_=>
    have g:=(nv.cell (p:=⟨w.heap.size+1+1,0,ν⟩) (by simp)).trans (as4 _ _ _ _ _)
    clear nv;have call:ύ prog 141 #[η #[ξ κ b.ab,ζ A1 n1 c1,ζ A2 n2 c2,ζ A3 n3 c3]] wr λe w'=>e=Ω (ξ κ (if cf b.ab 0 3 then 0 else 1))/\Γ wr.heap.size wr w':=(ab _)
    obtain⟨s,hs⟩:∃s:Int,s=(if cf b.ab 0 3 then 0 else 1):=⟨_,rfl⟩
    rw[<-hs] at call;have cu:(pq b)[0]?=φ s:=by rw[hs];rfl
    have HS:=ψ cu;have aE:=ψ call;clear hs cu call;by_cases h0:s=0
    ·go_wp2_with (first
      | (go_at_call 141;refine aE.e.mono ?_;rintro e w1 ⟨rfl,ag⟩;have a8:=ψ ag;clear ag))
     go_roundw;case rel=>exact⟨0+1,by omega,by go_num,Ly.e s HS.e h0,HH.e.2.trans (a8.e.mono aL)⟩
     case measure=>simp[Ϭ]
    ·go_wp2_with (first
      | (go_at_call 141;refine aE.e.mono ?_;rintro e w1 ⟨rfl,ag⟩;have a8:=ψ ag;clear ag))
     go_ret;exact⟨bj (Li.e s HS.e h0),wF.e.trans (a8.e.mono (by omega))⟩
   |1,_=>
    have g:=(nv.cell (p:=⟨w.heap.size+1+1,1,ν⟩) (by simp)).trans (as5 _ _ _ _ _)
    clear nv;have call:ύ prog 142 #[η #[ξ κ b.ab,ζ A1 n1 c1,ζ A2 n2 c2,ζ A3 n3 c3]] wr λe w'=>e=Ω (ξ κ (nP b.pieces))/\Γ wr.heap.size wr w':=(pieces bV.e.pieces Q6)
    obtain⟨s,hs⟩:∃s:Int,s=(nP b.pieces):=⟨_,rfl⟩
    rw[<-hs] at call;have cu:(pq b)[1]?=φ s:=by rw[hs];rfl
    have HS:=ψ cu;have aE:=ψ call;clear hs cu call;by_cases h0:s=0
    ·go_wp2_with (first
      | (go_at_call 142;refine aE.e.mono ?_;rintro e w1 ⟨rfl,ag⟩;have a8:=ψ ag;clear ag))
     go_roundw;case rel=>exact⟨1+1,by omega,by go_num,Ly.e s HS.e h0,HH.e.2.trans (a8.e.mono aL)⟩
     case measure=>simp[Ϭ]
    ·go_wp2_with (first
      | (go_at_call 142;refine aE.e.mono ?_;rintro e w1 ⟨rfl,ag⟩;have a8:=ψ ag;clear ag))
     go_ret;exact⟨bj (Li.e s HS.e h0),wF.e.trans (a8.e.mono (by omega))⟩
   |2,_=>
    have g:=(nv.cell (p:=⟨w.heap.size+1+1,2,ν⟩) (by simp)).trans (as6 _ _ _ _ _)
    clear nv;have call:ύ prog 143 #[η #[ξ κ b.ab,ζ A1 n1 c1,ζ A2 n2 c2,ζ A3 n3 c3]] wr λe w'=>e=Ω (ξ κ (ox b.aF))/\Γ wr.heap.size wr w':=(aF bV.e.aF Q6)
    obtain⟨s,hs⟩:∃s:Int,s=(ox b.aF):=⟨_,rfl⟩
    rw[<-hs] at call;have cu:(pq b)[2]?=φ s:=by rw[hs];rfl
    have HS:=ψ cu;have aE:=ψ call;clear hs cu call;by_cases h0:s=0
    ·go_wp2_with (first
      | (go_at_call 143;refine aE.e.mono ?_;rintro e w1 ⟨rfl,ag⟩;have a8:=ψ ag;clear ag))
     go_roundw;case rel=>exact⟨2+1,by omega,by go_num,Ly.e s HS.e h0,HH.e.2.trans (a8.e.mono aL)⟩
     case measure=>simp[Ϭ]
    ·go_wp2_with (first
      | (go_at_call 143;refine aE.e.mono ?_;rintro e w1 ⟨rfl,ag⟩;have a8:=ψ ag;clear ag))
     go_ret;exact⟨bj (Li.e s HS.e h0),wF.e.trans (a8.e.mono (by omega))⟩
   |3,_=>
    have g:=(nv.cell (p:=⟨w.heap.size+1+1,3,ν⟩) (by simp)).trans (as7 _ _ _ _ _)
    clear nv;have call:ύ prog 144 #[η #[ξ κ b.ab,ζ A1 n1 c1,ζ A2 n2 c2,ζ A3 n3 c3]] wr λe w'=>e=Ω (ξ κ (qW b.pieces.length b.aM))/\Γ wr.heap.size wr w':=(aM bV.e.pieces bV.e.aM Q6)
    obtain⟨s,hs⟩:∃s:Int,s=(qW b.pieces.length b.aM):=⟨_,rfl⟩
    rw[<-hs] at call;have cu:(pq b)[3]?=φ s:=by rw[hs];rfl
    have HS:=ψ cu;have aE:=ψ call;clear hs cu call;by_cases h0:s=0
    ·go_wp2_with (first
      | (go_at_call 144;refine aE.e.mono ?_;rintro e w1 ⟨rfl,ag⟩;have a8:=ψ ag;clear ag))
     go_roundw;case rel=>exact⟨3+1,by omega,by go_num,Ly.e s HS.e h0,HH.e.2.trans (a8.e.mono aL)⟩
     case measure=>simp[Ϭ]
    ·go_wp2_with (first
      | (go_at_call 144;refine aE.e.mono ?_;rintro e w1 ⟨rfl,ag⟩;have a8:=ψ ag;clear ag))
     go_ret;exact⟨bj (Li.e s HS.e h0),wF.e.trans (a8.e.mono (by omega))⟩
  ·obtain rfl:i=4:=by omega
   clear nv;go_wp2;go_ret;refine⟨bj (vZ (f:=λ_ s=>s) (λj x hx=>HH.e.1 j x (by have:=(ϩ.1 hx).1;simpa [pq] using this) hx)).symm,wF.e⟩
def lf(c d:Cut):Int:=if c.bm≠d.bm then c.bm - d.bm else c.from_ - d.from_
def less{c d:Cut}(h1:0<=c.bm)(h2:0<=d.bm)(h3:0<=c.from_)(h4:0<=d.from_)(h5:c.bm<=1000)(h6:d.bm<=1000)(h7:c.from_<=1000)(h8:d.from_<=1000):
 ύ prog 173 #[η #[ξ κ c.bm,ξ κ c.from_],η #[ξ κ d.bm,ξ κ d.from_]] w λe w'=>e=Ω (ξ κ (lf c d))/\Γ w.heap.size w w':=by
 by_cases h:c.bm=d.bm
 ·have hb:(c.bm !=d.bm)=χ:=by simp[h]
  have H:=ψ h;clear h;go_enter func173,Tryz.ntmps173;go_wp2;go_ret;exact⟨bj (by unfold lf;rw[if_neg (by simp[H.e])]),((ώ _ _).alloc (ϊ _) _).alloc (by simp) _⟩
 ·have hb:(c.bm !=d.bm)=θ:=by simp[h]
  have H:=ψ h;clear h;go_enter func173,Tryz.ntmps173;go_wp2;go_ret;exact⟨bj (by unfold lf;rw[if_pos H.e]),((ώ _ _).alloc (ϊ _) _).alloc (by simp) _⟩
def sF(s:Int)(c d:Cut)(n m:Int):Bool:= !(c.bm==d.bm) || (decide (c.from_+n+s<=d.from_) ||decide (d.from_+m+s<=c.from_))
def apart{n m:Int}{c d:Cut}(h1:0<=s/\s<=1000)(h2:0<=n/\n<=1000)(h3:0<=m/\m<=1000)(h4:0<=c.from_/\c.from_<=1000)(h5:0<=d.from_/\d.from_<=1000)
 (hp:∃A n c,pv=ζ A n c)(hb:∃A n c,bv=ζ A n c)(ht:∃A n c,tv=ζ A n c):
 ύ prog 166 #[η #[ξ κ s,pv,bv,tv],η #[ξ κ c.bm,ξ κ c.from_],η #[ξ κ d.bm,ξ κ d.from_],ξ κ n,ξ κ m] w λe w'=>e=Ω (.bool (sF s c d n m))/\Γ w.heap.size w w':=by
 obtain⟨A1,n1,c1,rfl⟩:=hp;obtain⟨A2,n2,c2,rfl⟩:=hb;obtain⟨A3,n3,c3,rfl⟩:=ht;obtain⟨h1,jx⟩:=h1;obtain⟨h2,ie⟩:=h2;obtain⟨h3,Bv⟩:=h3;obtain⟨h4,h4'⟩:=h4;obtain⟨h5,Ml⟩:=h5;by_cases h:c.bm=d.bm
 ·have hb:(c.bm !=d.bm)=χ:=by simp[h]
  have H:=ψ h;clear h;go_enter func166,Tryz.ntmps166;go_wp2;all_goals go_ret
  all_goals refine⟨cj ?_,(((ώ _ _).alloc (ϊ _) _).alloc (by simp) _).alloc (by simp;omega) _⟩
  all_goals (unfold sF;simp[H.e];try omega)
 ·have hb:(c.bm !=d.bm)=θ:=by simp[h]
  have H:=ψ h;clear h;go_enter func166,Tryz.ntmps166;go_wp2;go_ret;exact⟨cj (by unfold sF;simp[H.e]),(((ώ _ _).alloc (ϊ _) _).alloc (by simp) _).alloc (by simp;omega) _⟩
def aaN(n:Int)(w:Ψ):ύ prog 178 (#[ξ κ n]++#[]) w λe w'=>e=Ω (.bool (!cf n 1 40))/\Γ w.heap.size w w':=by
 have e:(#[ξ κ n]++#[]:Array υ)=#[ξ κ n]:=by simp
 rw[e];go_enter func178,Tryz.ntmps178;go_wp2_with (first
  | (go_at_call 134;refine(inside _ _ _ _).mono ?_;rintro e w' ⟨rfl,rfl⟩))
 go_ret;exact⟨cj rfl,ώ _ _⟩
def xx(b:an)(l:List Int):Int:=if l.length≠b.pieces.length then 2 else if l.any (λn=> !cf n 1 40) then 1 else 0
def anf{b:an}(hb:bq w B b pv bv tv)(hl:Row w B 1 cH lv l)(hB:B<=w.heap.size):
 ύ prog 127 #[η #[ξ κ b.ab,pv,bv,tv],lv] w λe w'=>e=Ω (ξ κ (xx b l))/\Γ w.heap.size w w':=by
 have HB:=ψ hb;have HL:=ψ hl;obtain⟨A1,n1,c1,rfl,e1,h1,jx,-⟩:=hb.pieces.Φ;obtain⟨A2,n2,c2,rfl,-⟩:=hb.aF.Φ;obtain⟨A3,n3,c3,rfl,-⟩:=hb.aM.Φ;obtain⟨A,m,c,rfl,e2,h2,ie,-⟩:=hl.Φ;unfold ϕ at jx ie;have E1:=ψ e1;have E2:=ψ e2;clear hb hl e1 e2;by_cases oE:m=n1
 ·have hq:((m:Int) !=(n1:Int))=χ:=by simp[oE]
  have HQ:=ψ oE;clear oE;cases ha:l.any (λn=> !cf n 1 40) with
  |true=>
   go_enter func127,Tryz.ntmps127;go_wp2_with (first
    | (go_at_call 177;refine(Xl (λn=> !cf n 1 40) call178 (HL.e.still (Δ.aN ((ώ w.heap.size w).alloc (ϊ _) _) hB) λ_ _ h=>h) (by simp;omega) (λW x _ _=>aaN x W)).mono ?_;rintro e w1 ⟨rfl,ag⟩))
   go_ret;exact⟨bj (by unfold xx;rw[E1.e,E2.e,if_neg (by simp[HQ.e]),ha];rfl),db (ώ _ _) ag (ϊ _)⟩
  |false=>
   go_enter func127,Tryz.ntmps127;go_wp2_with (first
    | (go_at_call 177;refine(Xl (λn=> !cf n 1 40) call178 (HL.e.still (Δ.aN ((ώ w.heap.size w).alloc (ϊ _) _) hB) λ_ _ h=>h) (by simp;omega) (λW x _ _=>aaN x W)).mono ?_;rintro e w1 ⟨rfl,ag⟩))
   go_ret;exact⟨bj (by unfold xx;rw[E1.e,E2.e,if_neg (by simp[HQ.e]),ha];rfl),db (ώ _ _) ag (ϊ _)⟩
 ·have hq:((m:Int) !=(n1:Int))=θ:=by simp;omega
  have HQ:=ψ oE;clear oE;go_enter func127,Tryz.ntmps127;go_wp2;go_ret;exact⟨bj (by unfold xx;rw[E1.e,E2.e,if_pos HQ.e]),(ώ _ _).alloc (ϊ _) _⟩
def lW(w:Ψ)(s:Int)(p q r:υ)(k f:Int)(nm:ByteArray)(aw:Int)(kv:υ):Ψ:=
 ((w.alloc (Ϥ #[ξ κ s,p,q,r] 117)).alloc (Ϥ #[ξ κ k,ξ κ f] 56)).alloc (Ϥ #[.string nm,ξ κ aw,kv] 59)
section
variable (w:Ψ)(s:Int)(p q r:υ)(k f:Int)(nm:ByteArray)(aw:Int)(kv:υ)
def amK:(lW w s p q r k f nm aw kv).heap.size=w.heap.size+3:=by simp[lW]
def amJ:Γ w.heap.size w (lW w s p q r k f nm aw kv):=(((ώ _ _).alloc (ϊ _) _).alloc (by simp) _).alloc (by simp;omega) _
def amE:(lW w s p q r k f nm aw kv).cell? ⟨w.heap.size,1,ν⟩=φ p:=by simp[lW,go_sem]
def amF:(lW w s p q r k f nm aw kv).cell? ⟨w.heap.size+1,1,ν⟩=φ (ξ κ f):=by simp[lW,go_sem]
def amG:(lW w s p q r k f nm aw kv).cell? ⟨w.heap.size+1+1,0,ν⟩=φ (.string nm):=by simp[lW,go_sem]
def amH:(lW w s p q r k f nm aw kv).cell? ⟨w.heap.size+1+1,1,ν⟩=φ (ξ κ aw):=by simp[lW,go_sem]
def amI:(lW w s p q r k f nm aw kv).cell? ⟨w.heap.size+1+1,2,ν⟩=φ kv:=by simp[lW,go_sem]
end
def tR(x:aP)(bears length:Int)(c:Cut):Bool:=decide (c.from_+length - 1<x.aw) && decide (cQ x.aU c.from_ (c.from_+length - 1)<=bears)
def aaK{b:an}{p:Piece}{x:aP}{from_ length:Int}(hb:bq w B b pv bv tv)(hB:B<=w.heap.size)
 (hp:b.pieces[i]?=φ p)(hx:b.aF[k]?=φ x)(hf:0<=from_/\from_<=1000)(hl:0<=length/\length<=1000):
 ύ prog 165 #[η #[ξ κ b.ab,pv,bv,tv],ξ κ i,ξ κ length,η #[ξ κ k,ξ κ from_]] w λe w'=>e=Ω (.bool (tR x p.bears length ⟨k,from_⟩))/\Γ w.heap.size w w':=by
 have HB:=ψ hb;obtain⟨A1,n1,c1,rfl,e1,h1,jx,r1⟩:=hb.pieces.Φ;obtain⟨A2,n2,c2,rfl,e2,h2,ie,r2⟩:=hb.aF.Φ;obtain⟨A3,n3,c3,rfl,-⟩:=hb.aM.Φ;unfold ϕ at jx ie;have hi:i<n1:=by have:=(ϩ.1 hp).1;omega
 have hk:k<n2:=by have:=(ϩ.1 hx).1;omega
 obtain⟨gV,p',Bn,rfl,F0,JM,⟨rfl,Zx⟩,-,mG⟩:=r1 i hi;obtain⟨cI,x',qf,rfl,nu,oI,⟨kv,rfl,Zy,fp⟩,-,gW⟩:=r2 k hk;obtain rfl:p'=p:=by rw[JM] at hp;exact Ϟ hp
 obtain rfl:x'=x:=by rw[oI] at hx;exact Ϟ hx
 obtain⟨A4,n4,c4,rfl,-⟩:=fp.Φ;have st:=Δ.refl (B:=B) w;have g3:=bH mG st F0 2 rfl;have b0:=cA gW st nu rfl;have b1:=bH gW st nu 0 rfl;have b2:=bH gW st nu 1 rfl;have zy:=ψ fp;obtain⟨hf,ME⟩:=hf;obtain⟨hl,fy⟩:=hl;clear hb e1 e2 r1 r2 hp hx JM oI mG gW fp st;have q0:(cI.add (k * 3)).block<w.heap.size:=by rw[cq];omega
 have q1:(cI.add (k * 3)).block<=w.heap.size:=by omega
 have q2:(cI.add (k * 3)).block<=w.heap.size+1:=by omega
 have s0:(gV.add (i * 4)).block<w.heap.size:=by rw[cq];omega
 have s1:(gV.add (i * 4)).block<=w.heap.size:=by omega
 have s2:(gV.add (i * 4)).block<=w.heap.size+1:=by omega
 by_cases Zf:from_+length - 1<x'.aw
 ·go_enter func165,Tryz.ntmps165
  go_wp2;have HW:=ψ (amJ w b.ab (ζ (φ gV) n1 c1) (ζ (φ cI) n2 c2) (ζ A3 n3 c3) k from_ x'.name x'.aw (ζ A4 n4 c4));have k1:=amE w b.ab (ζ (φ gV) n1 c1) (ζ (φ cI) n2 c2) (ζ A3 n3 c3) k from_ x'.name x'.aw (ζ A4 n4 c4);have k2:=amF w b.ab (ζ (φ gV) n1 c1) (ζ (φ cI) n2 c2) (ζ A3 n3 c3) k from_ x'.name x'.aw (ζ A4 n4 c4);have Ep:=amG w b.ab (ζ (φ gV) n1 c1) (ζ (φ cI) n2 c2) (ζ A3 n3 c3) k from_ x'.name x'.aw (ζ A4 n4 c4);have Er:=amH w b.ab (ζ (φ gV) n1 c1) (ζ (φ cI) n2 c2) (ζ A3 n3 c3) k from_ x'.name x'.aw (ζ A4 n4 c4);have Tg:=amI w b.ab (ζ (φ gV) n1 c1) (ζ (φ cI) n2 c2) (ζ A3 n3 c3) k from_ x'.name x'.aw (ζ A4 n4 c4);have HS:=ψ (amK w b.ab (ζ (φ gV) n1 c1) (ζ (φ cI) n2 c2) (ζ A3 n3 c3) k from_ x'.name x'.aw (ζ A4 n4 c4));change Code.wp _ _ _ _ (lW w b.ab (ζ (φ gV) n1 c1) (ζ (φ cI) n2 c2) (ζ A3 n3 c3) k from_ x'.name x'.aw (ζ A4 n4 c4));generalize lW w b.ab (ζ (φ gV) n1 c1) (ζ (φ cI) n2 c2) (ζ A3 n3 c3) k from_ x'.name x'.aw (ζ A4 n4 c4)=W3 at HW k1 k2 Ep Er Tg HS |-
  have k4: W3.cell? ⟨(gV.add (i * 4)).block,(gV.add (i * 4)).off+(2+1),ν⟩=φ (ξ κ p'.bears):=(HW.e.cell (p:=⟨(gV.add (i * 4)).block,(gV.add (i * 4)).off+(2+1),ν⟩) s0).trans g3;have vo:Hid (Γ (w.heap.size+3) W3 W3.drew):=ψ (oT (ώ _ _));have HK3:Hid (Row W3.drew B 2 Span.R (ζ A4 n4 c4) x'.aU):=ψ (zy.e.still (Δ.aN (oT HW.e) hB) λ_ _ h=>h)
  have HT:Hid (W3.drew.heap.size=w.heap.size+3):=ψ HS.e;go_region_held3 (λw'=> w'.cell? ⟨w.heap.size,1,ν⟩=φ (ζ (φ gV) n1 c1)/\ w'.cell? ⟨w.heap.size+1,1,ν⟩=φ (ξ κ from_)/\ w'.cell? ⟨w.heap.size+1+1,0,ν⟩=φ (.string x'.name)/\ w'.cell? ⟨w.heap.size+1+1,1,ν⟩=φ (ξ κ x'.aw)/\ w'.cell? ⟨w.heap.size+1+1,2,ν⟩=φ (ζ A4 n4 c4)/\ w'.cell? ⟨(gV.add (i * 4)).block,(gV.add (i * 4)).off+(2+1),ν⟩=φ (ξ κ p'.bears)/\Hid (Γ (w.heap.size+3) W3 w')) (first|exact⟨k1,k2,Ep,Er,Tg,k4,vo⟩ |exact⟨m1,m2,m30,m31,m32,m4,tx⟩)
   (first| (go_at_call 132;refine(met HK3.e (by rw[HT.e];omega)).mono ?_;rintro e w1 ⟨rfl,ag⟩
            have m1:=(ag.cell (p:=⟨w.heap.size,1,ν⟩) (by rw[HT.e];simp)).trans k1
            have m2:=(ag.cell (p:=⟨w.heap.size+1,1,ν⟩) (by rw[HT.e];simp)).trans k2
            have m30:=(ag.cell (p:=⟨w.heap.size+1+1,0,ν⟩) (by rw[HT.e];simp)).trans Ep
            have m31:=(ag.cell (p:=⟨w.heap.size+1+1,1,ν⟩) (by rw[HT.e];simp)).trans Er
            have m32:=(ag.cell (p:=⟨w.heap.size+1+1,2,ν⟩) (by rw[HT.e];simp)).trans Tg
            have m4:=(ag.cell (p:=⟨(gV.add (i * 4)).block,(gV.add (i * 4)).off+(2+1),ν⟩) (by rw[HT.e];simp;omega)).trans k4
            have tx:Hid (Γ (w.heap.size+3) W3 w1):=ψ (th (ag.mono (by rw[HT.e];omega)))))
  go_wp2;go_ret;refine⟨cj ?_,HW.e.trans (tx.e.mono (by omega))⟩
  simp[tR,Zf]
 ·have hd:decide (from_+length - 1<x'.aw)=χ:=by simpa using Zf
  go_enter func165,Tryz.ntmps165;go_wp2;go_quiet (fail);go_wp2;go_ret;refine⟨cj ?_,oU ((((ώ _ _).alloc (ϊ _) _).alloc (by simp) _).alloc (by simp;omega) _) _⟩
  simp[tR,hd]
def uH(nb:Int)(c:Cut):Int:=if cf c.bm 0 (nb - 1) then if cf c.from_ 0 40 then 0 else 1 else 6
def px(b:an)(l:List Cut):Int:=if l.length≠b.pieces.length then 2 else scan (λ_ c=>uH b.aF.length c) [] l
def QC{b:an}{l:List Cut}(hb:bq w B b pv bv tv)(hl:Row w B 2 Cut.R lv l)(hB:B<=w.heap.size):
 ύ prog 109 #[η #[ξ κ b.ab,pv,bv,tv],lv] w λe w'=>e=Ω (ξ κ (px b l))/\Γ w.heap.size w w':=by
 obtain⟨A1,n1,c1,rfl,e1,h1,jx,-⟩:=hb.pieces.Φ;obtain⟨A2,nb,c2,rfl,eb,h2,ie,-⟩:=hb.aF.Φ;obtain⟨A3,n3,c3,rfl,-⟩:=hb.aM.Φ;obtain⟨A,m,c,rfl,e2,h3,Bv,hr⟩:=hl.Φ;unfold ϕ at jx ie Bv;have E1:=ψ e1;have EB:=ψ eb;have E2:=ψ e2;have H2:=ψ hr;clear hb hl e1 eb e2 hr;by_cases oE:m=n1
 ·have hq:((m:Int) !=(n1:Int))=χ:=by simp[oE]
  have HQ:=ψ oE;clear oE;have Uw:px b l=scan (λ_ c=>uH nb c) [] l:=by unfold px;rw[E1.e,E2.e,EB.e,if_neg (by simp[HQ.e])]
  have SN:=ψ Uw;clear Uw;go_enter func109,Tryz.ntmps109;go_wp2;go_loopw [4,6,7,17] (λr t q k wr=>∃i:Nat,i<=m/\k=ξ κ i/\(∀(j:Nat) (x:Cut),j<i->l[j]?=φ x->uH nb x=0)/\Γ (w.heap.size+1) (w.alloc (Ϥ #[ξ κ b.ab,ζ A1 n1 c1,ζ A2 nb c2,ζ A3 n3 c3] 117)) wr) (λ_ _ _ k _=>m - (Ϭ k).toNat)
  case atStart=>exact⟨0,Ϡ _,rfl,λj _ hj=>by omega,ώ _ _⟩
  case round=>
   obtain⟨i,hi,rfl,bL,hb⟩:=hrel;have HH:=ψ (Ϗ bL hb);have iu:=hb.size;have aL:w.heap.size+1<=wr.heap.size:=by simpa using iu
   have Aj:w.heap.size<=wr.heap.size:=by omega
   have Eg:w.heap.size<wr.heap.size:=by omega
   have ho: wr.cell? ⟨w.heap.size,2,ν⟩=φ (ζ A2 nb c2):=(hb.cell (p:=⟨w.heap.size,2,ν⟩) (by simp)).trans (by simp[go_sem])
   by_cases aj:i<m
   ·obtain⟨ad,x,cs,rfl,aD,hx,rfl,-,aq⟩:=H2.e i aj
    have st:Δ B w wr:=((Δ.refl w).alloc hB _).trans (Δ.aN hb (by omega))
    have h0:=cA aq st aD rfl;have h1:=bH aq st aD 0 rfl;have HX:=ψ hx;clear bL hb hx aq st iu;have qM:=ψ HH.e.2;have bad:∀s:Int,uH nb x=s->s≠0->s=px b l:=λs hs h0=>by
     rw[SN.e,Ay (f:=λ_ c=>uH nb c) HX.e HH.e.1 (by rw[hs];exact h0),hs]
    have nA:=ψ bad;clear bad;cases fU:cf x.bm 0 (nb - 1) with
    |false=>
     go_wp2_with (first
      | (go_at_call 100;refine(there _ _ (by omega) _ (by omega)).mono ?_;rintro e w' ⟨rfl,rfl⟩;simp only[fU]))
     go_ret;exact⟨bj (nA.e 6 (by unfold uH;rw[fU];rfl) (by omega)),qd (qM.e.trans ((ώ _ _).alloc aL _))⟩
    |true=>
     cases tM:cf x.from_ 0 40 with
     |false=>
      go_wp2_with (first
       | (go_at_call 100;refine(there _ _ (by omega) _ (by omega)).mono ?_;rintro e w' ⟨rfl,rfl⟩;simp only[fU])
       | (go_at_call 134;refine(inside _ _ _ _).mono ?_;rintro e w' ⟨rfl,rfl⟩))
      go_ret;exact⟨bj (nA.e 1 (by unfold uH;rw[fU,tM];rfl) (by omega)),qd (qM.e.trans ((ώ _ _).alloc aL _))⟩
     |true=>
      go_wp2_with (first
       | (go_at_call 100;refine(there _ _ (by omega) _ (by omega)).mono ?_;rintro e w' ⟨rfl,rfl⟩;simp only[fU])
       | (go_at_call 134;refine(inside _ _ _ _).mono ?_;rintro e w' ⟨rfl,rfl⟩))
      go_roundw;case rel=>exact⟨i+1,by omega,by go_num,λj y hj hy=>by
       rcases ε.1 hj with h|rfl
       ·exact HH.e.1 j y h hy
       ·rw[HX.e] at hy;cases hy;unfold uH;rw[fU,tM];rfl,qM.e.trans ((ώ _ _).alloc aL _)⟩
      case measure=>simp[Ϭ];omega
   ·obtain rfl:i=m:=by omega
    go_wp2;go_ret;refine⟨bj ?_,qd HH.e.2⟩
    rw[SN.e,vZ (f:=λ_ c=>uH nb c) (λj x hj=>HH.e.1 j x (by have:=(ϩ.1 hj).1;have:=E2.e;omega) hj)]
 ·have hq:((m:Int) !=(n1:Int))=θ:=by simp;omega
  have HQ:=ψ oE;clear oE;go_enter func109,Tryz.ntmps109;go_wp2;go_ret;exact⟨bj (by unfold px;rw[E1.e,E2.e,if_pos HQ.e]),(ώ _ _).alloc (ϊ _) _⟩
def al.at(L:al)(i:Nat):Int:=if i=0 then L.a else if i=1 then L.b else L.c
def Ar(b:an)(i:Nat)(n:Int)(c:Cut):Bool:=match b.pieces[i]?,b.aF[c.bm.toNat]? with
 |some p,φ x=>tR x p.bears n c
 |_,_=>χ
def vv(b:an)(L:al)(l:List Cut)(i:Nat)(c:Cut)(k:Nat):Bool:=match l[k]? with
 |some d=>sF b.ab c d (L.at i) (L.at k)
 |none=>θ
def vA(b:an)(L:al)(l:List Cut)(i:Nat):Bool:=match l[i]? with
 |some c=>Ar b i (L.at i) c && (Ϯ i).all (vv b L l i c)
 |none=>θ
def ib(b:an)(L:al)(l:List Cut):Bool:=(Ϯ l.length).all (vA b L l)
def pJ{f:Nat->Bool}:(Ϯ n).all f=θ↔∀i,i<n->f i=θ:=by simp
def LI{f:Nat->Bool}(hi:i<n)(h:f i=χ):(Ϯ n).all f=χ:=by
 cases e:(Ϯ n).all f with
 |false=>rfl
 |true=>have:=pJ.1 e i hi;rw[h] at this;cases this
structure vk(b:an)(c:Cut):Prop where
 bm:∃k:Nat,c.bm=k/\k<b.aF.length
 from_:0<=c.from_/\c.from_<=40
structure DH(w:Ψ)(s:Int)(p q r:υ)(L:al)(W:Ψ):Prop where
 size:w.heap.size+2<=W.heap.size
 f0: W.cell? ⟨w.heap.size,0,ν⟩=φ (ξ κ s)
 f1: W.cell? ⟨w.heap.size,1,ν⟩=φ p
 f2: W.cell? ⟨w.heap.size,2,ν⟩=φ q
 f3: W.cell? ⟨w.heap.size,3,ν⟩=φ r
 g:∀i,i<3-> W.cell? ⟨w.heap.size+1,i,ν⟩=φ (ξ κ (L.at i))
def DH.below{p q r:υ}{L:al}(h:DH w s p q r L W)(hb:Γ B W W')(hB:w.heap.size+2<=B):DH w s p q r L W':=
 ⟨ϣ h.size hb.size,(hb.cell (p:=⟨w.heap.size,0,ν⟩) (by simp;omega)).trans h.f0,(hb.cell (p:=⟨w.heap.size,1,ν⟩) (by simp;omega)).trans h.f1,(hb.cell (p:=⟨w.heap.size,2,ν⟩) (by simp;omega)).trans h.f2,
   (hb.cell (p:=⟨w.heap.size,3,ν⟩) (by simp;omega)).trans h.f3,λi hi=>(hb.cell (p:=⟨w.heap.size+1,i,ν⟩) (by simp;omega)).trans (h.g i hi)⟩
def DH.start(w:Ψ)(s:Int)(p q r:υ)(L:al):DH w s p q r L ((w.alloc (Ϥ #[ξ κ s,p,q,r] 117)).alloc (Ϥ #[ξ κ L.a,ξ κ L.b,ξ κ L.c] 128)):=by
 refine⟨by simp,by simp[go_sem],by simp[go_sem],by simp[go_sem],by simp[go_sem],λi hi=>?_⟩
 match i,hi with
 |0,_=>simp[go_sem,al.at]
 |1,_=>simp[go_sem,al.at]
 |2,_=>simp[go_sem,al.at]
def QF{b:an}{L:al}{l:List Cut}(hb:bq w B b pv bv tv)(hl:Row w B 2 Cut.R lv l)(hB:B<=w.heap.size)
 (hlen:l.length=b.pieces.length)(oF:b.pieces.length<=3)(cE:∀(i:Nat) (c:Cut),l[i]?=φ c->vk b c)(hL:∀i,0<=L.at i/\L.at i<=1000)(B9:0<=b.ab/\b.ab<=1000):
 ύ prog 110 #[η #[ξ κ b.ab,pv,bv,tv],η #[ξ κ L.a,ξ κ L.b,ξ κ L.c],lv] w λe w'=>e=Ω (.bool (ib b L l))/\Γ w.heap.size w w':=by
 have bV:=ψ hb;obtain⟨A1,n1,c1,rfl,e1,h1,jx,-⟩:=hb.pieces.Φ;obtain⟨A2,nb,c2,rfl,eb,h2,ie,-⟩:=hb.aF.Φ;obtain⟨A3,n3,c3,rfl,-⟩:=hb.aM.Φ;obtain⟨A,m,c,rfl,e2,h3,Bv,hr⟩:=hl.Φ;unfold ϕ at jx ie Bv;have Zr:m<=3:=by omega
 have E2:=ψ e2;have EN:=ψ hlen;have H2:=ψ hr;have OK:=ψ cE;have HL:=ψ hL;have HSW:=ψ B9;clear hb hl e1 eb e2 hr cE hL B9 hlen oF;go_enter func110,Tryz.ntmps110;go_wp2;go_loopw [6,7,8,9,10,13,28,29,30] (λr t q s u k x y z wr=>∃i:Nat,i<=m/\k=ξ κ i/\(∀j:Nat,j<i->vA b L l j=θ)/\Hid (DH w b.ab (ζ A1 n1 c1) (ζ A2 nb c2) (ζ A3 n3 c3) L wr)/\Γ w.heap.size w wr) (λ_ _ _ _ _ k _ _ _ _=>m - (Ϭ k).toNat)
 case atStart=>exact⟨0,Ϡ _,rfl,λj hj=>by omega,ψ (DH.start w b.ab _ _ _ L),((ώ _ _).alloc (ϊ _) _).alloc (by simp) _⟩
 case round=>
  obtain⟨wo,rfl⟩:∃wo:Ψ,wo=wr:=⟨_,rfl⟩
  obtain⟨i,hi,rfl,bL,DU,hb⟩:=hrel;have HH:=ψ (Ϗ bL hb);have aL:w.heap.size+2<=wo.heap.size:=DU.e.size;by_cases aj:i<m
  ·obtain⟨ad,x,cs,rfl,aD,hx,rfl,-,aq⟩:=H2.e i aj
   have st:Δ B w wo:=Δ.aN hb hB;have ok:=OK.e i x hx;obtain⟨bd,fr⟩:=x;obtain⟨k,hk,cM⟩:=ok.bm;obtain rfl:bd=(k:Int):=hk;have bY:0<=fr/\fr<=40:=ok.from_;have h0:=cA aq st aD rfl;have h1:=bH aq st aD 0 rfl;have HX:=ψ hx;have f0:=DU.e.f0;have f1:=DU.e.f1;have f2:=DU.e.f2;have f3:=DU.e.f3;have gi:=DU.e.g i (by omega)
   have a0:w.heap.size<wo.heap.size:=by omega
   have a1:w.heap.size<=wo.heap.size:=by omega
   have a2:w.heap.size+1<wo.heap.size:=by omega
   have a3:w.heap.size+1<=wo.heap.size:=by omega
   have i3:i<3:=by omega
   have i3':(i:Int)<3:=by omega
   have Jy:i<=c:=by omega
   clear bL hb hx aq ok;go_wp2;refine Cx 6 (by kernel_rfl) (by kernel_rfl) ?_
   simp only[ù,ú,ý,ĉ];repeat still_step
   refine wpStill_nil ?_
   have hp:∃p,b.pieces[i]?=φ p:=⟨_,Ä (by have:=E2.e;have:=EN.e;omega)⟩
   obtain⟨p,hp⟩:=hp;have yl:b.aF[k]?=φ (b.aF[k]):=Ä cM
   obtain⟨bx,yl⟩:∃bx,b.aF[k]?=φ bx:=⟨_,yl⟩
   have Se:Ar b i (L.at i) ⟨k,fr⟩=tR bx p.bears (L.at i) ⟨k,fr⟩:=by unfold Ar;simp[hp,yl]
   have Px:=ψ Se;have call:ύ prog 165 #[η #[ξ κ b.ab,ζ A1 n1 c1,ζ A2 nb c2,ζ A3 n3 c3],ξ κ i,ξ κ (L.at i),η #[ξ κ k,ξ κ fr]] (wo.alloc (Ϥ #[ϛ ϗ ↑k,ϛ ϗ fr] 56)).drew
    λe w'=>e=Ω (.bool (tR bx p.bears (L.at i) ⟨k,fr⟩))/\Γ (wo.alloc (Ϥ #[ϛ ϗ ↑k,ϛ ϗ fr] 56)).drew.heap.size (wo.alloc (Ϥ #[ϛ ϗ ↑k,ϛ ϗ fr] 56)).drew w':=
    aaK (B:=B) (bV.e.still λq hq=>(Ĉ wo _ q (by omega)).trans (st q hq)) (by simp;omega) hp yl ⟨bY.1,by omega⟩ (HL.e i)
   have aE:=ψ call;clear call hp yl Se st;cases Gd:tR bx p.bears (L.at i) ⟨k,fr⟩ with
   |false=>
    go_wp2_with (first
     | (go_at_call 165;refine aE.e.mono ?_;rintro e w1 ⟨rfl,ag⟩;have fL:=ψ (db HH.e.2 (th ag) a1);clear ag))
    go_ret;refine⟨cj ?_,fL.e⟩
    unfold ib;rw[E2.e]
    exact(LI aj (by unfold vA;rw[HX.e];simp[Px.e,Gd])).symm
   |true=>
    go_wp2_with (first
     | (go_at_call 165;refine aE.e.mono ?_;rintro e w1 ⟨rfl,ag⟩;have fL:=ψ (db HH.e.2 (th ag) a1);have HD1:=ψ (DU.e.below (db (ώ (w.heap.size+2) wo) (th ag) aL) (ϊ _));have E7:=ψ (th ag);clear ag))
    have aS:wo.heap.size<w1.heap.size:=uY E7.e;have Yz: w1.cell? ⟨wo.heap.size,0,ν⟩=φ (ξ κ k):=(E7.e.cell (p:=⟨wo.heap.size,0,ν⟩) (by simp)).trans (by simp[go_sem])
    have YA: w1.cell? ⟨wo.heap.size,1,ν⟩=φ (ξ κ fr):=(E7.e.cell (p:=⟨wo.heap.size,1,ν⟩) (by simp)).trans (by simp[go_sem])
    have xP:=ψ (Ϗ Yz (Ϗ YA aS));clear Yz YA f0 f1 f2 f3 gi h0 h1 aS;go_loopw [6,9,10,30] (λr s u z W=>∃j:Nat,j<=i/\z=ξ κ j/\(∀q:Nat,q<j->vv b L l i ⟨k,fr⟩ q=θ)/\Hid (DH w b.ab (ζ A1 n1 c1) (ζ A2 nb c2) (ζ A3 n3 c3) L W)/\Hid (W.cell? ⟨wo.heap.size,0,ν⟩=φ (ξ κ k)/\ W.cell? ⟨wo.heap.size,1,ν⟩=φ (ξ κ fr)/\wo.heap.size<W.heap.size)/\Γ w.heap.size w W) (λ_ _ _ z _=>i - (Ϭ z).toNat)
    case atStart=>exact⟨0,Ϡ _,rfl,λj hj=>by omega,HD1,xP,fL.e⟩
    case round=>
     obtain⟨j,hj,rfl,Yv,zY,dh,DO⟩:=hrel;have HJ:=ψ (Ϗ Yv DO);have alg:w.heap.size+2<=wr.heap.size:=zY.e.size;clear Yv;by_cases tI:j<i
     ·obtain⟨Fp,y,bp,rn,Rn,hy,rfl,-,BE⟩:=H2.e j (by omega)
      cases rn;have UC:Δ B w wr:=Δ.aN DO hB;have oky:=OK.e j y hy;obtain⟨sH,oV⟩:=y;have sM:0<=oV/\oV<=40:=oky.from_;have h0:=cA BE UC aD rfl;have h1:=bH BE UC aD 0 rfl;have HY:=ψ hy;have f0:=zY.e.f0;have f1:=zY.e.f1;have f2:=zY.e.f2;have f3:=zY.e.f3;have gi:=zY.e.g i i3;have gj:=zY.e.g j (by omega)
      obtain⟨Qp,Qq,S0⟩:=dh.e;have b0:w.heap.size<wr.heap.size:=by omega
      have b1:w.heap.size<=wr.heap.size:=by omega
      have b2:w.heap.size+1<wr.heap.size:=by omega
      have b3:w.heap.size+1<=wr.heap.size:=by omega
      have b4:wo.heap.size<=wr.heap.size:=by omega
      have j3:(j:Int)<3:=by omega
      clear DO hy BE oky UC;go_wp2;refine Cx 9 (by kernel_rfl) (by kernel_rfl) ?_
      simp only[ù,ú,ý,ĉ];repeat still_step
      refine wpStill_nil ?_
      have F2:vv b L l i ⟨k,fr⟩ j=sF b.ab ⟨k,fr⟩ ⟨sH,oV⟩ (L.at i) (L.at j):=by unfold vv;rw[HY.e]
      have Io:=ψ F2;clear F2;have call:∀W:Ψ,ύ prog 166 #[η #[ξ κ b.ab,ζ A1 n1 c1,ζ A2 nb c2,ζ A3 n3 c3],η #[ξ κ k,ξ κ fr],η #[ξ κ sH,ξ κ oV],ξ κ (L.at i),ξ κ (L.at j)] W
            λe w'=>e=Ω (.bool (sF b.ab ⟨k,fr⟩ ⟨sH,oV⟩ (L.at i) (L.at j)))/\Γ W.heap.size W w':=λW=>
          apart (c:=⟨k,fr⟩) (d:=⟨sH,oV⟩) HSW.e (HL.e i) (HL.e j) ⟨bY.1,by have:=bY.2;show fr<=1000;omega⟩ ⟨sM.1,by have:=sM.2;show oV<=1000;omega⟩ ⟨_,_,_,rfl⟩ ⟨_,_,_,rfl⟩ ⟨_,_,_,rfl⟩
      have AQ:=ψ call;clear call;cases JE:sF b.ab ⟨k,fr⟩ ⟨sH,oV⟩ (L.at i) (L.at j) with
      |false=>
       go_wp2_with (first
            | (go_at_call 166;refine(AQ.e _).mono ?_;rintro e w2 ⟨rfl,ak⟩;have il:=ψ (db HJ.e.2 (th ak) b1);clear ak))
       go_ret;refine⟨cj ?_,il.e⟩
       unfold ib;rw[E2.e]
       refine(LI aj ?_).symm
       unfold vA;rw[HX.e]
       simp only[Px.e,Gd,Bool.true_and];exact LI tI (by rw[Io.e,JE])
      |true=>
       go_wp2_with (first
            | (go_at_call 166;refine(AQ.e _).mono ?_;rintro e w2 ⟨rfl,ak⟩;have il:=ψ (db HJ.e.2 (th ak) b1);have C8:=ψ (db (ώ wr.heap.size wr) (th ak) (ϊ _));clear ak))
       go_roundw;case rel=>exact⟨j+1,by omega,by go_num,λq hq=>by
            rcases ε.1 hq with h|rfl
            ·exact HJ.e.1 q h
            ·rw[Io.e,JE],ψ (zY.e.below C8.e alg),ψ ⟨(C8.e.cell (p:=⟨wo.heap.size,0,ν⟩) S0).trans Qp,(C8.e.cell (p:=⟨wo.heap.size,1,ν⟩) S0).trans Qq,ϟ S0 C8.e.size⟩,il.e⟩
       case measure=>simp[Ϭ];omega
     ·obtain rfl:j=i:=by omega
      clear DO;go_wp2;go_roundw;case rel=>exact⟨j+1,by omega,by go_num,λq hq=>by
          rcases ε.1 hq with h|rfl
          ·exact HH.e.1 q h
          ·unfold vA;rw[HX.e];simp only[Px.e,Gd,Bool.true_and];exact pJ.2 HJ.e.1,zY,HJ.e.2⟩
      case measure=>simp[Ϭ];omega
  ·obtain rfl:i=m:=by omega
   clear hb;go_wp2;go_ret;refine⟨cj ?_,HH.e.2⟩
   unfold ib;rw[E2.e];exact(pJ.2 HH.e.1).symm
def yP(L:al)(l:List Int):Int:=(l.map λk=>L.at k.toNat).sum
def ase(L:al)(l:List Int)(k:Int):yP L (l++ [k])=yP L l+L.at k.toNat:=by simp[yP]
def UE(L:al)(hL:∀i,0<=L.at i/\L.at i<=1000):∀l:List Int,0<=yP L l/\yP L l<=1000 * l.length
 | []=>by simp[yP]
 |k::l=>by
  have:=UE L hL l;have:=hL k.toNat;simp[yP] at *;omega
def La(L:al)(t:Tape):Bool:= !cf (yP L t.pieces) t.sum.lo t.sum.hi
def aqp{t:Tape}{L:al}{g:Nat}(vJ:Row w B 1 cH pv t.pieces)(hB:B<=w.heap.size)(hg:g<w.heap.size)
 (hc:∀i,i<3-> w.cell? ⟨g,i,ν⟩=φ (ξ κ (L.at i)))(hk:∀k∈t.pieces,0<=k/\k<3)(h3:t.pieces.length<=3)(hL:∀i,0<=L.at i/\L.at i<=1000):
 ύ prog 209 #[η #[pv,ξ κ t.sum.lo,ξ κ t.sum.hi],π (φ ⟨g,0,ν⟩)] w λe w'=>e=Ω (.bool (La L t))/\Γ w.heap.size w w':=by
 obtain⟨A,n,c,rfl,hl,gY,dh,hr⟩:=vJ.Φ;have sc:n<=3:=by omega
 have tz:=ψ hl;have H2:=ψ hr;have HC:=ψ hc;have HK:=ψ hk;have HL:=ψ hL;have kW:g<=w.heap.size:=by omega
 clear hl hr hc hk hL vJ dh h3;go_enter func209,Tryz.ntmps209;go_wp2
 go_loop [4,6,10] (λs q k=>∃i:Nat,i<=n/\k=ξ κ i/\s=ξ κ (yP L (t.pieces.take i))) (λ_ _ k=>n - (Ϭ k).toNat)
 case atStart=>exact⟨0,Ϡ _,rfl,rfl⟩
 case round=>
  obtain⟨i,hi,rfl,rfl⟩:=hrel;have Cb:=(UE L HL.e (t.pieces.take i)).1;have Ca:yP L (t.pieces.take i)<=3000:=by
   have:=(UE L HL.e (t.pieces.take i)).2;have:(t.pieces.take i).length<=i:=Age _ _;omega
  by_cases aj:i<n
  ·obtain⟨ad,x,cs,rfl,aD,hx,rfl,-,aq⟩:=H2.e i aj
   have Z7:=HK.e x (ϡ hx);obtain⟨j,rfl⟩:=Int.eq_ofNat_of_zero_le Z7.1;have Jz:j<3:=by omega
   have Y0:(j:Int)<3:=by omega
   have h0:=cA aq (Δ.refl (B:=B) w) aD rfl;rw[Ķ] at h0;have q0:(ad.add i).block<w.heap.size:=by rw[cq];omega
   have gj:=HC.e j Jz;have HX:=ψ hx;have Zj:=HL.e j;obtain⟨Zj,auZ⟩:=Zj;clear hx aq Z7;go_wp2
   go_round
   case rel=>exact⟨i+1,by omega,by go_num,by rw[su HX.e,ase];rfl⟩
   case measure=>simp[Ϭ];omega
  ·obtain rfl:i=n:=by omega
   go_wp2_with (first
    | (go_at_call 134;refine(inside _ _ _ _).mono ?_;rintro e w' ⟨rfl,rfl⟩))
   go_ret;refine⟨cj ?_,(ώ _ _).alloc (ϊ _) _⟩
   unfold La;rw[ę (ÿ tz.e)]
def Fl(b:an):Prop:=∀t∈b.aM,(∀k∈t.pieces,0<=k/\k<3)/\t.pieces.length<=3
def NW(L:al)(l:List Tape):Bool:= !(l.any (La L))
def right{b:an}{L:al}(hb:bq w B b pv bv tv)(hB:B<=w.heap.size)(cE:Fl b)(hL:∀i,0<=L.at i/\L.at i<=1000):
 ύ prog 189 #[η #[ξ κ b.ab,pv,bv,tv],η #[ξ κ L.a,ξ κ L.b,ξ κ L.c]] w λe w'=>e=Ω (.bool (NW L b.aM))/\Γ w.heap.size w w':=by
 have bV:=ψ hb;obtain⟨A1,n1,c1,rfl,-⟩:=hb.pieces.Φ;obtain⟨A2,nb,c2,rfl,-⟩:=hb.aF.Φ;obtain⟨A3,n3,c3,rfl,-⟩:=hb.aM.Φ;have OK:=ψ cE;have HL:=ψ hL;have ST:Hid (Δ B w ((w.alloc (Ϥ #[ξ κ b.ab,ζ A1 n1 c1,ζ A2 nb c2,ζ A3 n3 c3] 117)).alloc (Ϥ #[ξ κ L.a,ξ κ L.b,ξ κ L.c] 128))):=ψ (((Δ.refl w).alloc hB _).alloc (by simp;omega) _)
 have HD:=ψ (DH.start w b.ab (ζ A1 n1 c1) (ζ A2 nb c2) (ζ A3 n3 c3) L);clear hb cE hL;have call:ύ prog 208 #[ζ A3 n3 c3,fv 209 #[π (φ ⟨w.heap.size+1,0,ν⟩)]] ((w.alloc (Ϥ #[ξ κ b.ab,ζ A1 n1 c1,ζ A2 nb c2,ζ A3 n3 c3] 117)).alloc (Ϥ #[ξ κ L.a,ξ κ L.b,ξ κ L.c] 128))
  λe w'=>e=Ω (.bool (b.aM.any (La L)))/\Γ ((w.alloc (Ϥ #[ξ κ b.ab,ζ A1 n1 c1,ζ A2 nb c2,ζ A3 n3 c3] 117)).alloc (Ϥ #[ξ κ L.a,ξ κ L.b,ξ κ L.c] 128)).heap.size _ w':=
  agx (La L) call209 ((bV.e.still ST.e).aM) (by simp;omega) λW x kv hW fp hx=>app1 (aqp (B:=B) (fp.still (Δ.aN hW (by simp;omega)) λ_ _ h=>h)
   (ϣ (by simp;omega) hW.size) (ϟ (by simp) hW.size) (λi hi=>(hW.cell (p:=⟨w.heap.size+1,i,ν⟩) (by simp)).trans (HD.e.g i hi)) (OK.e x hx).1 (OK.e x hx).2 HL.e)
 have aE:=ψ call;clear call;go_enter func189,Tryz.ntmps189;go_wp2_with (first
  | (go_at_call 208;refine aE.e.mono ?_;rintro e w1 ⟨rfl,ag⟩))
 go_ret;exact⟨cj rfl,(((ώ _ _).alloc (ϊ _) _).alloc (by simp) _).trans (ag.mono (by simp;omega))⟩
def first(hv:Row w B 1 cH v l):
 ύ prog 126 #[v] w λe w'=>e=Ω (ξ κ (scan (λ_ s=>s) [] l))/\w=w':=by
 obtain⟨A,n,c,rfl,hl,gY,dh,hr⟩:=hv.Φ;unfold ϕ at dh;have tz:=ψ hl;have H2:=ψ hr;clear hl hr hv;go_enter func126,Tryz.ntmps126;go_wp2
 go_loop [2,4,7] (λr q k=>∃i:Nat,i<=n/\k=ξ κ i/\(∀(j:Nat) (x:Int),j<i->l[j]?=φ x->x=0)) (λ_ _ k=>n - (Ϭ k).toNat)
 case atStart=>exact⟨0,Ϡ _,rfl,λj _ hj=>by omega⟩
 case round=>
  obtain⟨i,hi,rfl,bL⟩:=hrel;have HA:=ψ bL;clear bL;by_cases aj:i<n
  ·obtain⟨ad,x,cs,rfl,aD,hx,rfl,-,aq⟩:=H2.e i aj
   have h0:=cA aq (Δ.refl (B:=B) w) aD rfl;rw[Ķ] at h0;have HX:=ψ hx;clear hx aq;by_cases Ci:x=0
   ·go_wp2
    go_round
    case rel=>exact⟨i+1,by omega,by go_num,λj y hj hy=>by
     rcases ε.1 hj with h|rfl
     ·exact HA.e j y h hy
     ·rw[HX.e] at hy;cases hy;exact Ci⟩
    case measure=>simp[Ϭ];omega
   ·go_wp2
    go_ret;exact⟨bj (Ay (f:=λ_ s=>s) HX.e HA.e Ci).symm,rfl⟩
  ·obtain rfl:i=n:=by omega
   go_wp2;go_ret;exact⟨bj (vZ (f:=λ_ s=>s) (λj x hx=>HA.e j x (by have:=(ϩ.1 hx).1;have:=tz.e;omega) hx)).symm,rfl⟩
def aeL{a b c:υ}{R:Ending->Ψ->Prop}(h:ύ P f #[a,b,c] w R):ύ P f (#[a]++#[b,c]) w R:=by
 have e:(#[a]++#[b,c]:Array υ)=#[a,b,c]:=by simp
 rw[e];exact h
structure O6(b:an)(l:List Cut):Prop where
 len:l.length=b.pieces.length
 three:b.pieces.length<=3
 qQ:∀(i:Nat) (c:Cut),l[i]?=φ c->vk b c
 ab:0<=b.ab/\b.ab<=1000
def al.Ok(L:al):Prop:=∀i,0<=L.at i/\L.at i<=1000
def asi{b:an}{L:al}{l:List Cut}{g1 g2:Nat}(hb:bq w B b pv bv tv)(hl:Row w B 2 Cut.R lv l)(hB:B<=w.heap.size)(ok:O6 b l)(hL:L.Ok)
 (kW:g1<w.heap.size)(tH:g2<w.heap.size)(f0: w.cell? ⟨g1,0,ν⟩=φ (ξ κ b.ab))(f1: w.cell? ⟨g1,1,ν⟩=φ pv)(f2: w.cell? ⟨g1,2,ν⟩=φ bv)(f3: w.cell? ⟨g1,3,ν⟩=φ tv)
 (f4: w.cell? ⟨g2,0,ν⟩=φ lv):
 ύ prog 169 #[η #[ξ κ L.a,ξ κ L.b,ξ κ L.c],π (φ ⟨g1,0,ν⟩),π (φ ⟨g2,0,ν⟩)] w λe w'=>e=Ω (.bool (!ib b L l))/\Γ w.heap.size w w':=by
 have call:=QF (w:=w.alloc (Ϥ #[ξ κ L.a,ξ κ L.b,ξ κ L.c] 128)) (B:=B) (hb.still ((Δ.refl w).alloc hB _)) (hl.still ((Δ.refl w).alloc hB _) λ_ _ h=>h) (by simp;omega) ok.len ok.three ok.qQ hL ok.ab
 have aE:=ψ call;have BJ:g1<=w.heap.size:=by omega
 have auJ:g2<=w.heap.size:=by omega
 obtain⟨A1,n1,c1,rfl,-⟩:=hb.pieces.Φ;obtain⟨A2,nb,c2,rfl,-⟩:=hb.aF.Φ;obtain⟨A3,n3,c3,rfl,-⟩:=hb.aM.Φ;obtain⟨A,n,c,rfl,-⟩:=hl.Φ;clear call hb hl ok hL;go_enter func169,Tryz.ntmps169;go_wp2_with (first
  | (go_at_call 110;refine aE.e.mono ?_;rintro e w1 ⟨rfl,ag⟩))
 go_ret;exact⟨cj rfl,db (ώ _ _) ag (ϊ _)⟩
def K2(b:an)(apK:List al)(l:List Cut):Bool:= !(apK.any λL=> !ib b L l)
def acv{b:an}{ps:List al}{l:List Cut}(hb:bq w B b pv bv tv)(hs:Row w B 3 al.R sv ps)(hl:Row w B 2 Cut.R lv l)(hB:B<=w.heap.size)(ok:O6 b l)(hL:∀L∈ps,L.Ok):
 ύ prog 114 #[η #[ξ κ b.ab,pv,bv,tv,sv],lv] w λe w'=>e=Ω (.bool (K2 b ps l))/\Γ w.heap.size w w':=by
 have ST:Hid (Δ B w ((w.alloc (Ϥ #[ξ κ b.ab,pv,bv,tv,sv] 122)).alloc (Ϥ #[lv] 27))):=ψ (((Δ.refl w).alloc hB _).alloc (by simp;omega) _)
 have call:ύ prog 150 #[sv,fv 169 #[π (φ ⟨w.heap.size,0,ν⟩),π (φ ⟨w.heap.size+1,0,ν⟩)]] ((w.alloc (Ϥ #[ξ κ b.ab,pv,bv,tv,sv] 122)).alloc (Ϥ #[lv] 27))
  λe w'=>e=Ω (.bool (ps.any λL=> !ib b L l))/\Γ ((w.alloc (Ϥ #[ξ κ b.ab,pv,bv,tv,sv] 122)).alloc (Ϥ #[lv] 27)).heap.size _ w':=
  agw (λL=> !ib b L l) call169 (hs.still ST.e λ_ _ h=>h) (by simp;omega) λW x hW hx=>by
   have sW:Δ B w W:=ST.e.trans (Δ.aN hW (by simp;omega))
   have hz:w.heap.size+2<=W.heap.size:=by have:=hW.size;simpa using this
   exact aeL (asi (B:=B) (hb.still sW) (hl.still sW λ_ _ h=>h) (by omega) ok (hL x hx) (by omega) (by omega)
    ((hW.cell (p:=⟨w.heap.size,0,ν⟩) (by simp;try omega)).trans (by simp[go_sem])) ((hW.cell (p:=⟨w.heap.size,1,ν⟩) (by simp;try omega)).trans (by simp[go_sem])) ((hW.cell (p:=⟨w.heap.size,2,ν⟩) (by simp;try omega)).trans (by simp[go_sem]))
    ((hW.cell (p:=⟨w.heap.size,3,ν⟩) (by simp;try omega)).trans (by simp[go_sem])) ((hW.cell (p:=⟨w.heap.size+1,0,ν⟩) (by simp;try omega)).trans (by simp[go_sem])))
 have aE:=ψ call;obtain⟨A1,n1,c1,rfl,-⟩:=hb.pieces.Φ;obtain⟨A2,nb,c2,rfl,-⟩:=hb.aF.Φ;obtain⟨A3,n3,c3,rfl,-⟩:=hb.aM.Φ;obtain⟨A4,n4,c4,rfl,-⟩:=hs.Φ;obtain⟨A,n,c,rfl,-⟩:=hl.Φ;clear call hb hs hl ok hL;go_enter func114,Tryz.ntmps114;go_wp2_with (first
  | (go_at_call 150;refine aE.e.mono ?_;rintro e w1 ⟨rfl,ag⟩))
 go_ret;exact⟨cj rfl,(((ώ _ _).alloc (ϊ _) _).alloc (by simp) _).trans (ag.mono (by simp;omega))⟩
def Bk(w:Ψ)(g:Nat)(t:ό)(cs:Array υ):Prop:=w.heap[g]?=φ (.cells cs t (0,0))
section
variable {w w':Ψ}{g:Nat}{t:ό}{cs:Array υ}
def Bk.lt(h:Bk w g t cs):g<w.heap.size:=(Ϝ.1 h).1
def Bk.cell(h:Bk w g t cs)(i:Nat): w.cell? ⟨g,i,ν⟩=cs[i]?:=cell_of_row w g i cs t (0,0) h
def Bk.frozen(h:Bk w g t cs)(i:Nat): w.frozen? ⟨g,i,ν⟩=χ:=by
 have h':w.heap[g]?=φ (.cells cs t (0,0)):=h;simp[World.frozen?,h']
def Bk.alloc(h:Bk w g t cs)(o:Obj):Bk (w.alloc o) g t cs:=(Below.heap_alloc w o g h.lt).trans h
def Bk.new(w:Ψ)(t:ό)(cs:Array υ):Bk (w.alloc (.cells cs t)) w.heap.size t cs:=heap_alloc_new w _
def Bk.cD{w:Ψ}{g:Nat}(h:g=w.heap.size)(t:ό)(cs:Array υ):Bk (w.alloc (.cells cs t)) g t cs:=by subst h;exact Bk.new w t cs
def Bk.fS(h:Bk w g t cs)(hp:g≠p.block)(u:υ):Bk (w.setCell p u) g t cs:=(Ú w p u g hp).trans h
def Bk.set(h:Bk w g t cs)(i:Nat)(u:υ):Bk (w.setCell ⟨g,i,ν⟩ u) g t (cs.setIfInBounds i u):=by
 have h':w.heap[g]?=φ (.cells cs t (0,0)):=h;show(w.setCell ⟨g,i,ν⟩ u).heap[g]?=_;simp[World.setCell,Array.getElem?_modify,h']
def Bk.below(h:Bk w g t cs)(hb:Γ B w w')(hg:g<B):Bk w' g t cs:=(hb.block g hg).trans h
end
def al.cs(L:al):Array υ:=#[ξ κ L.a,ξ κ L.b,ξ κ L.c]
def nR(M x:al)(i:Nat):al:=⟨if 0<i then(if M.a<x.a then x.a else M.a) else M.a,if 1<i then(if M.b<x.b then x.b else M.b) else M.b,if 2<i then(if M.c<x.c then x.c else M.c) else M.c⟩
def cw(l:List al):al:=l.foldl (λM x=>nR M x 3) ⟨0,0,0⟩
def TC(a b:Int):max a b=if a<b then b else a:=by
 rw[Int.max_def];split<;>split<;>omega
def Ye(l:List al)(x:al):cw (l++ [x])=nR (cw l) x 3:=by simp[cw]
def Yc{ps:List al}(hs:Row w B 3 al.R sv ps)(hB:B<=w.heap.size)(hp:∃A n c,pv=ζ A n c)(hb:∃A n c,bv=ζ A n c)(ht:∃A n c,tv=ζ A n c):
 ύ prog 115 #[η #[ξ κ s,pv,bv,tv,sv]] w λe w'=>e=Ω (.agg (cw ps).cs)/\Γ w.heap.size w w':=by
 obtain⟨A1,n1,c1,rfl⟩:=hp;obtain⟨A2,n2,c2,rfl⟩:=hb;obtain⟨A3,n3,c3,rfl⟩:=ht;obtain⟨A,n,c,rfl,hl,gY,dh,hr⟩:=hs.Φ;unfold ϕ at dh;have tz:=ψ hl;have H2:=ψ hr;clear hl hr hs;go_enter func115,Tryz.ntmps115;go_wp2;go_loopw [5,6,7,11,16] (λa b d k z wr=>∃i:Nat,i<=n/\k=ξ κ i/\Hid (Bk wr (w.heap.size+1+1) 128 (cw (ps.take i)).cs)/\Hid (Bk wr (w.heap.size+1) 128 #[ξ κ 0,ξ κ 0,ξ κ 0])/\Γ w.heap.size w wr) (λ_ _ _ k _ _=>n - (Ϭ k).toNat)
 case atStart=>exact⟨0,Ϡ _,rfl,ψ (Bk.cD (by simp) _ _),ψ ((Bk.cD (by simp) _ _).alloc _),(((ώ _ _).alloc (ϊ _) _).alloc (by simp) _).alloc (by simp;omega) _⟩
 case round=>
  obtain⟨wo,rfl⟩:∃wo:Ψ,wo=wr:=⟨_,rfl⟩
  obtain⟨i,hi,rfl,hk,dq,hb⟩:=hrel;have HB:=ψ hb;have hz:w.heap.size+1+1<wo.heap.size:=hk.e.lt;by_cases aj:i<n
  ·obtain⟨ad,x,cs,rfl,aD,hx,rfl,-,aq⟩:=H2.e i aj
   have st:Δ B w wo:=Δ.aN hb hB;have h0:=cA aq st aD rfl;have h1:=bH aq st aD 0 rfl;have h2:=bH aq st aD 1 rfl;have HX:=ψ hx;clear hb hx aq st;go_wp2;go_loopw [6,7,16] (λa b z W=>∃j:Nat,j<=3/\z=ξ κ j/\Hid (Bk W (w.heap.size+1+1) 128 (nR (cw (ps.take i)) x j).cs)/\Hid (Bk W (w.heap.size+1) 128 #[ξ κ 0,ξ κ 0,ξ κ 0])/\Γ w.heap.size w W) (λ_ _ z _=>3 - (Ϭ z).toNat)
   case atStart=>exact⟨0,by omega,rfl,ψ (by simpa [nR] using hk.e.alloc _),ψ (dq.e.alloc _),HB.e.trans ((ώ _ _).alloc (by omega) _)⟩
   case round=>
    obtain⟨j,hj,rfl,hq,Ag,DO⟩:=hrel;have wF:=ψ DO;clear DO;obtain⟨M,hM⟩:∃M,M=cw (ps.take i):=⟨_,rfl⟩
    rw[<-hM] at hq;have HM:=ψ hM;clear hM;match j,hj with
    |0,_=>
     have g0: wr.cell? ⟨w.heap.size+1+1,0,ν⟩=φ (ξ κ M.a):=(hq.e.cell 0).trans (by simp[al.cs,nR])
     have fz:=hq.e.frozen 0;have i0:∀w:Ψ,(ė 128 (η #[ξ κ x.a,ξ κ x.b,ξ κ x.c]) (ξ κ 0)).run prog w=.ok (ξ κ x.a) w:=λw=>by simp[ė,go_sem]
     go_wp2;have dn:=hq.e.set 0 (ξ κ (if M.a<x.a then x.a else M.a))
     have AX:=ψ dn;clear dn;go_roundw;case rel=>exact⟨0+1,by omega,by go_num,ψ (by rw[<-HM.e];first|simpa [al.cs,nR] using AX.e| (rw[TC];simpa [al.cs,nR] using AX.e)),ψ (Ag.e.fS (by simp) _),wF.e.setCell (by simp;omega) _⟩
     case measure=>simp[Ϭ]
    |1,_=>
     have g0: wr.cell? ⟨w.heap.size+1+1,1,ν⟩=φ (ξ κ M.b):=(hq.e.cell 1).trans (by simp[al.cs,nR])
     have fz:=hq.e.frozen 1;have i0:∀w:Ψ,(ė 128 (η #[ξ κ x.a,ξ κ x.b,ξ κ x.c]) (ξ κ 1)).run prog w=.ok (ξ κ x.b) w:=λw=>by simp[ė,go_sem]
     go_wp2;have dn:=hq.e.set 1 (ξ κ (if M.b<x.b then x.b else M.b))
     have AX:=ψ dn;clear dn;go_roundw;case rel=>exact⟨1+1,by omega,by go_num,ψ (by rw[<-HM.e];first|simpa [al.cs,nR] using AX.e| (rw[TC];simpa [al.cs,nR] using AX.e)),ψ (Ag.e.fS (by simp) _),wF.e.setCell (by simp;omega) _⟩
     case measure=>simp[Ϭ]
    |2,_=>
     have g0: wr.cell? ⟨w.heap.size+1+1,2,ν⟩=φ (ξ κ M.c):=(hq.e.cell 2).trans (by simp[al.cs,nR])
     have fz:=hq.e.frozen 2;have i0:∀w:Ψ,(ė 128 (η #[ξ κ x.a,ξ κ x.b,ξ κ x.c]) (ξ κ 2)).run prog w=.ok (ξ κ x.c) w:=λw=>by simp[ė,go_sem]
     go_wp2;have dn:=hq.e.set 2 (ξ κ (if M.c<x.c then x.c else M.c))
     have AX:=ψ dn;clear dn;go_roundw;case rel=>exact⟨2+1,by omega,by go_num,ψ (by rw[<-HM.e];first|simpa [al.cs,nR] using AX.e| (rw[TC];simpa [al.cs,nR] using AX.e)),ψ (Ag.e.fS (by simp) _),wF.e.setCell (by simp;omega) _⟩
     case measure=>simp[Ϭ]
    |3,_=>
     go_wp2;go_roundw;case rel=>exact⟨i+1,by omega,by go_num,ψ (by rw[su HX.e,Ye,<-HM.e];exact hq.e),Ag,wF.e⟩
     case measure=>simp[Ϭ];omega
  ·obtain rfl:i=n:=by omega
   have e0:=(hk.e.cell 0);have e1:=(hk.e.cell 1);have e2:=(hk.e.cell 2);rw[ę (ÿ tz.e)] at e0 e1 e2;generalize hG:cw ps=G at e0 e1 e2 |-
   replace e0: wo.cell? ⟨w.heap.size+1+1,0,ν⟩=φ (ξ κ G.a):=e0;replace e1: wo.cell? ⟨w.heap.size+1+1,1,ν⟩=φ (ξ κ G.b):=e1;replace e2: wo.cell? ⟨w.heap.size+1+1,2,ν⟩=φ (ξ κ G.c):=e2;have q0: wo.cell? ⟨w.heap.size+1,0,ν⟩=φ (ξ κ 0):=(dq.e.cell 0);have q1: wo.cell? ⟨w.heap.size+1,1,ν⟩=φ (ξ κ 0):=(dq.e.cell 1);have q2: wo.cell? ⟨w.heap.size+1,2,ν⟩=φ (ξ κ 0):=(dq.e.cell 2);have z0:=dq.e.frozen 0;have z1:=dq.e.frozen 1;have z2:=dq.e.frozen 2;clear hb;go_wp2;exact bodyPost_ret (v:=.agg G.cs) (by simp[results,Tryz.results115,go_sem,q0,q1,q2,al.cs]) rfl ⟨by rw[<-hG],((HB.e.setCell (by simp) _).setCell (by simp) _).setCell (by simp) _⟩
end Go.Tw
namespace Go.Tw
variable [Go.Tw.aJ]
open Go
def EP{α:Type}{f:List α->α->Int}:∀(l fj:List α),scan f fj l=0->∀x∈l,∃aeU,f aeU x=0
 | [],_,_,x,h=>by cases h
 |a::l,fj,h,x,hx=>by
  unfold scan at h;by_cases h0:f fj a≠0
  ·rw[if_pos h0] at h;exact absurd h h0
  ·rw[if_neg h0] at h
   rcases ϥ.1 hx with rfl|hx
   ·exact⟨fj,by simpa using h0⟩
   ·exact EP l _ h x hx
def arL{b m:Int}(h:qz a b lo hi m=θ):lo<=a/\a<=b/\b<=hi/\b - a<m:=by
 simp only[qz,Bool.and_eq_true,decide_eq_true_eq] at h;exact⟨h.1.1.1,h.1.1.2,h.1.2,h.2⟩
def abB{np:Int}:∀(l:List Int) (p:Int),iA np (φ p) l=0->(∀k∈l,0<=k/\k<np)/\(l=[]\/(l.length:Int)<=np - 1 - p)
 | [],_,_=>⟨λk h=>(by cases h),.inl rfl⟩
 |a::l,p,h=>by
  unfold iA at h;by_cases hi:cf a 0 (np - 1)=θ
  ·rw[if_pos hi] at h
   have hr:=tQ hi;by_cases ha:a<=p
   ·rw[if_pos ha] at h;omega
   ·rw[if_neg ha] at h
    obtain⟨h1,h2⟩:=abB l a h;refine⟨λk hk=>?_,.inr ?_⟩
    ·rcases ϥ.1 hk with rfl|hk
     ·omega
     ·exact h1 k hk
    ·rcases h2 with rfl|h2
     ·simp;omega
     ·simp;omega
  ·rw[if_neg hi] at h;omega
def aqq{np:Int}(hn:0<=np)(h:iA np ν l=0):(∀k∈l,0<=k/\k<np)/\(l.length:Int)<=np:=by
 cases l with
 |nil=>exact⟨λk h=>(by cases h),by simpa using hn⟩
 |cons a l=>
  unfold iA at h;by_cases hi:cf a 0 (np - 1)=θ
  ·rw[if_pos hi] at h
   have hr:=tQ hi;obtain⟨h1,h2⟩:=abB l a h;refine⟨λk hk=>?_,?_⟩
   ·rcases ϥ.1 hk with rfl|hk
    ·omega
    ·exact h1 k hk
   ·rcases h2 with rfl|h2
    ·simp;omega
    ·simp;omega
  ·rw[if_neg hi] at h;omega
structure V4(p:Piece):Prop where
 lo:1<=p.len.lo
 le:p.len.lo<=p.len.hi
 hi:p.len.hi<=40
 wide:p.len.hi - p.len.lo<3
 bears:0<=p.bears/\p.bears<=2
structure Vj(x:aP):Prop where
 aw:1<=x.aw/\x.aw<=40
 aU:x.aU.length<=3
structure Valid(b:an):Prop where
 ab:0<=b.ab/\b.ab<=3
 np:1<=b.pieces.length/\b.pieces.length<=3
 piece:∀p∈b.pieces,V4 p
 nb:b.aF.length<=3
 bm:∀x∈b.aF,Vj x
 nt:b.aM.length<=4
 tape:∀t∈b.aM,(∀k∈t.pieces,0<=k/\k<b.pieces.length)/\t.pieces.length<=b.pieces.length
def apM{fj:List Piece}{p:Piece}(h:qy fj p=0):V4 p:=by
 unfold qy at h;split at h
 ·split at h
  ·omega
  ·split at h
   ·rename_i hs
    split at h
    ·rename_i hi
     have h1:=arL hs;have h2:=tQ hi;exact⟨h1.1,h1.2.1,h1.2.2.1,h1.2.2.2,h2⟩
    ·omega
   ·omega
 ·omega
def afd{fj:List aP}{x:aP}(h:mP fj x=0):Vj x:=by
 unfold mP at h;split at h
 ·split at h
  ·omega
  ·split at h
   ·rename_i hi
    split at h
    ·omega
    ·exact⟨tQ hi,by omega⟩
   ·omega
 ·omega
def oc{b:an}(h:dg b=0):Valid b:=by
 have hz:=EP (f:=λ_ s=>s) (pq b) [] h
 obtain⟨_,h1⟩:=hz (if cf b.ab 0 3 then 0 else 1) (by simp[pq])
 obtain⟨_,h2⟩:=hz (nP b.pieces) (by simp[pq])
 obtain⟨_,h3⟩:=hz (ox b.aF) (by simp[pq])
 obtain⟨_,h4⟩:=hz (qW b.pieces.length b.aM) (by simp[pq])
 clear hz h;have hs:cf b.ab 0 3=θ:=by
  cases e:cf b.ab 0 3 with
  |true=>rfl
  |false=>rw[e] at h1;simp at h1
 have sd:cf b.pieces.length 1 3=θ:=by
  cases e:cf b.pieces.length 1 3 with
  |true=>rfl
  |false=>unfold nP at h2;rw[e] at h2;simp at h2
 have hn:=tQ sd;unfold nP at h2;rw[sd,if_pos rfl] at h2;unfold ox at h3;split at h3
 ·omega
 unfold qW at h4;split at h4
 ·omega
 refine⟨tQ hs,by omega,λp hp=>?_,by omega,λx hx=>?_,by omega,λt ht=>?_⟩
 ·obtain⟨fj,h⟩:=EP _ _ h2 p hp;exact apM h
 ·obtain⟨fj,h⟩:=EP _ _ h3 x hx;exact afd h
 ·obtain⟨fj,h⟩:=EP _ _ h4 t ht
  simp only[qG] at h;split at h
  ·omega
  ·split at h
   ·contradiction
   ·rename_i h0
    have:=aqq (np:=b.pieces.length) (by omega) (by simpa using h0)
    exact⟨this.1,by omega⟩
def Valid.ass{b:an}(h:Valid b):Fl b:=λt ht=>⟨λk hk=>by have:=(h.tape t ht).1 k hk;have:=h.np;omega,by have:=(h.tape t ht).2;have:=h.np;omega⟩
end Go.Tw
namespace Go.Tw
variable [Go.Tw.aJ]
open Go Go.Proofs
def U{d:Option TypeDesc}(h:ϋ.underlying t=d):Tw.prog.underlying t=d:=(Ot t).trans h
def A{b:Bool}(h:∀w:Ψ,(isAgg t).run ϋ w=.ok b w):∀w:Ψ,(isAgg t).run Tw.prog w=.ok b w:=λw=>(asI t w).trans (h w)
def Z(h:∀w:Ψ,(sizeOf t).run ϋ w=.ok b w):∀w:Ψ,(sizeOf t).run Tw.prog w=.ok b w:=λw=>(asJ t w).trans (h w)
def V{b:υ}(h:∀w:Ψ,(zeroValue t).run ϋ w=.ok b w):∀w:Ψ,(zeroValue t).run Tw.prog w=.ok b w:=λw=>(UN t w).trans (h w)
end Go.Tw
namespace Go.Proofs
variable [Go.Tw.aJ]
open Go.Shelf
def Sh.amR:Go.Shelf.Ren:=⟨λ|122=>181|215=>203|n=>n,λ|3=>3|4=>4|n=>n,λ|n=>n⟩
def Sh.amQ:Go.Proofs.Lays.n122 Tw.prog Sh.amR:={
 mixed:=by kernel_rfl
 f122:=Tw.func181.trans (congrArg φ (by kernel_rfl))
 f215:=Tw.func203.trans (congrArg φ (by kernel_rfl))
 t3:=Tw.U Tryz.underlying3
 a3:=Tw.A Tryz.isAgg3
 z3:=Tw.Z Tryz.sizeOf3
 v3:=Tw.V Tryz.zeroValue3
 t4:=Tw.U Tryz.underlying4
 a4:=Tw.A Tryz.isAgg4
 z4:=Tw.Z Tryz.sizeOf4
 v4:=Tw.V Tryz.zeroValue4}
open Go.RowKit in
def Sh.cmp_Compare_int(x y:Int)(w:Ψ):
 ύ Tw.prog 181 #[ξ κ x,ξ κ y] w λe w'=>e=Ω (ξ κ (Lib.compareInt x y))/\w'=w:=Any.cmp_Compare_int Sh.amQ x y w
def Sh.amS:Go.Shelf.Ren:=⟨λ|189=>101|125=>164|257=>163|128=>199|129=>200|294=>190|295=>191|296=>192|297=>193|298=>194|299=>195|216=>196|300=>197|301=>198|328=>210|329=>211|330=>212|331=>213|332=>214|215=>203|343=>217|n=>n,λ|28=>33|3=>3|46=>194|0=>0|51=>220|53=>222|4=>4|183=>213|182=>212|131=>87|5=>5|9=>9|218=>234|222=>238|228=>242|229=>62|n=>n,λ|n=>n⟩
def Sh.aaB:Go.Proofs.Lays.n189 Tw.prog Sh.amS:={
 mixed:=by kernel_rfl
 f125:=Tw.func164.trans (congrArg φ (by kernel_rfl))
 f128:=Tw.func199.trans (congrArg φ (by kernel_rfl))
 f129:=Tw.func200.trans (congrArg φ (by kernel_rfl))
 f189:=Tw.func101.trans (congrArg φ (by kernel_rfl))
 f215:=Tw.func203.trans (congrArg φ (by kernel_rfl))
 f216:=Tw.func196.trans (congrArg φ (by kernel_rfl))
 f257:=Tw.func163.trans (congrArg φ (by kernel_rfl))
 f294:=Tw.func190.trans (congrArg φ (by kernel_rfl))
 f295:=Tw.func191.trans (congrArg φ (by kernel_rfl))
 f296:=Tw.func192.trans (congrArg φ (by kernel_rfl))
 f297:=Tw.func193.trans (congrArg φ (by kernel_rfl))
 f298:=Tw.func194.trans (congrArg φ (by kernel_rfl))
 f299:=Tw.func195.trans (congrArg φ (by kernel_rfl))
 f300:=Tw.func197.trans (congrArg φ (by kernel_rfl))
 f301:=Tw.func198.trans (congrArg φ (by kernel_rfl))
 f328:=Tw.func210.trans (congrArg φ (by kernel_rfl))
 f329:=Tw.func211.trans (congrArg φ (by kernel_rfl))
 f330:=Tw.func212.trans (congrArg φ (by kernel_rfl))
 f331:=Tw.func213.trans (congrArg φ (by kernel_rfl))
 f332:=Tw.func214.trans (congrArg φ (by kernel_rfl))
 f343:=Tw.func217.trans (congrArg φ (by kernel_rfl))
 t0:=Tw.U Tryz.underlying0
 a0:=Tw.A Tryz.isAgg0
 z0:=Tw.Z Tryz.sizeOf0
 v0:=Tw.V Tryz.zeroValue0
 t3:=Tw.U Tryz.underlying3
 a3:=Tw.A Tryz.isAgg3
 z3:=Tw.Z Tryz.sizeOf3
 v3:=Tw.V Tryz.zeroValue3
 t4:=Tw.U Tryz.underlying4
 a4:=Tw.A Tryz.isAgg4
 z4:=Tw.Z Tryz.sizeOf4
 v4:=Tw.V Tryz.zeroValue4
 t5:=Tw.U Tryz.underlying5
 a5:=Tw.A Tryz.isAgg5
 z5:=Tw.Z Tryz.sizeOf5
 v5:=Tw.V Tryz.zeroValue5
 t9:=Tw.U Tryz.underlying9
 a9:=Tw.A Tryz.isAgg9
 z9:=Tw.Z Tryz.sizeOf9
 v9:=Tw.V Tryz.zeroValue9
 t28:=Tw.U Tryz.underlying33
 a28:=Tw.A Tryz.isAgg33
 z28:=Tw.Z Tryz.sizeOf33
 v28:=Tw.V Tryz.zeroValue33
 t46:=Tw.U Tryz.underlying194
 a46:=Tw.A Tryz.isAgg194
 z46:=Tw.Z Tryz.sizeOf194
 v46:=Tw.V Tryz.zeroValue194
 t51:=Tw.U Tryz.underlying220
 a51:=Tw.A Tryz.isAgg220
 z51:=Tw.Z Tryz.sizeOf220
 v51:=Tw.V Tryz.zeroValue220
 t53:=Tw.U Tryz.underlying222
 a53:=Tw.A Tryz.isAgg222
 z53:=Tw.Z Tryz.sizeOf222
 v53:=Tw.V Tryz.zeroValue222
 t131:=Tw.U Tryz.underlying87
 a131:=Tw.A Tryz.isAgg87
 z131:=Tw.Z Tryz.sizeOf87
 v131:=Tw.V Tryz.zeroValue87
 t182:=Tw.U Tryz.underlying212
 a182:=Tw.A Tryz.isAgg212
 z182:=Tw.Z Tryz.sizeOf212
 v182:=Tw.V Tryz.zeroValue212
 t183:=Tw.U Tryz.underlying213
 a183:=Tw.A Tryz.isAgg213
 z183:=Tw.Z Tryz.sizeOf213
 v183:=Tw.V Tryz.zeroValue213
 t218:=Tw.U Tryz.underlying234
 a218:=Tw.A Tryz.isAgg234
 z218:=Tw.Z Tryz.sizeOf234
 v218:=Tw.V Tryz.zeroValue234
 t222:=Tw.U Tryz.underlying238
 a222:=Tw.A Tryz.isAgg238
 z222:=Tw.Z Tryz.sizeOf238
 v222:=Tw.V Tryz.zeroValue238
 t228:=Tw.U Tryz.underlying242
 a228:=Tw.A Tryz.isAgg242
 z228:=Tw.Z Tryz.sizeOf242
 v228:=Tw.V Tryz.zeroValue242
 t229:=Tw.U Tryz.underlying62
 a229:=Tw.A Tryz.isAgg62
 z229:=Tw.Z Tryz.sizeOf62
 v229:=Tw.V Tryz.zeroValue62}
open Go.Sort Go.RowKit in
def Sh.slices_Sort_int(blk off cap:Nat)(zs:List Int)(w:Ψ)(hH:Holds (ξ κ) w blk off zs.toArray)(ajI:blk<w.heap.size)(aL:zs.length<4611686018427387904):
 ύ Tw.prog 101 #[ζ (φ ⟨blk,off,ν⟩) zs.length cap] w λe w'=>
  e=Ω (μ #[])/\∃n os,w'=grow (putRow (ξ κ) (Sort.ahead w n) blk off (zs.mergeSort λx y=>decide (x<=y)).toArray) os:=Any.slices_Sort_int Sh.aaB blk off cap zs w hH ajI aL
def Sh.amT:Go.Shelf.Ren:=⟨λ|20=>102|n=>n,λ|22=>33|3=>3|4=>4|0=>0|n=>n,λ|n=>n⟩
def Sh.aaC:Go.Proofs.Lays2.n20 Tw.prog Sh.amT:={
 mixed:=by kernel_rfl
 f20:=Tw.func102.trans (congrArg φ (by kernel_rfl))
 t0:=Tw.U Tryz.underlying0
 a0:=Tw.A Tryz.isAgg0
 z0:=Tw.Z Tryz.sizeOf0
 v0:=Tw.V Tryz.zeroValue0
 t3:=Tw.U Tryz.underlying3
 a3:=Tw.A Tryz.isAgg3
 z3:=Tw.Z Tryz.sizeOf3
 v3:=Tw.V Tryz.zeroValue3
 t4:=Tw.U Tryz.underlying4
 a4:=Tw.A Tryz.isAgg4
 z4:=Tw.Z Tryz.sizeOf4
 v4:=Tw.V Tryz.zeroValue4
 t22:=Tw.U Tryz.underlying33
 a22:=Tw.A Tryz.isAgg33
 z22:=Tw.Z Tryz.sizeOf33
 v22:=Tw.V Tryz.zeroValue33
 i3:=by kernel_rfl}
open Go.RowKit Go.Lib Go.Sort in
def Sh.slices_Compact_int(blk off cap:Nat)(zs:List Int)(w:Ψ)(hH:Holds (ξ κ) w blk off zs.toArray)(aL:zs.length<=9223372036854775807)(RF:zs.length<=cap):
 ύ Tw.prog 102 #[ζ (φ ⟨blk,off,ν⟩) zs.length cap] w λe w'=>e=Ω (ζ (φ ⟨blk,off,ν⟩) (ĝ zs).length cap)/\∃q,w'=putRow (ξ κ) (Sort.ahead w q) blk off (ĝ zs++List.replicate (zs.length - (ĝ zs).length) 0).toArray:=Any.slices_Compact_int Sh.aaC blk off cap zs w hH aL RF
open Go.RowKit Go.Lib Go.Sort in
def Sh.slices_Compact_int_empty(a:Option Addr)(cap:Nat)(w:Ψ):
 ύ Tw.prog 102 #[ζ a 0 cap] w λe w'=>e=Ω (ζ a 0 cap)/\w'=w:=Any.slices_Compact_int_empty Sh.aaC a cap w
open Go.RowKit Go.Sort in
def Sh.slices_Sort_int_none(p:Option Addr)(cap:Nat)(w:Ψ):
 ύ Tw.prog 101 #[ζ p 0 cap] w λe w'=>e=Ω (μ #[])/\w'=w:=Any.slices_Sort_int_none Sh.aaB p cap w
end Go.Proofs
namespace Go.Tw
variable [Go.Tw.aJ]
open Go Go.Proofs Go.RowKit Go.Sort Go.Lib
def aeX{w0:Ψ}{os:Array Obj}(h:Γ B w0 w)(hB:B<=w.heap.size):Γ B w0 (Sort.grow w os):=
 ⟨h.os,h.tape,h.output,by have:=h.size;simp[Sort.grow];omega,λk hk=>by rw[<-h.block k hk];exact heap_grow_old w os (by omega)⟩
def apB{base:Nat}{e:ό}{sz:Nat}{os:Array Obj}(h:w.ownsRow base e sz v n xs):(Sort.grow w os).ownsRow base e sz v n xs:=by
 refine⟨h.1,?_⟩
 rcases h.2 with h0| ⟨g,cap,cur,h1,h2,h3,h4⟩
 ·exact .inl h0
 ·exact .inr ⟨g,cap,cur,h1,h2,(heap_grow_old w os (Ϝ.1 h3).1).trans h3,h4⟩
def mV(l:List Int):List Int:=l.mergeSort λx y=>decide (x<=y)
def Ux{base:Nat}(h:w.ownsRow base 3 1 v n (zs.map (ξ κ)))(hn:n<=100000)(hb:base<=w.heap.size):
 ύ prog 101 #[v] w λe w'=>e=Ω (μ #[])/\w'.ownsRow base 3 1 v n ((mV zs).map (ξ κ))/\Γ base w w':=by
 by_cases hv:v=ζ ν 0 0
 ·subst hv
  have h0:n=0/\zs=[]:=by
   rcases h.2 with⟨_,e⟩ | ⟨g,cap,cur,e,_⟩
   ·have:=h.1;simp at this;cases zs with
    |nil=>simp at this;exact⟨by omega,rfl⟩
    |cons=>simp_all
   ·cases e
  obtain⟨rfl,rfl⟩:=h0;refine(Sh.slices_Sort_int_none ν 0 w).mono ?_
  rintro e w' ⟨rfl,rfl⟩;exact⟨rfl,by simpa [mV] using h,ώ _ _⟩
 ·obtain⟨g,cap,rfl,qm,aj,gY,rZ,hl,hH⟩:=holds_of_ownsRow h hv
  subst hl;refine(Sh.slices_Sort_int g 0 cap zs w hH aj (by omega)).mono ?_
  rintro e w' ⟨rfl,q,os,rfl⟩;have hs:(mV zs).length=zs.length:=by simp[mV]
  refine⟨rfl,apB ?_,aeX (below_putRow (ώ _ _) qm) (by simp;exact hb)⟩
  have:=ownsRow_putRow (q:=q) (k:=zs.length) (ys:=mV zs) h hs (ϊ _);rwa[ę (by omega)] at this
def Xj(zs:List Int):(ĝ zs).length<=zs.length:=by
 unfold ĝ compactUpTo;rw[List.length_map];exact ϣ (Agd _ _) (by simp)
def Xi{base:Nat}(h:w.ownsRow base 3 1 v n (zs.map (ξ κ)))(hn:n<=100000):
 ύ prog 102 #[v] w λe w'=>∃u,e=Ω u/\w'.ownsRow base 3 1 u (ĝ zs).length ((ĝ zs).map (ξ κ))/\Γ base w w':=by
 by_cases hv:v=ζ ν 0 0
 ·subst hv
  have h0:n=0/\zs=[]:=by
   rcases h.2 with⟨_,e⟩ | ⟨g,cap,cur,e,_⟩
   ·have:=h.1;simp at this;cases zs with
    |nil=>simp at this;exact⟨by omega,rfl⟩
    |cons=>simp_all
   ·cases e
  obtain⟨rfl,rfl⟩:=h0;refine(Sh.slices_Compact_int_empty ν 0 w).mono ?_
  rintro e w' ⟨rfl,rfl⟩;exact⟨_,rfl,h,ώ _ _⟩
 ·obtain⟨g,cap,rfl,qm,aj,gY,rZ,hl,hH⟩:=holds_of_ownsRow h hv
  subst hl;refine(Sh.slices_Compact_int g 0 cap zs w hH (by omega) gY).mono ?_
  rintro e w' ⟨rfl,q,rfl⟩;have hk:(ĝ zs).length<=zs.length:=Xj zs;refine⟨_,rfl,?_,below_putRow (ώ _ _) qm⟩
  have:=ownsRow_putRow (q:=q) (k:=(ĝ zs).length) (ys:=ĝ zs++List.replicate (zs.length - (ĝ zs).length) 0) h (by simp;omega) hk
  simpa using this
end Go.Tw
namespace Go.Tw
variable [Go.Tw.aJ]
open Go Go.Proofs Go.RowKit
def pD(l:List Cut):List Int:=ĝ (mV (l.map (·.bm)))
def kY{base:Nat}{e:ό}{sz:Nat}(h:w.ownsRow base e sz v n xs)(k:Nat)(hk:v.ownBlock=φ k):base<=k:=by
 rcases h.2 with⟨rfl,_⟩ | ⟨g,cap,cur,rfl,qm,_⟩
 ·simp[Value.ownBlock] at hk
 ·simp[Value.ownBlock] at hk;omega
def S3:(prog.info? 3).map (λi=>(i.zero,i.size,i.bytes))=φ (φ (ξ κ 0),1,8):=by
 rw[v8];kernel_rfl
def taken{l:List Cut}(hv:Row w B 2 Cut.R v l)(hB:B<=w.heap.size)(Dz:l.length<=1000):
 ύ prog 235 #[v] w λe w'=>∃u,e=Ω u/\w'.ownsRow w.heap.size 3 1 u (pD l).length ((pD l).map (ξ κ))/\Γ w.heap.size w w':=by
 obtain⟨i0,di,dp,aS,bu⟩:=info_parts S3;obtain⟨A,n,c,rfl,hl,gY,dh,hr⟩:=hv.Φ;have hn:n<=1000:=by omega
 unfold ϕ at dh;have tz:=ψ hl;have H2:=ψ hr;have HI:=ψ (Ϗ di (Ϗ dp (Ϗ aS bu)));clear hl hr hv Dz di dp aS bu;go_enter func235,Tryz.ntmps235;go_wp2;go_loopw [3,5,8] (λo u k wr=>∃i:Nat,i<=n/\k=ξ κ i/\wr.ownsRow w.heap.size 3 1 o i ((l.take i).map λc=>ξ κ c.bm)/\Γ w.heap.size w wr) (λ_ _ k _=>n - (ϙ k).toNat)
 case atStart=>exact⟨0,Ϡ _,rfl,⟨by simp,.inl ⟨rfl,rfl⟩⟩,ώ _ _⟩
 case round=>
  obtain⟨i,hi,rfl,aK,hb⟩:=hrel;have HO:=ψ aK;have HB:=ψ hb;have aL:=hb.size;by_cases aj:i<n
  ·obtain⟨ad,x,cs,rfl,aD,hx,rfl,-,aq⟩:=H2.e i aj
   have st:Δ B w wr:=Δ.aN hb hB;have h0:=cA aq st aD rfl;have h1:=bH aq st aD 0 rfl;have HX:=ψ hx;clear hb hx aq st aK;go_wp2_with (first
    | (at_builtin
       refine wpList_append_own _ rfl (.tmp 12) (.tmp 15) 33 rfl w.heap.size 3 i0 (ξ κ 0) 1 8 (U Tryz.underlying33) HI.e.1 HI.e.2.1 HI.e.2.2.1 HI.e.2.2.2 rfl (by decide) _ i _ rfl ((HO.e.alloc _).alloc _) ⟨wr.heap.size+1,0,ν⟩ 1 1 [ξ κ x.bm] rfl rfl ?c1 ?c2 ?c3 ?c4 ?c5 ?_
       case c1=>(intro j u hu;match j,hu with|0,hu=>(simp at hu;subst hu;simp[go_sem,Addr.add]))
       case c2=>simp[Value.oneCell']
       case c3=>(simp only[ϕ];omega)
       case c4=>omega
       case c5=>(simp;omega)
       intro v' w1 cO fO _;have oo:=ψ cO;have om:=ψ fO;clear cO fO))
   go_roundw;case rel=>exact⟨i+1,by omega,by go_num,by rw[su HX.e,List.map_append];exact oo.e,
    ((HB.e.trans ((ώ _ _).alloc aL _)).trans ((ώ _ _).alloc (by simp;omega) _)).grown om.e (by simp;omega) (λk hk=>kY HO.e k hk)⟩
   case measure=>simp[ϙ];omega
  ·obtain rfl:i=n:=by omega
   have BT:((l.take i).map λc=>ξ κ c.bm)=(l.map (·.bm)).map (ξ κ):=by
    rw[ę (ÿ tz.e),List.map_map];rfl
   have xR:Hid (wr.ownsRow w.heap.size 3 1 u3 i ((l.map (·.bm)).map (ξ κ))):=ψ (BT▸HO.e)
   clear hb aK BT HO;go_wp2_with (first
    | (go_at_call 101;refine(Ux xR.e (by omega) aL).mono ?_;rintro e w1 ⟨rfl,cO,ag⟩;have AW:=ψ cO;have mC:=ψ ag;clear cO ag)
    | (go_at_call 102;refine(Xi AW.e (by omega)).mono ?_;rintro e w2 ⟨u,rfl,se,ak⟩;have C9:=ψ se;have pX:=ψ ak;clear se ak))
   go_ret;exact⟨_,rfl,C9.e,HB.e.trans (mC.e.trans pX.e)⟩
def nothing{A1 A2 A3:Option Addr}{n1 c1 n2 c2 n3 c3:Nat}(w:Ψ):
 ύ prog 107 #[η #[ξ κ s,ζ A1 n1 c1,ζ A2 n2 c2,ζ A3 n3 c3]] w λe w'=>e=Ω (ξ κ 0)/\Γ w.heap.size w w':=by
 go_enter func107,Tryz.ntmps107;go_wp2;go_ret;exact⟨bj rfl,(ώ _ _).alloc (ϊ _) _⟩
end Go.Tw
namespace Go.Tw
variable [Go.Tw.aJ]
open Go Go.Proofs Go.RowKit
def EY(f:FuncId):ò.fn f=True:=rfl
def EX:ò.depth=ν:=rfl
attribute [local go_sem] EY EX Oper.semAt_some
def al.set(L:al)(i:Nat)(k:Int):al:=if i=0 then {L with a:=k} else if i=1 then {L with b:=k} else {L with c:=k}
def rF(x:Span):List Int:=(Ϯ (x.hi - x.lo+1).toNat).map λ(j:Nat)=>x.lo+j
def hJ(b:an):Nat->Nat->al->List al
 |0,_,n=>if NW n b.aM then [n] else []
 |f+1,i,n=>match b.pieces[i]? with
  |some p=>(rF p.len).flatMap λk=>hJ b f (i+1) (n.set i k)
  |none=> []
def aH(b:an):List al:=hJ b b.pieces.length 0 ⟨0,0,0⟩
def al.vs(L:al):List υ:=[ξ κ L.a,ξ κ L.b,ξ κ L.c]
structure AI(w:Ψ)(b:an)(pv bv tv:υ)(rec:Loop)(n:al)(out:List al)(W:Ψ):Prop where
 p:Bk W (w.heap.size+4) 117 #[ξ κ b.ab,pv,bv,tv]
 y:Bk W (w.heap.size+5) 182 #[.func (.yield (w.heap.size+3)) #[] #[]]
 n:Bk W (w.heap.size+6) 128 n.cs
 x:Bk W (w.heap.size+7) 158 #[.func (.func 188) #[] #[π (φ ⟨w.heap.size+4,0,ν⟩),π (φ ⟨w.heap.size+6,0,ν⟩),π (φ ⟨w.heap.size+5,0,ν⟩),π (φ ⟨w.heap.size+7,0,ν⟩)]]
 o:∃v,Bk W (w.heap.size+1) 115 #[v]/\W.ownsRow (w.heap.size+8) 128 3 v out.length (out.flatMap al.vs)
 d:W.heap[w.heap.size+2]?=φ (.deferred (φ []))
 l:W.heap[w.heap.size+3]?=φ (.loop rec)
 below:Γ w.heap.size w W
def xz{base:Nat}{e:ό}{sz:Nat}(h:w.ownsRow base e sz v n xs)(hb:Γ B w w')(hB:w.heap.size<=B):w'.ownsRow base e sz v n xs:=by
 refine⟨h.1,?_⟩
 rcases h.2 with h0| ⟨g,cap,cur,h1,h2,h3,h4⟩
 ·exact .inl h0
 ·exact .inr ⟨g,cap,cur,h1,h2,(hb.block g (ϟ (Ϝ.1 h3).1 hB)).trans h3,h4⟩
def AI.later{b:an}{n:al}{out:List al}(h:AI w b pv bv tv rec n out W)(hb:Γ W.heap.size W W'):AI w b pv bv tv rec n out W':=by
 have h1:=h.x.lt;refine⟨h.p.below hb (by omega),h.y.below hb (by omega),h.n.below hb (by omega),h.x.below hb (by omega),?_,(hb.block _ (by omega)).trans h.d,(hb.block _ (by omega)).trans h.l,h.below.trans (hb.mono (by omega))⟩
 obtain⟨v,v1,v2⟩:=h.o;exact⟨v,v1.below hb (by omega),xz v2 hb (ϊ _)⟩
def PS(w:Ψ)(b:an)(pv bv tv:υ)(rec:Loop):Prop:=∀(m:Nat) (n:al) (out:List al) (W:Ψ),out.length<1000->AI w b pv bv tv rec n out W->
 YieldAt ò m prog (w.heap.size+3) #[.agg n.cs] W λe W'=>e=Ω (.bool θ)/\AI w b pv bv tv rec n (out++ [n]) W'
def aoY{b:an}(hB:B<=w.heap.size)(ai:bq w B b pv bv tv)(cE:Fl b)(hY:PS w b pv bv tv rec){n:al}(hL:n.Ok){out:List al}
 (h:AI w b pv bv tv rec n out W)(hK:out.length+(hJ b 0 b.pieces.length n).length<=1000)(m:Nat):
 CallsIn ò m prog 188 #[ξ κ b.pieces.length,π (φ ⟨w.heap.size+4,0,ν⟩),π (φ ⟨w.heap.size+6,0,ν⟩),π (φ ⟨w.heap.size+5,0,ν⟩),π (φ ⟨w.heap.size+7,0,ν⟩)] W
  λe W'=>e=Ω (.bool θ)/\AI w b pv bv tv rec n (out++hJ b 0 b.pieces.length n) W':=by
 have HK:=ψ hK;clear hK;have HY:=ψ hY;have HI:=ψ h;have H63:b.pieces.length<=9223372036854775807:=by
  obtain⟨A1,n1,c1,rfl,e1,h1,jx,-⟩:=ai.pieces.Φ;unfold ϕ at jx;omega
 obtain⟨A1,n1,c1,rfl,e1,h1,jx,-⟩:=ai.pieces.Φ;have p0:=h.p.cell 0;have p1:=h.p.cell 1;have p2:=h.p.cell 2;have p3:=h.p.cell 3;have y0:=h.y.cell 0;have n0: W.cell? ⟨w.heap.size+6,0,ν⟩=φ (ξ κ n.a):=h.n.cell 0;have n1': W.cell? ⟨w.heap.size+6,1,ν⟩=φ (ξ κ n.b):=h.n.cell 1;have n2: W.cell? ⟨w.heap.size+6,2,ν⟩=φ (ξ κ n.c):=h.n.cell 2;have call:=right (w:=W) (B:=B) (L:=n) (ai.still (Δ.aN h.below hB)) (by have:=h.below.size;omega) cE hL
 have aE:=ψ call;clear hY h ai call;rw[e1] at H63 |-
 have E1:=ψ e1;clear e1;unfold ϕ at jx;cases SD:NW n b.aM with
 |false=>
  refine callsIn_of_wp func188 rfl trivial ?_
  simp only[Tryz.ntmps188,ŕ,Ď,Ŗ,ķ,Ř,œ,Ŕ,ŗ,İ,þ,Ĵ]
  gi_wp2_with (first
   | (gi_at_call 189;refine(callsIn_wide.2 aE.e).mono ?_;rintro e w1 ⟨rfl,ag⟩))
  go_ret;exact⟨cj rfl,by simpa [hJ,SD] using HI.e.later (ag.mono (ϊ _))⟩
 |true=>
  refine callsIn_of_wp func188 rfl trivial ?_
  simp only[Tryz.ntmps188,ŕ,Ď,Ŗ,ķ,Ř,œ,Ŕ,ŗ,İ,þ,Ĵ]
  gi_wp2_with (first
   | (gi_at_call 189;refine(callsIn_wide.2 aE.e).mono ?_;rintro e w1 ⟨rfl,ag⟩
      have Ir:=ψ (HI.e.later ag);obtain⟨f1,t1,a1,b1,pM,uL⟩:=HY.e (m - 1) n out w1 (by have:=HK.e;simp[hJ,SD] at this;omega) Ir.e
      have PE:=ψ uL;have n0: w1.cell? ⟨w.heap.size+6,0,ν⟩=φ (ξ κ n.a):=Ir.e.n.cell 0;have n1': w1.cell? ⟨w.heap.size+6,1,ν⟩=φ (ξ κ n.b):=Ir.e.n.cell 1;have n2: w1.cell? ⟨w.heap.size+6,2,ν⟩=φ (ξ κ n.c):=Ir.e.n.cell 2;have y0: w1.cell? ⟨w.heap.size+5,0,ν⟩=φ (.func (.yield (w.heap.size+3)) #[] #[]):=Ir.e.y.cell 0;have hyy:Sem.run prog (Instr.yield (w.heap.size+3) #[η #[ξ κ n.a,ξ κ n.b,ξ κ n.c]]) w1=.ok (.round (w.heap.size+3) f1 t1 a1 b1) w1:=pM;clear pM uL))
  refine PE.e.mono ?_
  rintro e W' ⟨rfl,h2⟩;have H2:=ψ h2;clear h2
  gi_wp2
  go_ret;exact⟨cj rfl,by simpa [hJ,SD] using H2.e⟩
def WJ{b:an}{n:al}{p:Piece}(h:b.pieces[i]?=φ p):hJ b (f+1) i n=(rF p.len).flatMap λk=>hJ b f (i+1) (n.set i k):=by
 conv=>lhs;unfold hJ
 rw[h]
def aim{β:Type}{f:α->List β}{l:List α}{x:α}(h:l[j]?=φ x):((l.take j).flatMap f).length+(f x).length<=(l.flatMap f).length:=by
 have e:l=l.take j++x::l.drop (j+1):=by
  obtain⟨hj,rfl⟩:=ϩ.1 h
  rw[List.getElem_cons_drop,List.take_append_drop]
 conv=>rhs;rw[e]
 simp only[ĵ,List.flatMap_cons,Ę];omega
def Ik(i f:Nat)(n m:al):Prop:=∀q,q<3->(q<i\/i+f<=q)->n.at q=m.at q
def al.ah2{n m:al}(h:∀q,q<3->n.at q=m.at q):n=m:=by
 have h0:=h 0 (by omega)
 have h1:=h 1 (by omega)
 have h2:=h 2 (by omega)
 cases n;cases m
 simp[al.at] at h0 h1 h2;simp[h0,h1,h2]
def al.at_set{n:al}{q:Nat}{k:Int}(hi:i<3)(hq:q<3):(n.set i k).at q=if q=i then k else n.at q:=by
 match i,hi,q,hq with
 |0,_,0,_=>simp[al.set,al.at]
 |0,_,1,_=>simp[al.set,al.at]
 |0,_,2,_=>simp[al.set,al.at]
 |1,_,0,_=>simp[al.set,al.at]
 |1,_,1,_=>simp[al.set,al.at]
 |1,_,2,_=>simp[al.set,al.at]
 |2,_,0,_=>simp[al.set,al.at]
 |2,_,1,_=>simp[al.set,al.at]
 |2,_,2,_=>simp[al.set,al.at]
def al.aeQ{n:al}{q:Nat}(hq:2<=q):n.at q=n.c:=by unfold al.at;rw[if_neg (by omega),if_neg (by omega)]
def al.Ok.set{n:al}(h:n.Ok){i:Nat}{k:Int}(hi:i<3)(h0:0<=k)(h1:k<=1000):(n.set i k).Ok:=by
 intro q;by_cases hq:q<3
 ·rw[al.at_set hi hq];split
  ·exact⟨h0,h1⟩
  ·exact h q
 ·rw[al.aeQ (by omega)]
  have:(n.set i k).c=(n.set i k).at 2:=rfl;rw[this,al.at_set hi (by omega)];split
  ·exact⟨h0,h1⟩
  ·exact h 2
def al.agE{n:al}{k:Int}(hi:i<3):n.cs.setIfInBounds i (ξ κ k)=(n.set i k).cs:=by
 match i,hi with
 |0,_=>rfl
 |1,_=>rfl
 |2,_=>rfl
def al.Bo{n:al}(hi:i<3):n.cs[i]?=φ (ξ κ (n.at i)):=by
 match i,hi with
 |0,_=>rfl
 |1,_=>rfl
 |2,_=>rfl
def WE{b:an}:∀(f i:Nat) (n m:al),i+f<=3->Ik i f n m->hJ b f i n=hJ b f i m
 |0,i,n,m,hi,h=>by
  have:n=m:=al.ah2 λq hq=>h q hq (by omega)
  rw[this]
 |f+1,i,n,m,hi,h=>by
  unfold hJ;cases b.pieces[i]? with
  |none=>rfl
  |some p=>
   simp only;congr 1;funext k;refine WE f (i+1) _ _ (by omega) λq hq vL=>?_
   rw[al.at_set (by omega) hq,al.at_set (by omega) hq]
   split
   ·rfl
   ·exact h q hq (by omega)
def AI.ary{b:an}{n:al}{out:List al}(h:AI w b pv bv tv rec n out W)(hi:i<3)(k:Int):AI w b pv bv tv rec (n.set i k) out (W.setCell ⟨w.heap.size+6,i,ν⟩ (ξ κ k)):=by
 have h1:=h.x.lt;refine⟨h.p.fS (by simp) _,h.y.fS (by simp) _,by rw[<-al.agE hi];exact h.n.set i _,h.x.fS (by simp) _,?_,(Ú _ _ _ _ (by simp)).trans h.d,(Ú _ _ _ _ (by simp)).trans h.l,h.below.setCell (by simp) _⟩
 obtain⟨v,v1,v2⟩:=h.o;refine⟨v,v1.fS (by simp) _,v2.1,?_⟩
 rcases v2.2 with h0| ⟨g,cap,cur,h1,h2,h3,h4⟩
 ·exact .inl h0
 ·exact .inr ⟨g,cap,cur,h1,h2,(Ú _ _ _ _ (by simp;omega)).trans h3,h4⟩
def Uz(x:Span):(rF x).length=(x.hi - x.lo+1).toNat:=by simp[rF]
def acb{x:Span}(h:x.lo+j<=x.hi):(rF x)[j]?=φ (x.lo+j):=by
 unfold rF;rw[List.getElem?_map,List.getElem?_range (by omega)]
 rfl
def aoZ{b:an}(hB:B<=w.heap.size)(ai:bq w B b pv bv tv)(tN:∀p∈b.pieces,0<=p.len.lo/\p.len.hi<=1000)(jz:i+(f+1)=b.pieces.length)(h3:b.pieces.length<=3)
 (ih:∀(n:al) (out:List al) (W:Ψ) (m:Nat),n.Ok->out.length+(hJ b f (i+1) n).length<=1000->AI w b pv bv tv rec n out W->
   CallsIn ò m prog 188 #[ξ κ (i+1:Int),π (φ ⟨w.heap.size+4,0,ν⟩),π (φ ⟨w.heap.size+6,0,ν⟩),π (φ ⟨w.heap.size+5,0,ν⟩),π (φ ⟨w.heap.size+7,0,ν⟩)] W
    λe W'=>e=Ω (.bool θ)/\∃n',n'.Ok/\Ik (i+1) f n' n/\AI w b pv bv tv rec n' (out++hJ b f (i+1) n) W')
 {n:al}(hL:n.Ok){out:List al}(hK:out.length+(hJ b (f+1) i n).length<=1000)(h:AI w b pv bv tv rec n out W)(m:Nat):
 CallsIn ò m prog 188 #[ξ κ i,π (φ ⟨w.heap.size+4,0,ν⟩),π (φ ⟨w.heap.size+6,0,ν⟩),π (φ ⟨w.heap.size+5,0,ν⟩),π (φ ⟨w.heap.size+7,0,ν⟩)] W
  λe W'=>e=Ω (.bool θ)/\∃n',n'.Ok/\Ik i (f+1) n' n/\AI w b pv bv tv rec n' (out++hJ b (f+1) i n) W':=by
 have HI:=ψ h;have HK:=ψ hK;clear hK;obtain⟨A1,n1,c1,rfl,e1,hn,hc,hr⟩:=ai.pieces.Φ;have nw:i<3:=by omega
 have fP:i<n1:=by omega
 obtain⟨ad,p,cs,rfl,aD,hp,⟨rfl,dk⟩,-,aq⟩:=hr i fP;have JN:=tN p (ϡ hp);have avg:0<=p.len.lo:=JN.1;have avh:p.len.hi<=1000:=JN.2;have st:Δ B w W:=Δ.aN h.below hB;have q1: W.cell? ⟨(ad.add (i * 4)).block,(ad.add (i * 4)).off+1,ν⟩=φ (ξ κ p.len.lo):=bH aq st aD 0 rfl;have q2: W.cell? ⟨(ad.add (i * 4)).block,(ad.add (i * 4)).off+2,ν⟩=φ (ξ κ p.len.hi):=bH aq st aD 1 rfl;have HC:=ψ aq;have HAD:(ad.add (i * 4)).block<w.heap.size:=by rw[cq];omega
 have p1: W.cell? ⟨w.heap.size+4,1,ν⟩=φ (ζ (φ ad) n1 c1):=h.p.cell 1;have xk:((i:Int)==(n1:Int))=χ:=by simp;omega
 have HE:=ψ e1;have HP:=ψ hp;have HIF:=ψ jz;have HIH:=ψ ih;unfold ϕ at hc;clear ai h hr tN hp aq st dk ih e1 jz JN;refine callsIn_of_wp func188 rfl trivial ?_
 simp only[Tryz.ntmps188,ŕ,Ď,Ŗ,ķ,Ř,œ,Ŕ,ŗ,İ,þ,Ĵ]
 gi_wp2
 gi_loopw [7] (λk wr=>∃(j:Nat) (n':al),j<=(rF p.len).length/\k=ξ κ (p.len.lo+j)/\n'.Ok/\Ik i (f+1) n' n/\Hid (AI w b (ζ (φ ad) n1 c1) bv tv rec n' (out++((rF p.len).take j).flatMap λk=>hJ b f (i+1) (n.set i k)) wr)) (λk _=>(p.len.hi+1 - ϙ k).toNat)
 case atStart=>exact⟨0,n,Ϡ _,by simp,hL,λ_ _ _=>rfl,by simpa using HI⟩
 case round=>
  obtain⟨j,n',hj,rfl,Yo,F1,hI⟩:=hrel;have st:Δ B w wr:=Δ.aN hI.e.below hB;have q1: wr.cell? ⟨(ad.add (i * 4)).block,(ad.add (i * 4)).off+1,ν⟩=φ (ξ κ p.len.lo):=bH HC.e st aD 0 rfl;have q2: wr.cell? ⟨(ad.add (i * 4)).block,(ad.add (i * 4)).off+2,ν⟩=φ (ξ κ p.len.hi):=bH HC.e st aD 1 rfl;have p1: wr.cell? ⟨w.heap.size+4,1,ν⟩=φ (ζ (φ ad) n1 c1):=hI.e.p.cell 1;have Ph:=ψ F1;have HJ:Hid (j<=(rF p.len).length):=ψ hj;clear st F1 hj;by_cases aj:p.len.lo+j<=p.len.hi
  ·have g6: wr.cell? ⟨w.heap.size+6,i,ν⟩=φ (ξ κ (n'.at i)):=(hI.e.n.cell i).trans (al.Bo nw)
   have z6: wr.frozen? ⟨w.heap.size+6,i,ν⟩=χ:=hI.e.n.frozen i;have x7: wr.cell? ⟨w.heap.size+7,0,ν⟩=φ (.func (.func 188) #[] #[π (φ ⟨w.heap.size+4,0,ν⟩),π (φ ⟨w.heap.size+6,0,ν⟩),π (φ ⟨w.heap.size+5,0,ν⟩),π (φ ⟨w.heap.size+7,0,ν⟩)]):=hI.e.x.cell 0;have HS:=ψ (hI.e.ary nw (p.len.lo+j));have oG:hJ b f (i+1) (n'.set i (p.len.lo+j))=hJ b f (i+1) (n.set i (p.len.lo+j)):=by
    refine WE _ _ _ _ (by have:=HIF.e;omega) λq hq vL=>?_
    rw[al.at_set nw hq,al.at_set nw hq];split
    ·rfl
    ·exact Ph.e q hq (by omega)
   have VS:=ψ oG;clear oG;have YI:(out++((rF p.len).take j).flatMap λk=>hJ b f (i+1) (n.set i k)).length+(hJ b f (i+1) (n'.set i (p.len.lo+j))).length<=1000:=by
    have h1:=HK.e;rw[WJ HP.e] at h1;have h2:=aim (f:=λk=>hJ b f (i+1) (n.set i k)) (acb aj)
    rw[VS.e,Ę];omega
   have aE:=ψ (λm=>HIH.e _ _ _ m (Yo.set nw (k:=p.len.lo+j) (by omega) (by omega)) YI HS.e)
   clear YI
   gi_wp2_with (first
    | (gi_at_call 188;refine(aE.e _).mono ?_;rintro e w1 ⟨rfl,n2,tF,Mt,DE⟩;have Ps:=ψ DE;have adA:=ψ Mt;clear DE Mt))
   have hlen:j<(rF p.len).length:=by rw[Uz];omega
   have hj1:(rF p.len)[j]?=φ (p.len.lo+j):=acb aj;refine⟨⟨j+1,n2,hlen,by go_num,tF,λq hq vL=>?_,?_⟩,by simp[ϙ];omega⟩
   ·rw[adA.e q hq (by omega),al.at_set nw hq]
    split
    ·omega
    ·exact Ph.e q hq (by omega)
   ·rw[su hj1,ĵ,List.flatMap_singleton,<-List.append_assoc]
    rw[<-VS.e];exact Ps
  ·gi_wp2
   go_ret;refine⟨cj rfl,n',Yo,Ph.e,?_⟩
   rw[WJ HP.e];have:=hI.e;rwa[ę (by rw[Uz];omega)] at this
def aa5{w:Ψ}{b:an}{pv bv tv:υ}{rec:Loop}{B:Nat}(hB:B<=w.heap.size)(ai:bq w B b pv bv tv)(cE:Fl b)(tN:∀p∈b.pieces,0<=p.len.lo/\p.len.hi<=1000)(h3:b.pieces.length<=3)(hY:PS w b pv bv tv rec):
 ∀(f i:Nat) (n:al) (out:List al) (W:Ψ) (m:Nat),i+f=b.pieces.length->n.Ok->out.length+(hJ b f i n).length<=1000->AI w b pv bv tv rec n out W->
  CallsIn ò m prog 188 #[ξ κ i,π (φ ⟨w.heap.size+4,0,ν⟩),π (φ ⟨w.heap.size+6,0,ν⟩),π (φ ⟨w.heap.size+5,0,ν⟩),π (φ ⟨w.heap.size+7,0,ν⟩)] W
    λe W'=>e=Ω (.bool θ)/\∃n',n'.Ok/\Ik i f n' n/\AI w b pv bv tv rec n' (out++hJ b f i n) W'
 |0,i,n,out,W,m,hi,hL,hK,h=>by
  obtain rfl:i=b.pieces.length:=by omega
  exact(aoY hB ai cE hY hL h hK m).mono λe W' ⟨h1,h2⟩=>⟨h1,n,hL,λ_ _ _=>rfl,h2⟩
 |f+1,i,n,out,W,m,hi,hL,hK,h=>
  aoZ hB ai tN hi h3 (λn out W m hL hK h=>aa5 hB ai cE tN h3 hY f (i+1) n out W m (by omega) hL hK h) hL hK h m
end Go.Tw
end
