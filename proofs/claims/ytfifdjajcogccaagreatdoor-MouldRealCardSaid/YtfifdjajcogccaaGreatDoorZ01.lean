import Derived.Test.YtfifdjajcogccaaGreatDoorZ00
import Derived.Conc.CrowdComm
import Derived.Test.YtfifdjajcogccaaGreatDoorProg
import Derived.Tactics2
import Derived.Below
import Derived.Laws.OwnMore
import Derived.Deep.AppendLies
import Derived.Deep.Draws
import Derived.Lib.Hide
import Derived.WalkSpells
import Derived.Outline
import Derived.Deep.QuietTactic
import Derived.BigQuiet
import Derived.IntWalk
import Derived.Laws.IdiomStrings
import Derived.StillTailTactics
import Derived.Deep.RegionHeld3
import Derived.Laws.Rows
import Derived.Shelf.Small.Bits
import Derived.Shelf.Small.Wraps
import Derived.Shelf.Strconv.Itoa0
import Derived.Shelf.Sort.Plain
import Derived.Ground.Names2Prog
import Derived.Shelf.Slices.Clone
import Derived.Shelf.Slices.CompactI
import Derived.Shelf.Slices.SearchI
import Derived.Shelf.Slices.Cells
import Derived.Shelf.Slices.In.SortNone
import Derived.Ground.SlgnProg
import Derived.Shelf.SlicesE.Clone
import Derived.Lib.OwnBridge
import Derived.OwnWalk
import Derived.Maps.AppendAt
import Derived.RangeFuncIn
import Derived.RangeFuncCalls
import Derived.LoopIn
import Derived.OwnWalkIn
import Derived.TacticsInMore
set_option linter.all false
set_option maxHeartbeats 64000000
set_option maxRecDepth 100000
open And renaming intro -> ϐ
open Array renaming getElem?_append_right -> Ael, getElem?_eq_some_iff -> Ϟ, getElem?_eq_getElem -> Aaz, getElem?_setIfInBounds_ne -> Aa0, getElem?_map -> Aa1, getElem?_eq_none -> Aan, size_setIfInBounds -> Aem, empty_append -> Aen, append_empty -> Aag, size_push -> Aeo, getElem?_setIfInBounds -> Aai, getElem?_mapIdx -> Aep, replicate_succ -> Aeq, replicate_zero -> Aer
open Classical renaming byContradiction -> Aa5
open Go renaming Goroutine -> ώ, Trace -> ϭ, Program -> ϑ, stepG -> ϛ, partners -> Aes, TypeId -> ό, maxLen -> ϗ, Calls -> ύ
open Go.Conc renaming touchAt -> Aev, touch_of -> Aew, getElem?_append_cases -> Aex, touchAt_of -> Aey, scase -> Aez, served -> Ϭ, QuitsIn -> Ae1, rcase -> Ae2, recvd -> Ae3, parked -> Ae4, woken -> Ae5, getElem?_append_old -> Ae6, lt_size_of_getElem? -> Ae7, offersAt -> Ae8, offersAt_of_not_blocked -> Ae9, offersAt_parked_recv -> Afa, offersAt_parked_send' -> Afb, offersAt_parked_recv' -> Afc, offersAt_parked_send -> Afd, getElem?_stand -> Afe, offersAt_ph -> Aff, partners_nil -> Afg, crowd -> Afh, crowd_waits -> Afi, stepG_same -> Afj
open Go.Fence renaming wide -> Afk
open Go.Instr renaming index -> Afl
open Go.IntKind renaming i64 -> Ϛ
open Go.Lib renaming compact -> Afm
open Go.MemAct renaming ofEvent -> Adl, touch? -> Afn
open Go.MemOp renaming ofEvents -> Afo
open Go.Obj renaming cells -> Ϧ
open Go.Proofs.Tryz renaming prog -> ϋ
open Go.RowKit renaming intOf -> ϯ, intOf -> ϙ
open Go.RowKit.Below renaming refl -> Ϗ, heap_setCell -> Afu
open Go.Sem renaming run_bind -> Afv, run_pure -> Afw
open Go.Trace renaming g? -> Afx
open Go.Value renaming int -> ϝ
open Go.World renaming cell?_alloc_lt -> Afz, cell?_alloc_mark -> Af0
open List renaming mem_toArray -> Af1, mem_singleton -> Af2, mem_cons -> ϫ, not_mem_nil -> Λ, length_cons -> Af5, length_append -> Af6, length_singleton -> Af7, mem_append -> Af8, getElem?_eq_getElem -> Af9, getElem?_eq_some_iff -> ϱ, findIdx?_eq_some_iff_getElem -> Agb, findIdx?_eq_none_iff -> Agc, length_filter_le -> Agd, length_take_le -> Age, take_of_length_le -> Agf, mem_of_getElem? -> ϩ, drop_of_length_le -> Agh, take_succ_cons -> Agi, take_zero -> Agj, drop_succ_cons -> Agk, drop_zero -> Agl, range -> ϸ, size_toArray -> Agn, length_nil -> Ago, push_toArray -> Agp, append_toArray -> Agq, nil_append -> Agr, cons_append -> Ags, flatMap_append -> Agt
open Nat renaming lt_of_lt_of_le -> Ϡ, le_refl -> ϊ, le_trans -> Ϥ, zero_le -> ϡ, lt_succ_iff_lt_or_eq -> Agv, le_of_eq -> Agw, mul_one -> Agx, lt_of_le_of_lt -> Agy, le_of_lt -> Agz, reduceAdd -> Ag0, reduceSub -> Ag1
open Ne renaming symm -> Ag2
open Option renaming map_some -> Ag3, map_eq_some_iff -> Aef
open Option.some renaming inj -> ϟ
open Bool renaming true -> θ, false -> χ
open Go renaming Value -> υ, undef -> ω, World -> Ψ
open Go.Ending renaming returned -> Ω
open Go.IntKind renaming i64 -> κ
open Go.Lib renaming hid -> ψ
open Go.RowKit renaming Below -> Γ, Below -> Γ
open Go.Value renaming slice -> ζ, pointer -> π, tuple -> μ, agg -> η, int -> ξ
open Option renaming some -> φ, none -> ν
noncomputable section
namespace Go.Sim
open Go Go.Conc
def rh(l:Loc)(b:Nat):Prop:=l=.obj b\/∃c:Addr,l=.cell c/\c.block=b
structure lH where
 M:aaa
 g:ώ
 w:Ψ
structure WT(cL cN:Nat)(w:Ψ)(t:ϭ)(act:Nat->Option lH):Prop where
 keep:∀g j,act g=φ j->bN j.M j.w w
 mq:∀g g' j j',g≠g'->act g=φ j->act g'=φ j'->∀b,j.M.O b->¬j'.M.has b
 low:∀g j,act g=φ j->∀b,j.M.has b->b<w.heap.size/\b≠cL/\b≠cN
 tl:∀op∈t,op.act.low w.heap.size
 nd:oS t
 clean:∀said,¬Race said t
 perm:∀g j,act g=φ j->∀k a,Aev t k=φ a->∀b,rh a.loc b->(j.M.O b\/(j.M.R b/\a.write=θ))->Knows t g k
 hL:cL<w.heap.size
 hN:cN<w.heap.size
def eW(act:Nat->Option lH)(g:Nat)(x:Option lH):Nat->Option lH:=λi=>if i=g then x else act i
def fE(act:Nat->Option lH)(g:Nat)(x:Option lH):eW act g x g=x:=by simp[eW]
def bP(act:Nat->Option lH){g i:Nat}(x:Option lH)(h:i≠g):eW act g x i=act i:=by simp[eW,h]
def P9{M:aaa}{e:Event}(h:wK M e){x:Touch}(hx:(Adl e).touch? =φ x):∃b,rh x.loc b/\M.has b/\(x.write=θ->M.O b)/\x.kind=.plain:=by
 obtain⟨loc,wr,sy⟩:=e;rcases h with⟨b,e1,e2,e3,e4⟩ |e1| ⟨f,e1⟩
 ·simp only at e1 e2 e4
  subst e2;rcases e1 with e1| ⟨c,e1,e5⟩
  ·subst e1
   cases wr<;>(simp[Adl,Afn] at hx;subst hx)
   ·exact⟨b,.inl rfl,e3,by simp,rfl⟩
   ·exact⟨b,.inl rfl,e3,λ_=>e4 rfl,rfl⟩
  ·subst e1
   cases wr<;>(simp[Adl,Afn] at hx;subst hx)
   ·exact⟨b,.inr ⟨c,rfl,e5⟩,e3,by simp,rfl⟩
   ·exact⟨b,.inr ⟨c,rfl,e5⟩,e3,λ_=>e4 rfl,rfl⟩
 ·simp only at e1
  subst e1;cases wr<;>cases sy<;>simp[Adl,Afn] at hx
 ·simp only at e1
  subst e1;cases wr<;>cases sy<;>simp[Adl,Afn] at hx
def OP{l:Loc}{b b':Nat}(h:rh l b)(k:rh l b'):b=b':=by
 rcases h with h| ⟨c,h,e⟩<;>rcases k with k| ⟨c',k,e'⟩
 ·rw[h] at k;exact Loc.obj.inj k
 ·rw[h] at k;cases k
 ·rw[h] at k;cases k
 ·rw[h] at k;cases k;exact e.symm.trans e'
def Qa{t:ϭ}{B:Nat}(h:∀op∈t,op.act.low B){k:Nat}{a:Touch}(ha:Aev t k=φ a){b:Nat}(hb:rh a.loc b):b<B:=by
 obtain⟨op,ab,cB⟩:=Aew ha;have hl:=h op (mem_of_getElem? ab);obtain⟨g,fn,pos,act⟩:=op;simp only at cB hl;cases act with
 |access e=>
  simp only[Afn,Option.some.injEq] at cB;subst cB;rcases hb with hb| ⟨c,hb,e5⟩
  ·simp only at hb;rw[MemAct.low,hb] at hl;exact hl
  ·simp only at hb;rw[MemAct.low,hb] at hl;rw[<-e5];exact hl
 |mark m=>
  cases m<;>simp[Afn] at cB
  ·subst cB
   rcases hb with hb| ⟨c,hb,e5⟩
   ·cases hb
   ·simp only[Loc.cell.injEq] at hb;subst hb;rw[<-e5];exact hl
  ·subst cB
   rcases hb with hb| ⟨c,hb,e5⟩
   ·cases hb
   ·simp only[Loc.cell.injEq] at hb;subst hb;rw[<-e5];exact hl
 |_=>simp[Afn] at cB
section
variable {cL cN:Nat}{w:Ψ}{t:ϭ}{act:Nat->Option lH}
def WT.at(h:WT cL cN w t act)(d:Nat):WT cL cN (w.at d) t act:=
 ⟨λg j e=>(h.keep g j e).trans (yy _ _ _),h.mq,h.low,h.tl,h.nd,h.clean,h.perm,h.hL,h.hN⟩
def WT.own(h:WT cL cN w t act){g:Nat}{j:lH}(hg:act g=φ j){x:ώ}{w':Ψ}{es:Array Event}(hd:eO j.M w w' es)(fn:FuncId)(pos:String):
 WT cL cN w' (t++Afo g fn pos es) (eW act g (φ ⟨j.M.grow w w',x,w'⟩)):=by
 have UM:∀b,(j.M.grow w w').has b->b<w'.heap.size/\b≠cL/\b≠cN:=by
  intro b hb;have old:j.M.has b->b<w'.heap.size/\b≠cL/\b≠cN:=λhb=>by
   have:=h.low g j hg b hb;exact⟨Ϡ this.1 hd.size,this.2⟩
  rcases hb with(hb|hb) |hb
  ·exact old (.inl hb)
  ·have:=h.hL;have:=h.hN
   exact⟨hb.2,by omega,by omega⟩
  ·exact old (.inr hb)
 have IB:∀op∈Afo g fn pos es,∃e∈es,op={g,fn,pos,act:=.ofEvent e}:=λop ab=>Go.Conc.mem_ofEvents ab
 have split:∀ {k a},Aev (t++Afo g fn pos es) k=φ a->(k<t.size/\Aev t k=φ a)\/∃e∈es,∃b,rh a.loc b/\(j.M.grow w w').has b/\(a.write=θ->(j.M.grow w w').O b)/\Knows (t++Afo g fn pos es) g k:=by
  intro k a ha;obtain⟨op,ab,cB⟩:=Aew ha;rcases Aex ab with⟨hi,bG⟩ | ⟨_,dN⟩
  ·exact .inl ⟨hi,by rw[Aey bG];exact cB⟩
  ·obtain⟨e,he,rfl⟩:=IB op dN
   obtain⟨b,b1,b2,b3,_⟩:=P9 (hd.ev e he) cB;exact .inr ⟨e,he,b,b1,b2,b3,knows_own ab⟩
 refine⟨λi ji hi=>?_,λi i' ji Ox aw hi bu b hb eH=>?_,λi ji hi b hb=>?_,λop ab=>?_,h.nd.app (O4 hd.ev),λsaid=>?_,λi ji hi k a ha b hb hc=>?_,Ϡ h.hL hd.size,Ϡ h.hN hd.size⟩
 ·by_cases mz:i=g
  ·subst mz
   rw[fE] at hi;cases hi;exact bN.refl _ _
  ·rw[bP _ _ mz] at hi
   refine(h.keep i ji hi).trans ⟨hd.size,λb hb=>hd.kept b (h.low i ji hi b hb).1 λhO=>h.mq g i j ji (Ag2 mz) hg hi b hO hb,hd.tape,hd.os,hd.e⟩
 ·by_cases mz:i=g
  ·subst mz
   rw[fE] at hi;cases hi;rw[bP _ _ (Ag2 aw)] at bu;rcases hb with hb|hb
   ·exact h.mq i i' j Ox aw hg bu b hb eH
   ·have:=(h.low i' Ox bu b eH).1;omega
  ·rw[bP _ _ mz] at hi
   by_cases Ur:i'=g
   ·subst Ur
    rw[fE] at bu;cases bu;rcases eH with(eH|eH) |eH
    ·exact h.mq i i' ji j aw hi hg b hb (.inl eH)
    ·have:=(h.low i ji hi b (.inl hb)).1;omega
    ·exact h.mq i i' ji j aw hi hg b hb (.inr eH)
   ·rw[bP _ _ Ur] at bu
    exact h.mq i i' ji Ox aw hi bu b hb eH
 ·by_cases mz:i=g
  ·subst mz
   rw[fE] at hi;cases hi;exact UM b hb
  ·rw[bP _ _ mz] at hi
   have:=h.low i ji hi b hb;exact⟨Ϡ this.1 hd.size,this.2⟩
 ·rcases Array.mem_append.1 ab with ab|ab
  ·exact MemAct.low_mono hd.size (h.tl op ab)
  ·obtain⟨e,he,rfl⟩:=IB op ab
   exact(L9 (B:=w'.heap.size) (hd.ev e he) λb hb=>(UM b hb).1).2.2.2
 ·refine noRace_append (h.clean said) (λop ab=>by obtain⟨e,_,rfl⟩:=IB op ab;rfl) λk a ha op ab b hb hc=>?_
  obtain⟨e,he,rfl⟩:=IB op ab;obtain⟨c,c1,c2,c3,c4⟩:=P9 (hd.ev e he) hb;have ca:rh a.loc c:=by rw[hc.1];exact c1
  have al:=Qa h.tl ha ca;by_cases cF:b.write=θ
  ·rcases c3 cF with hO|hO
   ·exact h.perm g j hg k a ha c ca (.inl hO)
   ·omega
  ·have tz:a.write=θ:=hc.2.2.1.resolve_right cF
   rcases c2 with(hO|hO) |hR
   ·exact h.perm g j hg k a ha c ca (.inl hO)
   ·omega
   ·exact h.perm g j hg k a ha c ca (.inr ⟨hR,tz⟩)
 ·by_cases mz:i=g
  ·subst mz
   rw[fE] at hi;cases hi;rcases split ha with⟨_,uZ⟩ | ⟨e,he,c,c1,c2,c3,c4⟩
   ·have al:=Qa h.tl uZ hb
    refine(h.perm i j hg k a uZ b hb ?_).app _
    rcases hc with(hc|hc) |hc
    ·exact .inl hc
    ·omega
    ·exact .inr hc
   ·exact c4
  ·rw[bP _ _ mz] at hi
   rcases split ha with⟨_,uZ⟩ | ⟨e,he,c,c1,c2,c3,c4⟩
   ·exact(h.perm i ji hi k a uZ b hb hc).app _
   ·exfalso
    obtain rfl:=OP hb c1;have pb:=h.low i ji hi b (hc.imp id (·.1))
    rcases hc with hc| ⟨hc,tz⟩
    ·rcases c2 with(c2|c2) |c2
     ·exact h.mq i g ji j mz hi hg b hc (.inl c2)
     ·omega
     ·exact h.mq i g ji j mz hi hg b hc (.inr c2)
    ·rcases c3 tz with c3|c3
     ·exact h.mq g i j ji (Ag2 mz) hg hi b c3 (.inr hc)
     ·omega
def WT.mute(h:WT cL cN w t act){u:ϭ}(hu:∀op∈u,op.act.touch? =ν/\op.act.low w.heap.size/\op.act≠ .mark .disable/\op.act≠ .mark .enable){w':Ψ}(hs:w'.heap.size=w.heap.size)
 (hk:∀b,b≠cL->b≠cN->w'.heap[b]?=w.heap[b]?)(ht:w'.tape=w.tape)(ho:w'.os=w.os)(hp:w'.output=w.output):WT cL cN w' (t++u) act:=by
 have old:∀ {k a},Aev (t++u) k=φ a->Aev t k=φ a:=by
  intro k a ha;obtain⟨op,ab,cB⟩:=Aew ha;rcases Aex ab with⟨_,bG⟩ | ⟨_,dN⟩
  ·rw[Aey bG];exact cB
  ·rw[(hu op dN).1] at cB;cases cB
 refine⟨λg j e=>(h.keep g j e).trans ⟨by rw[hs];exact ϊ _,λb hb=>hk b (h.low g j e b hb).2.1 (h.low g j e b hb).2.2,ht,ho,hp⟩,h.mq,λg j e b hb=>by rw[hs];exact h.low g j e b hb,λop ab=>?_,h.nd.app λop ab=>(hu op ab).2.2,λsaid=>?_,λg j e k a ha b hb hc=>(h.perm g j e k a (old ha) b hb hc).app u,by rw[hs];exact h.hL,by rw[hs];exact h.hN⟩
 ·rw[hs]
  rcases Array.mem_append.1 ab with ab|ab
  ·exact h.tl op ab
  ·exact(hu op ab).2.1
 ·
  have key:∀(l:List MemOp) (s:ϭ),(∀op∈l,op.act.touch? =ν)->¬Race said s->¬Race said (s++l.toArray):=by
   intro l;induction l with
   |nil=>intro s _ hr;simpa using hr
   |cons x l ih=>
    intro s hl hr;have e:s++(x::l).toArray=(s++#[x])++l.toArray:=by apply Array.ext';simp
    rw[e];refine ih _ (λop ab=>hl op (by simp[ab])) (noRace_append (g:=x.g) hr (by simp) λk a ha op ab b hb hc=>?_)
    simp only[Af1,Af2] at ab;subst ab;rw[hl op (by simp)] at hb
    cases hb
  have:=key u.toList t (λop ab=>(hu op (by simpa using ab)).1) (h.clean said)
  simpa using this
def WT.drop(h:WT cL cN w t act)(g:Nat):WT cL cN w t (eW act g ν):=by
 have back:∀ {i j},eW act g ν i=φ j->act i=φ j:=by
  intro i j hi;by_cases e:i=g
  ·subst e;rw[fE] at hi;cases hi
  ·rwa[bP _ _ e] at hi
 exact⟨λi j e=>h.keep i j (back e),λi i' j j' aw e e'=>h.mq i i' j j' aw (back e) (back e'),λi j e=>h.low i j (back e),h.tl,h.nd,h.clean,λi j e=>h.perm i j (back e),h.hL,h.hN⟩
def WT.again(h:WT cL cN w t act){g:Nat}{j:lH}(hg:act g=φ j)(x:ώ):WT cL cN w t (eW act g (φ ⟨j.M,x,w⟩)):=by
 have back:∀ {i j'},eW act g (φ ⟨j.M,x,w⟩) i=φ j'->∃VK,act i=φ VK/\j'.M=VK.M:=by
  intro i j' hi;by_cases e:i=g
  ·subst e;rw[fE] at hi;cases hi;exact⟨j,hg,rfl⟩
  ·rw[bP _ _ e] at hi;exact⟨j',hi,rfl⟩
 refine⟨λi j' hi=>?_,λi i' j1 j2 aw e e'=>?_,λi j' hi=>?_,h.tl,h.nd,h.clean,λi j' hi=>?_,h.hL,h.hN⟩
 ·by_cases e:i=g
  ·subst e;rw[fE] at hi;cases hi;exact bN.refl _ _
  ·rw[bP _ _ e] at hi;exact h.keep i j' hi
 ·obtain⟨a,a1,a2⟩:=back e
  obtain⟨b,b1,b2⟩:=back e';rw[a2,b2];exact h.mq i i' a b aw a1 b1
 ·obtain⟨a,a1,a2⟩:=back hi
  rw[a2];exact h.low i a a1
 ·obtain⟨a,a1,a2⟩:=back hi
  rw[a2];exact h.perm i a a1
def aaa.shared(M:aaa):aaa:=⟨λ_=>False,M.has⟩
def WT.spawn(h:WT cL cN w t act){j:lH}(h0:act 0=φ j){c:Nat}(hc:act c=ν)(ic:c≠0){x y:MemOp}(hx:x.g=0/\x.act=.go c)(hy:y.g=c/\y.act=.start)(g' child:ώ):
 WT cL cN w (t++#[x,y]) (eW (eW act 0 (φ ⟨j.M.shared,g',w⟩)) c (φ ⟨j.M.shared,child,w⟩)):=by
 have hm:=h.mute (u:=#[x,y]) (w':=w) (λop ab=>by
  simp only[Af1,ϫ,Λ,or_false] at ab;rcases ab with rfl|rfl
  ·rw[hx.2];exact⟨rfl,trivial,by simp,by simp⟩
  ·rw[hy.2];exact⟨rfl,trivial,by simp,by simp⟩) rfl (λ_ _ _=>rfl) rfl rfl rfl
 have back:∀ {i j'},eW (eW act 0 (φ ⟨j.M.shared,g',w⟩)) c (φ ⟨j.M.shared,child,w⟩) i=φ j'->((i=0\/i=c)/\j'.M=j.M.shared/\j'.w=w)\/(i≠0/\i≠c/\act i=φ j'):=by
  intro i j' hi;by_cases e:i=c
  ·subst e;rw[fE] at hi;cases hi;exact .inl ⟨.inr rfl,rfl,rfl⟩
  ·rw[bP _ _ e] at hi
   by_cases e0:i=0
   ·subst e0;rw[fE] at hi;cases hi;exact .inl ⟨.inl rfl,rfl,rfl⟩
   ·rw[bP _ _ e0] at hi;exact .inr ⟨e0,e,hi⟩
 have old:∀ {k a},Aev (t++#[x,y]) k=φ a->Aev t k=φ a:=by
  intro k a ha;obtain⟨op,ab,cB⟩:=Aew ha;rcases Aex ab with⟨_,bG⟩ | ⟨_,dN⟩
  ·rw[Aey bG];exact cB
  ·simp only[Af1,ϫ,Λ,or_false] at dN
   rcases dN with rfl|rfl
   ·rw[hx.2] at cB;cases cB
   ·rw[hy.2] at cB;cases cB
 refine⟨λi j' hi=>?_,λi i' j1 j2 aw e e' b hb eH=>?_,λi j' hi b hb=>?_,hm.tl,hm.nd,hm.clean,λi j' hi k a ha b hb tA=>?_,h.hL,h.hN⟩
 ·rcases back hi with⟨_,a2,a3⟩ | ⟨_,_,a3⟩
  ·rw[a2,a3];exact bN.refl _ _
  ·exact h.keep i j' a3
 ·rcases back e with⟨_,a2,_⟩ | ⟨a1,_,a3⟩
  ·rw[a2] at hb;exact hb.elim
  ·rcases back e' with⟨_,b2,_⟩ | ⟨_,_,b3⟩
   ·rw[b2] at eH
    exact h.mq i 0 j1 j a1 a3 h0 b hb (eH.resolve_left id)
   ·exact h.mq i i' j1 j2 aw a3 b3 b hb eH
 ·rcases back hi with⟨_,a2,_⟩ | ⟨_,_,a3⟩
  ·rw[a2] at hb;exact h.low 0 j h0 b (hb.resolve_left id)
  ·exact h.low i j' a3 b hb
 ·rcases back hi with⟨a1,a2,_⟩ | ⟨_,_,a3⟩
  ·rw[a2] at tA
   rcases tA with tA| ⟨tA,tz⟩
   ·exact tA.elim
   ·have hk:Knows t 0 k:=by
      rcases tA with hO|hR
      ·exact h.perm 0 j h0 k a (old ha) b hb (.inl hO)
      ·exact h.perm 0 j h0 k a (old ha) b hb (.inr ⟨hR,tz⟩)
    rcases a1 with rfl|rfl
    ·exact hk.app _
    ·exact Go.ConcN.fork_knows hx hy (EG h.nd 0) (EG h.nd _) hk
  ·exact(h.perm i j' a3 k a (old ha) b hb tA).app _
end
def sU(t:ϭ)(g h:Nat):Prop:=∀k a,Aev t k=φ a-> t.g? k=φ g->Knows t h k
def sU.app{t u:ϭ}{g h:Nat}(k:sU t g h)(hu:∀op∈u,op.g=g-> op.act.touch? =ν):sU (t++u) g h:=by
 intro i a ha hg;obtain⟨op,ab,cB⟩:=Aew ha;rcases Aex ab with⟨hi,bG⟩ | ⟨_,dN⟩
 ·refine(k i a (by rw[Aey bG];exact cB) ?_).app u
  simpa [Afx,ab,bG] using hg
 ·have e:op.g=g:=by simpa [Afx,ab] using hg
  rw[hu op dN e] at cB;cases cB
def sU.self(t:ϭ)(g:Nat):sU t g g:=by
 intro i a ha hg;obtain⟨op,ab,_⟩:=Aew ha;have e:op.g=g:=by simpa [Afx,ab] using hg
 have:=knows_own ab;rwa[e] at this
def adX{t:ϭ}(hn:oS t){a b c s r cap:Nat}{x1 x2 x3 x4:MemOp}(h1:x1.g=a/\x1.act=.send c s)(h2:x2.g=b/\x2.act=.recv c r cap)(h3:x3.g=a/\x3.act=.sendDone c s)(h4:x4.g=b/\x4.act=.recvDone c s)
 {k:Nat}(h:Knows t a k):Knows (t++#[x1,x2,x3,x4]) b k:=by
 have e1:(t++#[x1,x2,x3,x4])[t.size]?=φ x1:=by rw[Ael (ϊ _)];simp
 have e4:(t++#[x1,x2,x3,x4])[t.size+3]?=φ x4:=by rw[Ael (by omega)];simp
 have US:oS (t++#[x1,x2,x3,x4]):=hn.app λop ab=>by
  simp only[Af1,ϫ,Λ,or_false] at ab;rcases ab with rfl|rfl|rfl|rfl
  ·rw[h1.2];simp
  ·rw[h2.2];simp
  ·rw[h3.2];simp
  ·rw[h4.2];simp
 have q1:HappensBefore (t++#[x1,x2,x3,x4]) k t.size:=h.hb_new (ϊ _) e1 h1.1;exact⟨t.size+3,x4,e4,h4.1,.inr (q1.trans (.single (.inr ⟨.handOver (c:=c) (k:=s) (by rw[act?_of e1,h1.2]) (by rw[act?_of e4,h4.2]),IA US e1,IA US e4⟩)))⟩
end Go.Sim
namespace Go.Sim
open Go Go.Conc
open Go.ConcN (sumTo upd sumTo_upd upd_ne upd_same sumTo_congr)
inductive Tree:Type
 |leaf:Tree
 |node (f:Ψ->Tree):Tree
def Tree.lt(a b:Tree):Prop:=∃f w,b=.node f/\a=f w
def Tree.acc(a:Tree):Acc Tree.lt a:=by
 induction a with
 |leaf=>exact⟨_,λy ⟨f,w,e,_⟩=>by cases e⟩
 |node f ih=>exact⟨_,λy ⟨f',w,e,e'⟩=>by cases e;rw[e'];exact ih w⟩
def zy(n:Nat)(f' f:Nat->Tree):Prop:=∃i,i<n/\Tree.lt (f' i) (f i)/\∀j,j≠i->f' j=f j
def Xv(n:Nat):∀f:Nat->Tree,Acc (zy n) f:=by
 induction n with
 |zero=>exactλf=>⟨_,λy ⟨i,hi,_⟩=>by omega⟩
 |succ n ih=>
  have key:∀x:Tree,Acc Tree.lt x->∀f:Nat->Tree,f n=x->Acc (zy (n+1)) f:=by
   intro x hx;induction hx with
   |intro x _ ihx=>
    intro f hf;have inner:∀f:Nat->Tree,Acc (zy n) f->f n=x->Acc (zy (n+1)) f:=by
     intro f ha;induction ha with
     |intro f _ ihf=>
      intro hf;refine⟨_,λf' ⟨i,hi,al,ho⟩=>?_⟩
      by_cases dL:i=n
      ·subst dL
       exact ihx (f' i) (by rw[<-hf];exact al) f' rfl
      ·exact ihf f' ⟨i,by omega,al,ho⟩ ((ho n (λe=>dL e.symm)).trans hf)
    exact inner f (ih f) hf
  exactλf=>key (f n) (Tree.acc _) f rfl
inductive sZ(P:ϑ)(main:Bool)(Stop:aaa->ώ->Ψ->Prop):Tree->aaa->ώ->Ψ->Prop
 |stop {T:Tree} {M:aaa} {g:ώ} {w:Ψ} (h:∀aa,bN M w aa->Stop M g aa):sZ P main Stop T M g w
 |step {f:Ψ->Tree} {M:aaa} {g:ώ} {w:Ψ} (run:g.status=.running) (nx:Ψ->ώ×Ψ×Array Event)
   (h:∀aa,bN M w aa->ϛ P main g aa=.go (nx aa).1 (nx aa).2.1 (nx aa).2.2/\eO M aa (nx aa).2.1 (nx aa).2.2)
   (hs:∀aa,bN M w aa->sZ P main Stop (f aa) (M.grow aa (nx aa).2.1) (nx aa).1 (nx aa).2.1):sZ P main Stop (.node f) M g w
def Walk.tree{P:ϑ}{main:Bool}{Stop:aaa->ώ->Ψ->Prop}{M:aaa}{g:ώ}{w:Ψ}(h:Walk P main Stop M g w):∃T,sZ P main Stop T M g w:=by
 induction h with
 |stop h=>exact⟨.leaf,.stop h⟩
 | @step M g w run nx h _ ih=>
   have ex:∀aa,∃T,bN M w aa->sZ P main Stop T (M.grow aa (nx aa).2.1) (nx aa).1 (nx aa).2.1:=by
    intro aa;by_cases k:bN M w aa
    ·obtain⟨T,hT⟩:=ih aa k;exact⟨T,λ_=>hT⟩
    ·exact⟨.leaf,λx=>absurd x k⟩
   exact⟨.node λaa=>Classical.choose (ex aa),.step run nx h λaa k=>Classical.choose_spec (ex aa) k⟩
def sZ.rv{P:ϑ}{main:Bool}{Stop:aaa->ώ->Ψ->Prop}{T:Tree}{M:aaa}{g:ώ}{w:Ψ}(h:sZ P main Stop T M g w):
 (∀aa,bN M w aa->Stop M g aa)\/(g.status=.running/\∀aa,bN M w aa->∃T' g' w' es,Tree.lt T' T/\ϛ P main g aa=.go g' w' es/\eO M aa w' es/\sZ P main Stop T' (M.grow aa w') g' w'):=by
 cases h with
 |stop h=>exact .inl h
 |step run nx h hs=>exact .inr ⟨run,λaa k=>⟨_,_,_,_,⟨_,aa,rfl,rfl⟩,(h aa k).1,(h aa k).2,hs aa k⟩⟩
structure Pm where
 P:ϑ
 n:Nat
 N0:Nat
 cL:Nat
 cN:Nat
 eU:Nat->Bool
 val:Nat->υ
 End:List Nat->aaa->ώ->Ψ->Prop
def FW(X:Pm)(c:Nat)(v:υ)(Next:aaa->ώ->Ψ->Prop)(M:aaa)(g:ώ)(w:Ψ):Prop:=
 g.status=.running/\g.offers=ν/\(∃z,ϛ X.P χ g w=.comm g #[Aez c v z] θ .send w #[])/\Next M (Ϭ g ω) w
def W2(X:Pm):aaa->ώ->Ψ->Prop:=FW X X.cL (.bool θ) (λ_ g _=>∃k,Ae1 X.P k g)
def W1(X:Pm)(i:Nat)(M:aaa)(g:ώ)(w:Ψ):Prop:=
 (X.eU i=θ/\FW X X.cN (X.val i) (λM g w=>Walk X.P χ (W2 X) M g w) M g w)\/(X.eU i=χ/\W2 X M g w)
def AtClose(X:Pm)(_:aaa)(g:ώ)(w:Ψ):Prop:=
 g.status=.running/\mayWake X.P g=θ/\∀s r,w.heap[X.cN]?=φ (.chan 0 #[] χ s r χ)->
  ∃cy k,ϛ X.P χ g w=.go cy (w.shut X.cN s r χ) #[⟨.obj X.cN,χ,θ⟩,⟨.obj X.cN,θ,θ⟩]/\Ae1 X.P k cy
def pW(X:Pm):Nat->aaa->ώ->Ψ->Prop
 |0=>AtClose X
 |r+1=>λM g w=>g.status=.running/\g.offers=ν/\(∃z,ϛ X.P χ g w=.comm g #[Ae2 X.cL z] θ (.recv χ) w #[])/\Walk X.P χ (pW X r) M (Ϭ g (Ae3 χ (.bool θ) θ)) w
def nj(X:Pm):Nat->List Nat->aaa->ώ->Ψ->Prop
 |0,az=>λM g w=>g.status=.running/\g.offers=ν/\∃z,ϛ X.P θ g w=.comm g #[Ae2 X.cN z] θ (.recv θ) w #[]/\X.End az M (Ϭ g (Ae3 θ z χ)) w
 |f+1,az=>λM g w=>g.status=.running/\g.offers=ν/\∃z,ϛ X.P θ g w=.comm g #[Ae2 X.cN z] θ (.recv θ) w #[]/\X.End az M (Ϭ g (Ae3 θ z χ)) w/\
   ∀i,i<X.n->X.eU i=θ->i ∉ az->Walk X.P θ (nj X f (az++ [i])) M (Ϭ g (Ae3 θ (X.val i) θ)) w
def nj.at{X:Pm}{f:Nat}{az:List Nat}{M:aaa}{g:ώ}{w:Ψ}(h:nj X f az M g w):g.status=.running/\g.offers=ν/\∃z,ϛ X.P θ g w=.comm g #[Ae2 X.cN z] θ (.recv θ) w #[]/\X.End az M (Ϭ g (Ae3 θ z χ)) w:=by
 cases f with
 |zero=>exact h
 |succ f=>obtain⟨a,b,z,c,d,_⟩:=h;exact⟨a,b,z,c,d⟩
def StopA(X:Pm):Nat->aaa->ώ->Ψ->Prop
 |0=>λM g w=>g.status=.running/\∃cy child,ϛ X.P θ g w=.spawn cy child w #[]/\cy.status=.running/\child.status=.running/\Walk X.P χ (pW X X.n) M.shared child w/\Walk X.P θ (nj X X.n []) M.shared cy w
 |r+1=>λM g w=>g.status=.running/\∃cy child,ϛ X.P θ g w=.spawn cy child w #[]/\cy.status=.running/\child.status=.running/\Walk X.P χ (W1 X (X.n - (r+1))) M.shared child w/\Walk X.P θ (StopA X r) M.shared cy w
inductive WS where
 |no|ku|iR|iz|iu|quit
 deriving DecidableEq
def WS.w:WS->Nat
 | .no=>6| .ku=>5| .iR=>4| .iz=>3| .iu=>2| .quit=>0
def WS.gD:WS->Bool
 | .iz| .iu| .quit=>θ
 |_=>χ
def WS.q(s:WS):Nat:=if s=.quit then 1 else 0
inductive MP where
 |spawn|walk(f:Nat)(az:List Nat) |db(f:Nat)(az:List Nat)
inductive CP where
 |no|walk(r:Nat) |db(r:Nat) |quit
def MP.w(n:Nat):MP->Nat
 | .spawn=>2 * n+3| .walk f _=>2 * f+2| .db f _=>2 * f+1
def CP.w(n:Nat):CP->Nat
 | .no=>2 * n+8| .walk r=>2 * r+5| .db r=>2 * r+4| .quit=>0
structure Gh where
 j:Nat
 st:Nat->WS
 mp:MP
 cp:CP
 act:Nat->Option lH
 q:Nat->Nat
 tr:Nat->Tree
def Gh.mu(X:Pm)(G:Gh):Nat:=G.mp.w X.n+G.cp.w X.n+sumTo X.n (λi=>(G.st i).w)
def pV(x y:ώ):Prop:=x.frame=y.frame/\x.callers=y.callers/\x.dying=y.dying/\x.status=.running
def fM(X:Pm)(G:Gh)(x:ώ):Prop:=
 match G.mp with
 | .spawn=>∃M aL,G.act 0=φ ⟨M,x,aL⟩/\x.status=.running/\sZ X.P θ (StopA X (X.n - G.j)) (G.tr 0) M x aL
 | .walk f az=>∃M aL y,G.act 0=φ ⟨M,y,aL⟩/\pV x y/\sZ X.P θ (nj X f az) (G.tr 0) M y aL
 | .db f az=>∃M aL y z,G.act 0=φ ⟨M,y,aL⟩/\x=Ae4 y #[Ae2 X.cN z] (.recv θ)/\∀aa,bN M aL aa->nj X f az M y aa
def WSit(X:Pm)(G:Gh)(i:Nat)(x:ώ):Prop:=
 match G.st i with
 | .no=>False
 | .ku=>∃M aL,G.act (X.N0+i)=φ ⟨M,x,aL⟩/\x.status=.running/\sZ X.P χ (W1 X i) (G.tr (X.N0+i)) M x aL
 | .iR=>∃M aL y z,G.act (X.N0+i)=φ ⟨M,y,aL⟩/\x=Ae4 y #[Aez X.cN (X.val i) z] .send/\X.eU i=θ/\Walk X.P χ (W2 X) M (Ϭ y ω) aL
 | .iz=>∃M aL,G.act (X.N0+i)=φ ⟨M,x,aL⟩/\x.status=.running/\sZ X.P χ (W2 X) (G.tr (X.N0+i)) M x aL
 | .iu=>∃M aL y z,G.act (X.N0+i)=φ ⟨M,y,aL⟩/\x=Ae4 y #[Aez X.cL (.bool θ) z] .send/\∃k,Ae1 X.P k (Ϭ y ω)
 | .quit=>G.act (X.N0+i)=ν/\Ae1 X.P (G.q (X.N0+i)) x
def CSit(X:Pm)(G:Gh)(x:ώ):Prop:=
 match G.cp with
 | .no=>False
 | .walk r=>∃M aL,G.act (X.N0+X.n)=φ ⟨M,x,aL⟩/\x.status=.running/\sZ X.P χ (pW X r) (G.tr (X.N0+X.n)) M x aL
 | .db r=>∃r' M aL y z,r=r'+1/\G.act (X.N0+X.n)=φ ⟨M,y,aL⟩/\x=Ae4 y #[Ae2 X.cL z] (.recv χ)/\Walk X.P χ (pW X r') M (Ϭ y (Ae3 χ (.bool θ) θ)) aL
 | .quit=>G.act (X.N0+X.n)=ν/\Ae1 X.P (G.q (X.N0+X.n)) x
def Gh.closed(G:Gh):Bool:=match G.cp with
 | .quit=>θ
 |_=>χ
def CP.gC:CP->Bool
 | .no=>θ
 |_=>χ
def mY(X:Pm)(G:Gh):Prop:=
 match G.cp with
 | .no=>sumTo X.n (λi=>(G.st i).q)=0
 | .walk r| .db r=>r+sumTo X.n (λi=>(G.st i).q)=X.n
 | .quit=>sumTo X.n (λi=>(G.st i).q)=X.n
def sn(X:Pm)(G:Gh):Prop:=
 match G.mp with
 | .spawn=>∀i,i<X.n->X.eU i=θ->(G.st i).gD=χ
 | .walk f az| .db f az=>az.Nodup/\f+az.length=X.n/\∀i,i∈az↔(i<X.n/\X.eU i=θ/\(G.st i).gD=θ)
structure Base(wb w:Ψ):Prop where
 size:wb.heap.size<=w.heap.size
 tape:w.tape=wb.tape
 os:w.os=wb.os
 e:w.output=wb.output
structure FI(X:Pm)(wb:Ψ)(gs:Array ώ)(w:Ψ)(t:ϭ)(G:Gh):Prop where
 size:gs.size=X.N0+G.j+(if G.cp.gC then 0 else 1)
 n0:0<X.N0
 jn:G.j<=X.n
 jc:G.cp.gC=χ->G.j=X.n
 mc:(∃f az,G.mp=.walk f az\/G.mp=.db f az)↔G.cp.gC=χ
 uh:∀i,i<X.n->(G.st i=.no↔G.j<=i)
 main:∃x,gs[0]?=φ x/\fM X G x
 wk:∀i,i<G.j->∃x,gs[X.N0+i]?=φ x/\WSit X G i x
 cl:G.cp.gC=χ->∃x,gs[X.N0+X.n]?=φ x/\CSit X G x
 old:∀g x,0<g->g<X.N0->gs[g]?=φ x->Ae1 X.P (G.q g) x
 nN:∀g,0<g->g<X.N0->G.act g=ν
 mw:∀g,gs.size<=g->G.act g=ν
 cnt:mY X G
 az:sn X G
 mL:(∃f az,G.mp=.db f az)->∀i,i<X.n->G.st i≠ .iR
 vN:(∃r,G.cp=.db r)->∀i,i<X.n->G.st i≠ .iu
 yJ:(∃f az,G.mp=.db f az)->G.closed=χ
 wt:WT X.cL X.cN w t G.act
 kU:∃s,w.heap[X.cL]?=φ (.chan 0 #[] χ s s χ)
 kV:∃s,w.heap[X.cN]?=φ (.chan 0 #[] G.closed s s χ)
 neq:X.cL≠X.cN
 base:Base wb w
 vP:∀k a,Aev t k=φ a->a.loc.isMemory=θ->∀g,t.g? k=φ g->g<X.N0->Knows t 0 k
 tj:∀k g,t.g? k=φ g->g<gs.size
 kq:∀i,i<X.n->G.st i=.quit->sU t (X.N0+i) (X.N0+X.n)
 yI:G.closed=χ->∀k a,Aev t k=φ a->a.loc≠ .obj X.cN
 CN:G.closed=θ->∃c z,t[c]?=φ z/\z.act=.close X.cN/\z.g=X.N0+X.n/\∀k a,Aev t k=φ a->∀g,t.g? k=φ g->X.N0<=g->Before t k c
end Go.Sim
namespace Go.Sim
open Go Go.Conc
open Go.ConcN (sumTo upd sumTo_upd upd_ne upd_same sumTo_congr)
def XF(st:Nat->WS):∀n,sumTo n (λi=>(st i).q)<=n
 |0=>ϊ _
 |n+1=>by
  have:=XF st n;simp only[sumTo];have:(st n).q<=1:=by unfold WS.q;split<;>omega
  omega
def P6(st:Nat->WS):∀n,sumTo n (λi=>(st i).q)=n->∀i,i<n->st i=.quit
 |0,_,i,hi=>by omega
 |n+1,h,i,hi=>by
  have h1:=XF st n;have h2:(st n).q<=1:=by unfold WS.q;split<;>omega
  simp only[sumTo] at h;by_cases e:i=n
  ·subst e
   have:(st i).q=1:=by omega
   unfold WS.q at this;split at this
   ·assumption
   ·omega
  ·exact P6 st n (by omega) i (by omega)
def al2(st:Nat->WS)(n:Nat)(h:sumTo n (λi=>(st i).q)<n):∃i,i<n/\st i≠ .quit:=by
 apply Aa5;intro hn;have nO:∀i,i<n->st i=.quit:=λi hi=>Aa5 λhq=>hn ⟨i,hi,hq⟩
 have:sumTo n (λi=>(st i).q)=n:=by
  have key:∀m,m<=n->sumTo m (λi=>(st i).q)=m:=by
   intro m;induction m with
   |zero=>intro _;rfl
   |succ m ih=>
    intro hm;simp only[sumTo];rw[ih (by omega),nO m (by omega)]
    simp[WS.q]
  exact key n (ϊ _)
 omega
section
variable {X:Pm}{wb:Ψ}{gs:Array ώ}{w:Ψ}{t:ϭ}{G:Gh}
def CP.aaP{G:Gh}(h:G.closed=θ):G.cp.gC=χ:=by
 unfold Gh.closed at h;unfold CP.gC;cases hc:G.cp<;>rw[hc] at h<;>simp_all
def FI.Gk(h:FI X wb gs w t G)(hc:G.closed=θ):∀i,i<X.n->G.st i=.quit:=by
 have hq:=h.cnt;unfold mY at hq;unfold Gh.closed at hc;cases e:G.cp with
 |quit=>rw[e] at hq;exact P6 _ _ hq
 |_=>rw[e] at hc;cases hc
def FI.sI(h:FI X wb gs w t G){k:Nat}(hk:k<gs.size):k=0\/(0<k/\k<X.N0)\/(∃i,i<G.j/\k=X.N0+i)\/(k=X.N0+X.n/\G.cp.gC=χ):=by
 have hs:=h.size;by_cases h0:k=0
 ·exact .inl h0
 by_cases h1:k<X.N0
 ·exact .inr (.inl ⟨by omega,h1⟩)
 by_cases h2:k<X.N0+G.j
 ·exact .inr (.inr (.inl ⟨k - X.N0,by omega,by omega⟩))
 ·right;right;right
  by_cases hc:G.cp.gC=θ
  ·rw[hc] at hs;simp at hs;omega
  ·have hc:G.cp.gC=χ:=by simpa using hc
   rw[hc] at hs;have:=h.jc hc;simp at hs;exact⟨by omega,hc⟩
def FI.afc(h:FI X wb gs w t G){i:Nat}(hi:i<X.n)(hs:G.st i≠ .no):i<G.j:=by
 apply Aa5;intro hn;exact hs ((h.uh i hi).2 (by omega))
def FI.kinds(h:FI X wb gs w t G){k:Nat}{y:ώ}(hy:gs[k]?=φ y):
 y.status=.running\/(∃n,Ae1 X.P n y)\/(∃g z,G.closed=χ/\y=Ae4 g #[Ae2 X.cN z] (.recv θ))\/(∃g z,y=Ae4 g #[Ae2 X.cL z] (.recv χ))\/
  (∃g v z,k≠0/\G.closed=χ/\y=Ae4 g #[Aez X.cN v z] .send)\/∃g v z,k≠0/\y=Ae4 g #[Aez X.cL v z] .send:=by
 rcases h.sI (Ϟ.1 hy).1 with rfl| ⟨h1,h2⟩ | ⟨i,hi,rfl⟩ | ⟨rfl,hc⟩
 ·obtain⟨x,hx,hs⟩:=h.main
  rw[hy] at hx;obtain rfl:=ϟ hx;unfold fM at hs;cases e:G.mp with
  |spawn=>rw[e] at hs;obtain⟨M,aL,_,hr,_⟩:=hs;exact .inl hr
  |walk f az=>rw[e] at hs;obtain⟨M,aL,y',_,hr,_⟩:=hs;exact .inl hr.2.2.2
  |db f az=>rw[e] at hs;obtain⟨M,aL,y',z,_,hr,_⟩:=hs;exact .inr (.inr (.inl ⟨y',z,h.yJ ⟨f,az,e⟩,hr⟩))
 ·exact .inr (.inl ⟨_,h.old k y h1 h2 hy⟩)
 ·obtain⟨x,hx,hs⟩:=h.wk i hi
  rw[hy] at hx;obtain rfl:=ϟ hx;have iM:X.N0+i≠0:=by have:=h.n0;omega
  have eL:∀s,G.st i=s->s≠ .quit->G.closed=χ:=by
   intro s e hs;apply Aa5;intro hc;have:=h.Gk (by simpa using hc) i (by have:=h.jn;omega)
   exact hs (e.symm.trans this)
  unfold WSit at hs;cases e:G.st i with
  |no=>rw[e] at hs;exact hs.elim
  |ku=>rw[e] at hs;obtain⟨M,aL,_,hr,_⟩:=hs;exact .inl hr
  |iR=>rw[e] at hs;obtain⟨M,aL,y',z,_,hr,_⟩:=hs;exact .inr (.inr (.inr (.inr (.inl ⟨y',_,z,iM,eL _ e (by simp),hr⟩))))
  |iz=>rw[e] at hs;obtain⟨M,aL,_,hr,_⟩:=hs;exact .inl hr
  |iu=>rw[e] at hs;obtain⟨M,aL,y',z,_,hr,_⟩:=hs;exact .inr (.inr (.inr (.inr (.inr ⟨y',_,z,iM,hr⟩))))
  |quit=>rw[e] at hs;exact .inr (.inl ⟨_,hs.2⟩)
 ·obtain⟨x,hx,hs⟩:=h.cl hc
  rw[hy] at hx;obtain rfl:=ϟ hx;unfold CSit at hs;cases e:G.cp with
  |no=>rw[e] at hs;exact hs.elim
  |walk r=>rw[e] at hs;obtain⟨M,aL,_,hr,_⟩:=hs;exact .inl hr
  |db r=>rw[e] at hs;obtain⟨r',M,aL,y',z,_,_,hr,_⟩:=hs;exact .inr (.inr (.inr (.inl ⟨y',z,hr⟩)))
  |quit=>rw[e] at hs;exact .inr (.inl ⟨_,hs.2⟩)
def FI.awake(h:FI X wb gs w t G):∀g∈gs,Conc.awake g:=by
 intro y hy;obtain⟨k,hk,rfl⟩:=Array.mem_iff_getElem.1 hy;rcases h.kinds (k:=k) (Aaz hk) with e| ⟨n,e⟩ | ⟨g,z,_,e⟩ | ⟨g,z,e⟩ | ⟨g,v,z,_,_,e⟩ | ⟨g,v,z,_,e⟩
 ·exact awake_of (.inl e)
 ·exact awake_of (e.status.elim .inl λx=>.inr (.inr x))
 all_goals rw[e];exact awake_of (.inr (.inl rfl))
def FI.woken(h:FI X wb gs w t G){k:Nat}{y:ώ}(hy:gs[k]?=φ y){x x':ώ}{w':Ψ}(hL:∃s,w'.heap[X.cL]?=φ (.chan 0 #[] χ s s χ))
 (hN:G.closed=χ->∃s,w'.heap[X.cN]?=φ (.chan 0 #[] χ s s χ)):Ae5 X.P x x' w' y=y:=by
 obtain⟨s,hL⟩:=hL;rcases h.kinds hy with e| ⟨n,e⟩ | ⟨g,z,hc,e⟩ | ⟨g,z,e⟩ | ⟨g,v,z,_,hc,e⟩ | ⟨g,v,z,_,e⟩
 ·exact woken_run e
 ·exact woken_quits e
 ·obtain⟨s',hN⟩:=hN hc
  rw[e];exact woken_recv_open _ _ hN
 ·rw[e];exact woken_recv_open _ _ hL
 ·obtain⟨s',hN⟩:=hN hc
  rw[e];exact woken_send_open _ _ hN
 ·rw[e];exact woken_send_open _ _ hL
def FI.alx(h:FI X wb gs w t G):∃(k:Nat) (y:ώ),gs[k]?=φ y/\y.status=.running:=by
 obtain⟨x,hx,hs⟩:=h.main;unfold fM at hs;cases e:G.mp with
 |spawn=>rw[e] at hs;obtain⟨M,aL,_,hr,_⟩:=hs;exact⟨0,x,hx,hr⟩
 |walk f az=>rw[e] at hs;obtain⟨M,aL,y',_,hr,_⟩:=hs;exact⟨0,x,hx,hr.2.2.2⟩
 |db f az=>
  have eL:=h.yJ ⟨f,az,e⟩;have bj:=h.mc.1 ⟨f,az,.inr e⟩;obtain⟨y,hy,hc⟩:=h.cl bj;have de:=h.cnt;unfold CSit at hc;unfold mY at de;cases ec:G.cp with
  |no=>rw[ec] at bj;cases bj
  |quit=>unfold Gh.closed at eL;rw[ec] at eL;cases eL
  |walk r=>rw[ec] at hc;obtain⟨M,aL,_,hr,_⟩:=hc;exact⟨_,y,hy,hr⟩
  |db r=>
   rw[ec] at hc de;obtain⟨r',M,aL,y',z,DX,_⟩:=hc;simp only at de;obtain⟨i,hi,hq⟩:=al2 G.st X.n (by omega)
   have hj:=h.jc bj;obtain⟨x2,rT,dD⟩:=h.wk i (by omega)
   unfold WSit at dD;cases es:G.st i with
   |no=>rw[es] at dD;exact dD.elim
   |ku=>rw[es] at dD;obtain⟨M,aL,_,hr,_⟩:=dD;exact⟨_,x2,rT,hr⟩
   |iz=>rw[es] at dD;obtain⟨M,aL,_,hr,_⟩:=dD;exact⟨_,x2,rT,hr⟩
   |iR=>exact absurd es (h.mL ⟨f,az,e⟩ i hi)
   |iu=>exact absurd es (h.vN ⟨r,ec⟩ i hi)
   |quit=>exact absurd es hq
def FI.at(h:FI X wb gs w t G)(d:Nat):FI X wb gs (w.at d) t G:=
 ⟨h.size,h.n0,h.jn,h.jc,h.mc,h.uh,h.main,h.wk,h.cl,h.old,h.nN,h.mw,h.cnt,h.az,h.mL,h.vN,h.yJ,h.wt.at d,h.kU,h.kV,h.neq,⟨h.base.size,h.base.tape,h.base.os,h.base.e⟩,h.vP,h.tj,h.kq,h.yI,h.CN⟩
def adP(h:FI X wb gs w t G){x x':ώ}{w':Ψ}(hL:∃s,w'.heap[X.cL]?=φ (.chan 0 #[] χ s s χ))
 (hN:G.closed=χ->∃s,w'.heap[X.cN]?=φ (.chan 0 #[] χ s s χ)){k i:Nat}(aw:i≠k):((gs.map (Ae5 X.P x x' w')).setIfInBounds k x')[i]?=gs[i]?:=by
 rw[Aa0 (Ag2 aw),Aa1]
 cases e:gs[i]? with
 |none=>rfl
 |some y=>rw[Ag3,h.woken e hL hN]
def Mn{f:ώ->ώ}{k:Nat}(hk:k<gs.size)(x':ώ):((gs.map f).setIfInBounds k x')[k]?=φ x':=by
 simp[hk]
def Rp(X:Pm)(G:Gh)(k:Nat)(x:ώ):Prop:=
 (k=0/\fM X G x)\/(∃i,i<G.j/\k=X.N0+i/\WSit X G i x)\/(k=X.N0+X.n/\G.cp.gC=χ/\CSit X G x)
def FI.own(h:FI X wb gs w t G){k:Nat}{x g':ώ}{j:lH}{w':Ψ}{es:Array Event}(hk:gs[k]?=φ x)(ot:G.act k=φ j)(hd:eO j.M w w' es)(T':Tree)(fn:FuncId)(pos:String)
 (qF:Rp X {G with act:=eW G.act k (φ ⟨j.M.grow w w',g',w'⟩),tr:=upd G.tr k T'} k g'):
 FI X wb ((gs.map (Ae5 X.P x g' w')).setIfInBounds k g') w' (t++Afo k fn pos es) {G with act:=eW G.act k (φ ⟨j.M.grow w w',g',w'⟩),tr:=upd G.tr k T'}:=by
 have al:k<gs.size:=(Ϟ.1 hk).1
 have Hf:∃s,w'.heap[X.cL]?=φ (.chan 0 #[] χ s s χ):=by
  obtain⟨s,e⟩:=h.kU;exact⟨s,by rw[hd.kept X.cL h.wt.hL λhO=>(h.wt.low k j ot _ (.inl hO)).2.1 rfl];exact e⟩
 have xJ:∃s,w'.heap[X.cN]?=φ (.chan 0 #[] G.closed s s χ):=by
  obtain⟨s,e⟩:=h.kV;exact⟨s,by rw[hd.kept X.cN h.wt.hN λhO=>(h.wt.low k j ot _ (.inl hO)).2.2 rfl];exact e⟩
 have M5:G.closed=χ->∃s,w'.heap[X.cN]?=φ (.chan 0 #[] χ s s χ):=λe=>by rw[e] at xJ;exact xJ
 have Bu:∀ {i},i≠k->((gs.map (Ae5 X.P x g' w')).setIfInBounds k g')[i]?=gs[i]?:=λaw=>adP h Hf M5 aw
 have xt:((gs.map (Ae5 X.P x g' w')).setIfInBounds k g')[k]?=φ g':=Mn al g';have aI:((gs.map (Ae5 X.P x g' w')).setIfInBounds k g').size=gs.size:=by simp
 have Nv:¬ (0<k/\k<X.N0):=λ⟨a,b⟩=>by rw[h.nN k a b] at ot;cases ot
 have U7:∀i,i<X.n->G.st i=.quit->X.N0+i≠k:=by
  intro i hi hq e;obtain⟨y,_,hs⟩:=h.wk i (h.afc hi (by rw[hq];simp))
  unfold WSit at hs;rw[hq] at hs;rw[<-e,hs.1] at ot;cases ot
 have ops:∀op∈Afo k fn pos es,∃e∈es,op={g:=k,fn,pos,act:=.ofEvent e}:=λop ab=>Go.Conc.mem_ofEvents ab
 have Qc:∀ {i a},Aev (t++Afo k fn pos es) i=φ a->(i<t.size/\Aev t i=φ a/\(t++Afo k fn pos es).g? i= t.g? i)\/((t++Afo k fn pos es).g? i=φ k/\∃b,rh a.loc b/\(j.M.grow w w').has b/\Knows (t++Afo k fn pos es) k i):=by
  intro i a ha;obtain⟨op,ab,cB⟩:=Aew ha;rcases Aex ab with⟨hi,bG⟩ | ⟨_,dN⟩
  ·exact .inl ⟨hi,by rw[Aey bG];exact cB,by simp[Afx,ab,bG]⟩
  ·obtain⟨e,he,rfl⟩:=ops op dN
   obtain⟨b,b1,b2,_,_⟩:=P9 (hd.ev e he) cB;exact .inr ⟨by simp[Afx,ab],b,b1,b2,knows_own ab⟩
 have gN:∀b,(j.M.grow w w').has b->b≠X.cN:=by
  intro b hb;rcases hb with(hb|hb) |hb
  ·exact(h.wt.low k j ot b (.inl hb)).2.2
  ·have:=h.wt.hN;omega
  ·exact(h.wt.low k j ot b (.inr hb)).2.2
 refine⟨aI.trans h.size,h.n0,h.jn,h.jc,h.mc,h.uh,?_,λi hi=>?_,λhc=>?_,λg y h1 h2 hy=>?_,λg h1 h2=>?_,λg hg=>?_,h.cnt,h.az,h.mL,h.vN,h.yJ,h.wt.own ot hd fn pos,Hf,xJ,h.neq,
  ⟨Ϥ h.base.size hd.size,hd.tape.trans h.base.tape,hd.os.trans h.base.os,hd.e.trans h.base.e⟩,λi a ha hm g hg jW=>?_,λi g hg=>?_,λi hi hq=>?_,λhc i a ha=>?_,λhc=>?_⟩
 ·by_cases e:k=0
  ·subst e
   rcases qF with⟨_,hs⟩ | ⟨i,_,e,_⟩ | ⟨e,_⟩
   ·exact⟨g',xt,hs⟩
   ·have:=h.n0;omega
   ·have:=h.n0;omega
  ·obtain⟨y,hy,hs⟩:=h.main
   refine⟨y,by rw[Bu (Ag2 e)];exact hy,?_⟩
   simp only[fM,bP _ _ (Ag2 e),upd_ne _ _ (Ag2 e)];exact hs
 ·by_cases e:k=X.N0+i
  ·subst e
   rcases qF with⟨e,_⟩ | ⟨i',_,e,hs⟩ | ⟨e,hc,_⟩
   ·have:=h.n0;omega
   ·obtain rfl:i'=i:=by omega
    exact⟨g',xt,hs⟩
   ·have:=h.jn
    have vm:i<G.j:=hi;omega
  ·obtain⟨y,hy,hs⟩:=h.wk i hi
   refine⟨y,by rw[Bu (Ag2 e)];exact hy,?_⟩
   simp only[WSit,bP _ _ (Ag2 e),upd_ne _ _ (Ag2 e)];exact hs
 ·by_cases e:k=X.N0+X.n
  ·subst e
   rcases qF with⟨e,_⟩ | ⟨i',bu,e,hs⟩ | ⟨_,_,hs⟩
   ·have:=h.n0;omega
   ·have:=h.jn;simp only at bu;omega
   ·exact⟨g',xt,hs⟩
  ·obtain⟨y,hy,hs⟩:=h.cl hc
   refine⟨y,by rw[Bu (Ag2 e)];exact hy,?_⟩
   simp only[CSit,bP _ _ (Ag2 e),upd_ne _ _ (Ag2 e)];exact hs
 ·have e:g≠k:=λe=>Nv ⟨by omega,by omega⟩
  rw[Bu e] at hy;exact h.old g y h1 h2 hy
 ·have e:g≠k:=λe=>Nv ⟨by omega,by omega⟩
  simp only[bP _ _ e];exact h.nN g h1 h2
 ·rw[aI] at hg
  simp only[bP _ _ (show g≠k by omega)]
  exact h.mw g hg
 ·rcases Qc ha with⟨_,h1,h2⟩ | ⟨h1,_,_,_,h2⟩
  ·rw[h2] at hg
   exact(h.vP i a h1 hm g hg jW).app _
  ·rw[h1] at hg
   obtain rfl:=ϟ hg;obtain rfl:k=0:=by
    apply Aa5;intro h0;exact Nv ⟨by omega,jW⟩
   exact h2
 ·rw[aI]
  unfold Afx at hg;obtain⟨op,ab,e⟩:=Aef.1 hg;rcases Aex ab with⟨_,bG⟩ | ⟨_,dN⟩
  ·exact h.tj i g (by simp[Afx,bG,e])
  ·obtain⟨_,_,rfl⟩:=ops op dN
   simp only at e;omega
 ·refine(h.kq i hi hq).app λop ab e=>?_
  obtain⟨_,_,rfl⟩:=ops op ab;exact absurd e.symm (U7 i hi hq)
 ·rcases Qc ha with⟨_,h1,_⟩ | ⟨_,b,h1,h2,_⟩
  ·exact h.yI hc i a h1
  ·intro e
   have:rh a.loc X.cN:=.inl e;obtain rfl:=OP h1 this;exact gN _ h2 rfl
 ·obtain⟨c,z,c1,c2,c3,c4⟩:=h.CN hc
  refine⟨c,z,by rw[Ae6 (Ae7 c1)];exact c1,c2,c3,λi a ha g hg jU=>?_⟩
  rcases Qc ha with⟨_,h1,h2⟩ | ⟨h1,_⟩
  ·rw[h2] at hg
   exact(c4 i a h1 g hg jU).app _
  ·exfalso
   rw[h1] at hg;obtain rfl:=ϟ hg;rcases h.sI al with e|e| ⟨i',bu,e⟩ | ⟨e,hn⟩
   ·have:=h.n0;omega
   ·omega
   ·exact U7 i' (by have:=h.jn;omega) (h.Gk hc i' (by have:=h.jn;omega)) e.symm
   ·obtain⟨y,_,hs⟩:=h.cl hn
    unfold CSit at hs;unfold Gh.closed at hc;cases ec:G.cp with
    |quit=>rw[ec] at hs;rw[e,hs.1] at ot;cases ot
    |_=>rw[ec] at hc;cases hc
def FI.ajL(h:FI X wb gs w t G){k m:Nat}{x g':ώ}(hk:gs[k]?=φ x)(qF:(0<k/\k<X.N0)\/(∃i,i<G.j/\k=X.N0+i/\G.st i=.quit)\/(k=X.N0+X.n/\G.closed=θ))(hq:Ae1 X.P m g'):
 FI X wb ((gs.map (Ae5 X.P x g' w)).setIfInBounds k g') w t {G with q:=upd G.q k m}:=by
 have al:k<gs.size:=(Ϟ.1 hk).1
 have M5:G.closed=χ->∃s,w.heap[X.cN]?=φ (.chan 0 #[] χ s s χ):=λe=>by have:=h.kV;rw[e] at this;exact this
 have Bu:∀ {i},i≠k->((gs.map (Ae5 X.P x g' w)).setIfInBounds k g')[i]?=gs[i]?:=λaw=>adP h h.kU M5 aw
 have xt:((gs.map (Ae5 X.P x g' w)).setIfInBounds k g')[k]?=φ g':=Mn al g';have aI:((gs.map (Ae5 X.P x g' w)).setIfInBounds k g').size=gs.size:=by simp
 have jX:=h.n0;have rG:=h.jn;have iM:k≠0:=by rcases qF with e| ⟨i,_,e,_⟩ | ⟨e,_⟩<;>omega
 refine⟨aI.trans h.size,h.n0,h.jn,h.jc,h.mc,h.uh,?_,λi hi=>?_,λhc=>?_,λg y h1 h2 hy=>?_,h.nN,λg hg=>h.mw g (by rw[aI] at hg;exact hg),h.cnt,h.az,h.mL,h.vN,h.yJ,h.wt,h.kU,h.kV,h.neq,h.base,h.vP,λi g hg=>by rw[aI];exact h.tj i g hg,h.kq,h.yI,h.CN⟩
 ·obtain⟨y,hy,hs⟩:=h.main
  exact⟨y,by rw[Bu (Ag2 iM)];exact hy,hs⟩
 ·by_cases e:k=X.N0+i
  ·subst e
   rcases qF with e| ⟨i',_,e,aQ⟩ | ⟨e,_⟩
   ·omega
   ·obtain rfl:i'=i:=by omega
    refine⟨g',xt,?_⟩
    obtain⟨y,_,hs⟩:=h.wk i' hi;unfold WSit at hs |-
    simp only;rw[aQ] at hs |-
    exact⟨hs.1,by simp only[upd_same];exact hq⟩
   ·have vm:i<G.j:=hi
    omega
  ·obtain⟨y,hy,hs⟩:=h.wk i hi
   refine⟨y,by rw[Bu (Ag2 e)];exact hy,?_⟩
   simp only[WSit,upd_ne _ _ (Ag2 e)];exact hs
 ·by_cases e:k=X.N0+X.n
  ·subst e
   rcases qF with e| ⟨i',bu,e,_⟩ | ⟨_,fY⟩
   ·omega
   ·have vm:i'<G.j:=bu
    omega
   ·refine⟨g',xt,?_⟩
    obtain⟨y,_,hs⟩:=h.cl hc;unfold Gh.closed at fY;cases ec:G.cp with
    |quit=>
     unfold CSit at hs |-
     simp only;rw[ec] at hs;exact⟨hs.1,by simp only[upd_same];exact hq⟩
    |_=>rw[ec] at fY;cases fY
  ·obtain⟨y,hy,hs⟩:=h.cl hc
   refine⟨y,by rw[Bu (Ag2 e)];exact hy,?_⟩
   simp only[CSit,upd_ne _ _ (Ag2 e)];exact hs
 ·by_cases e:g=k
  ·subst e
   rw[xt] at hy;obtain rfl:=ϟ hy;simp only[upd_same];exact hq
  ·rw[Bu e] at hy
   simp only[upd_ne _ _ e];exact h.old g y h1 h2 hy
end
end Go.Sim
namespace Go.Sim
open Go Go.Conc
open Go.ConcN (sumTo upd sumTo_upd upd_ne upd_same sumTo_congr)
def Ba:∀(n:Nat) (l:List Nat),l.Nodup->(∀x∈l,x<n)->l.length<=n
 |0,l,_,h=>by
  cases l with
  |nil=>exact ϊ _
  |cons a l=>exact absurd (h a (by simp)) (by omega)
 |n+1,l,hn,h=>by
  by_cases hm:n∈l
  ·have h1:=Ba n (l.erase n) (hn.erase n) λx hx=>by
    have h2:=(List.Nodup.mem_erase_iff hn).1 hx;have:=h x h2.2;have:=h2.1;omega
   rw[List.length_erase_of_mem hm] at h1;omega
  ·have:=Ba n l hn λx hx=>by
    have h2:=h x hx;have:x≠n:=λe=>hm (e▸hx)
    omega
   omega
def oI{a b:ώ}{c c':Array CommCase}{s s':CommShape}(h:Ae4 a c s=Ae4 b c' s'):c=c'/\s=s'/\∀v,Ϭ a v=Ϭ b v:=by
 obtain⟨f1,k1,s1,d1,o1⟩:=a;obtain⟨f2,k2,s2,d2,o2⟩:=b;simp only[Ae4,Goroutine.mk.injEq,Option.some.injEq,Prod.mk.injEq] at h;obtain⟨h1,h2,_,h4,h5,h6⟩:=h;subst h1 h2 h4;exact⟨h5,h6,λv=>rfl⟩
def ll{a b:ώ}{c:Array CommCase}{s:CommShape}(h:Ae4 a c s=b)(hb:b.status=.running):False:=by
 rw[<-h] at hb;cases hb
def I8{c c':Nat}{v v' z z':υ}(h:#[Aez c v z]=#[Aez c' v' z']):c=c'/\v=v':=by
 simp[Aez] at h;exact⟨h.1,h.2.1⟩
def ajN{c c':Nat}{z z':υ}(h:#[Ae2 c z]=#[Ae2 c' z']):c=c':=by
 simp[Ae2] at h;exact h.1
def vM{c c':Nat}{v z z':υ}(h:#[Aez c v z]=#[Ae2 c' z']):False:=by simp[Aez,Ae2] at h
section
variable {X:Pm}{wb:Ψ}{gs:Array ώ}{w:Ψ}{t:ϭ}{G:Gh}
def FI.Lt(h:FI X wb gs w t G){k:Nat}{g:ώ}{v z:υ}{sh:CommShape}(hk:gs[k]?=φ (Ae4 g #[Aez X.cN v z] sh)):
 ∃i M aL y,i<G.j/\k=X.N0+i/\G.st i=.iR/\v=X.val i/\sh=.send/\X.eU i=θ/\G.act k=φ ⟨M,y,aL⟩/\(∀v,Ϭ g v=Ϭ y v)/\Walk X.P χ (W2 X) M (Ϭ y ω) aL:=by
 have aw:=h.neq;rcases h.sI (Ϟ.1 hk).1 with rfl| ⟨h1,h2⟩ | ⟨i,hi,rfl⟩ | ⟨rfl,hc⟩
 ·obtain⟨x,hx,hs⟩:=h.main
  rw[hk] at hx;have hx:=(ϟ hx);unfold fM at hs;cases e:G.mp with
  |spawn=>rw[e] at hs;obtain⟨M,aL,_,hr,_⟩:=hs;exact(ll hx hr).elim
  |walk f az=>rw[e] at hs;obtain⟨M,aL,y',_,hr,_⟩:=hs;exact(ll hx hr.2.2.2).elim
  |db f az=>
   rw[e] at hs;obtain⟨M,aL,y',z',_,hr,_⟩:=hs;rw[hr] at hx;exact(vM (oI hx).1).elim
 ·have:=h.old k _ h1 h2 hk
  exact(this.status.elim (λe=>by cases e) λe=>by cases e)
 ·obtain⟨x,hx,hs⟩:=h.wk i hi
  rw[hk] at hx;have hx:=(ϟ hx);unfold WSit at hs;cases e:G.st i with
  |no=>rw[e] at hs;exact hs.elim
  |ku=>rw[e] at hs;obtain⟨M,aL,_,hr,_⟩:=hs;exact(ll hx hr).elim
  |iz=>rw[e] at hs;obtain⟨M,aL,_,hr,_⟩:=hs;exact(ll hx hr).elim
  |iR=>
   rw[e] at hs;obtain⟨M,aL,y',z',ha,hr,hn,hw⟩:=hs;rw[hr] at hx;obtain⟨e1,e2,e3⟩:=oI hx;exact⟨i,M,aL,y',hi,rfl,e,(I8 e1).2,e2,hn,ha,e3,hw⟩
  |iu=>
   rw[e] at hs;obtain⟨M,aL,y',z',ha,hr,hw⟩:=hs;rw[hr] at hx;exact absurd (I8 (oI hx).1).1 (Ag2 aw)
  |quit=>
   rw[e] at hs;rw[<-hx] at hs;exact(hs.2.status.elim (λe=>by cases e) λe=>by cases e)
 ·obtain⟨x,hx,hs⟩:=h.cl hc
  rw[hk] at hx;have hx:=(ϟ hx);unfold CSit at hs;cases e:G.cp with
  |no=>rw[e] at hs;exact hs.elim
  |walk r=>rw[e] at hs;obtain⟨M,aL,_,hr,_⟩:=hs;exact(ll hx hr).elim
  |db r=>
   rw[e] at hs;obtain⟨r',M,aL,y',z',_,_,hr,_⟩:=hs;rw[hr] at hx;exact(vM (oI hx).1).elim
  |quit=>
   rw[e] at hs;rw[<-hx] at hs;exact(hs.2.status.elim (λe=>by cases e) λe=>by cases e)
def FI.RD(h:FI X wb gs w t G){k:Nat}{g:ώ}{v z:υ}{sh:CommShape}(hk:gs[k]?=φ (Ae4 g #[Aez X.cL v z] sh)):
 ∃i M aL y,i<G.j/\k=X.N0+i/\G.st i=.iu/\v=.bool θ/\sh=.send/\G.act k=φ ⟨M,y,aL⟩/\(∀v,Ϭ g v=Ϭ y v)/\∃m,Ae1 X.P m (Ϭ y ω):=by
 have aw:=h.neq;rcases h.sI (Ϟ.1 hk).1 with rfl| ⟨h1,h2⟩ | ⟨i,hi,rfl⟩ | ⟨rfl,hc⟩
 ·obtain⟨x,hx,hs⟩:=h.main
  rw[hk] at hx;have hx:=(ϟ hx);unfold fM at hs;cases e:G.mp with
  |spawn=>rw[e] at hs;obtain⟨M,aL,_,hr,_⟩:=hs;exact(ll hx hr).elim
  |walk f az=>rw[e] at hs;obtain⟨M,aL,y',_,hr,_⟩:=hs;exact(ll hx hr.2.2.2).elim
  |db f az=>
   rw[e] at hs;obtain⟨M,aL,y',z',_,hr,_⟩:=hs;rw[hr] at hx;exact(vM (oI hx).1).elim
 ·have:=h.old k _ h1 h2 hk
  exact(this.status.elim (λe=>by cases e) λe=>by cases e)
 ·obtain⟨x,hx,hs⟩:=h.wk i hi
  rw[hk] at hx;have hx:=(ϟ hx);unfold WSit at hs;cases e:G.st i with
  |no=>rw[e] at hs;exact hs.elim
  |ku=>rw[e] at hs;obtain⟨M,aL,_,hr,_⟩:=hs;exact(ll hx hr).elim
  |iz=>rw[e] at hs;obtain⟨M,aL,_,hr,_⟩:=hs;exact(ll hx hr).elim
  |iR=>
   rw[e] at hs;obtain⟨M,aL,y',z',ha,hr,hn,hw⟩:=hs;rw[hr] at hx;exact absurd (I8 (oI hx).1).1 aw
  |iu=>
   rw[e] at hs;obtain⟨M,aL,y',z',ha,hr,hw⟩:=hs;rw[hr] at hx;obtain⟨e1,e2,e3⟩:=oI hx;exact⟨i,M,aL,y',hi,rfl,e,(I8 e1).2,e2,ha,e3,hw⟩
  |quit=>
   rw[e] at hs;rw[<-hx] at hs;exact(hs.2.status.elim (λe=>by cases e) λe=>by cases e)
 ·obtain⟨x,hx,hs⟩:=h.cl hc
  rw[hk] at hx;have hx:=(ϟ hx);unfold CSit at hs;cases e:G.cp with
  |no=>rw[e] at hs;exact hs.elim
  |walk r=>rw[e] at hs;obtain⟨M,aL,_,hr,_⟩:=hs;exact(ll hx hr).elim
  |db r=>
   rw[e] at hs;obtain⟨r',M,aL,y',z',_,_,hr,_⟩:=hs;rw[hr] at hx;exact(vM (oI hx).1).elim
  |quit=>
   rw[e] at hs;rw[<-hx] at hs;exact(hs.2.status.elim (λe=>by cases e) λe=>by cases e)
def Wm(h:FI X wb gs w t G){k:Nat}{y:ώ}(hy:gs[k]?=φ y)(aw:Ae8 y X.cN χ≠ []):k=0/\∃f az,G.mp=.db f az:=by
 have qy:=h.neq;rcases h.sI (Ϟ.1 hy).1 with rfl| ⟨h1,h2⟩ | ⟨i,hi,rfl⟩ | ⟨rfl,hc⟩
 ·refine⟨rfl,?_⟩
  obtain⟨x,hx,hs⟩:=h.main;rw[hy] at hx;obtain rfl:=ϟ hx;unfold fM at hs;cases e:G.mp with
  |spawn=>rw[e] at hs;obtain⟨M,aL,_,hr,_⟩:=hs;exact absurd (Ae9 (by rw[hr];simp) _ _) aw
  |walk f az=>rw[e] at hs;obtain⟨M,aL,y',_,hr,_⟩:=hs;exact absurd (Ae9 (by rw[hr.2.2.2];simp) _ _) aw
  |db f az=>exact⟨f,az,rfl⟩
 ·have:=h.old k _ h1 h2 hy
  exact absurd (Ae9 (by rcases this.status with e|e<;>rw[e]<;>simp) _ _) aw
 ·exfalso
  rcases h.kinds hy with e| ⟨n,e⟩ | ⟨g,z,_,e⟩ | ⟨g,z,e⟩ | ⟨g,v,z,_,_,e⟩ | ⟨g,v,z,_,e⟩
  ·exact aw (Ae9 (by rw[e];simp) _ _)
  ·exact aw (Ae9 (by rcases e.status with e|e<;>rw[e]<;>simp) _ _)
  ·
   obtain⟨x,hx,hs⟩:=h.wk i hi;rw[hy] at hx;obtain rfl:=ϟ hx;unfold WSit at hs;cases es:G.st i with
   |no=>rw[es] at hs;exact hs.elim
   |ku=>rw[es] at hs;obtain⟨M,aL,_,hr,_⟩:=hs;exact ll e.symm hr
   |iz=>rw[es] at hs;obtain⟨M,aL,_,hr,_⟩:=hs;exact ll e.symm hr
   |iR=>rw[es] at hs;obtain⟨M,aL,y',z',_,hr,_⟩:=hs;rw[hr] at e;exact vM (oI e).1
   |iu=>rw[es] at hs;obtain⟨M,aL,y',z',_,hr,_⟩:=hs;rw[hr] at e;exact vM (oI e).1
   |quit=>rw[es] at hs;rw[e] at hs;exact(hs.2.status.elim (λe=>by cases e) λe=>by cases e)
  ·rw[e,Afa,if_neg qy] at aw;exact aw rfl
  ·rw[e,Afb] at aw;exact aw rfl
  ·rw[e,Afb] at aw;exact aw rfl
 ·exfalso
  obtain⟨x,hx,hs⟩:=h.cl hc;rw[hy] at hx;obtain rfl:=ϟ hx;unfold CSit at hs;cases e:G.cp with
  |no=>rw[e] at hs;exact hs.elim
  |walk r=>rw[e] at hs;obtain⟨M,aL,_,hr,_⟩:=hs;exact aw (Ae9 (by rw[hr];simp) _ _)
  |db r=>
   rw[e] at hs;obtain⟨r',M,aL,y',z',_,_,hr,_⟩:=hs;rw[hr,Afa,if_neg qy] at aw;exact aw rfl
  |quit=>rw[e] at hs;exact aw (Ae9 (by rcases hs.2.status with e|e<;>rw[e]<;>simp) _ _)
def Wl(h:FI X wb gs w t G){k:Nat}{y:ώ}(hy:gs[k]?=φ y)(aw:Ae8 y X.cL χ≠ []):k=X.N0+X.n/\∃r,G.cp=.db r:=by
 have qy:=h.neq;rcases h.kinds hy with e| ⟨n,e⟩ | ⟨g,z,_,e⟩ | ⟨g,z,e⟩ | ⟨g,v,z,_,_,e⟩ | ⟨g,v,z,_,e⟩
 ·exact absurd (Ae9 (by rw[e];simp) _ _) aw
 ·exact absurd (Ae9 (by rcases e.status with e|e<;>rw[e]<;>simp) _ _) aw
 ·rw[e,Afa,if_neg (Ag2 qy)] at aw;exact absurd rfl aw
 ·rcases h.sI (Ϟ.1 hy).1 with rfl| ⟨h1,h2⟩ | ⟨i,hi,rfl⟩ | ⟨rfl,hc⟩
  ·exfalso
   obtain⟨x,hx,hs⟩:=h.main;rw[hy] at hx;obtain rfl:=ϟ hx;unfold fM at hs;cases em:G.mp with
   |spawn=>rw[em] at hs;obtain⟨M,aL,_,hr,_⟩:=hs;exact ll e.symm hr
   |walk f az=>rw[em] at hs;obtain⟨M,aL,y',_,hr,_⟩:=hs;exact ll e.symm hr.2.2.2
   |db f az=>
    rw[em] at hs;obtain⟨M,aL,y',z',_,hr,_⟩:=hs;rw[hr] at e;exact qy (ajN (oI e).1).symm
  ·exfalso
   have:=h.old k _ h1 h2 hy;rw[e] at this;exact(this.status.elim (λe=>by cases e) λe=>by cases e)
  ·exfalso
   obtain⟨x,hx,hs⟩:=h.wk i hi;rw[hy] at hx;obtain rfl:=ϟ hx;unfold WSit at hs;cases es:G.st i with
   |no=>rw[es] at hs;exact hs.elim
   |ku=>rw[es] at hs;obtain⟨M,aL,_,hr,_⟩:=hs;exact ll e.symm hr
   |iz=>rw[es] at hs;obtain⟨M,aL,_,hr,_⟩:=hs;exact ll e.symm hr
   |iR=>rw[es] at hs;obtain⟨M,aL,y',z',_,hr,_⟩:=hs;rw[hr] at e;exact vM (oI e).1
   |iu=>rw[es] at hs;obtain⟨M,aL,y',z',_,hr,_⟩:=hs;rw[hr] at e;exact vM (oI e).1
   |quit=>rw[es] at hs;rw[e] at hs;exact(hs.2.status.elim (λe=>by cases e) λe=>by cases e)
  ·refine⟨rfl,?_⟩
   obtain⟨x,hx,hs⟩:=h.cl hc;rw[hy] at hx;obtain rfl:=ϟ hx;unfold CSit at hs;cases ec:G.cp with
   |no=>rw[ec] at hs;exact hs.elim
   |walk r=>rw[ec] at hs;obtain⟨M,aL,_,hr,_⟩:=hs;exact(ll e.symm hr).elim
   |db r=>exact⟨r,rfl⟩
   |quit=>rw[ec] at hs;rw[e] at hs;exact(hs.2.status.elim (λe=>by cases e) λe=>by cases e)
 ·rw[e,Afb] at aw;exact absurd rfl aw
 ·rw[e,Afb] at aw;exact absurd rfl aw
def O6(h:FI X wb gs w t G){k m:Nat}{y:ώ}(hy:gs[k]?=φ y)(aw:m∈Ae8 y X.cN θ):m=0/\∃g v z,y=Ae4 g #[Aez X.cN v z] .send:=by
 have qy:=h.neq;rcases h.kinds hy with e| ⟨n,e⟩ | ⟨g,z,_,e⟩ | ⟨g,z,e⟩ | ⟨g,v,z,_,_,e⟩ | ⟨g,v,z,_,e⟩
 ·rw[Ae9 (by rw[e];simp)] at aw;cases aw
 ·rw[Ae9 (by rcases e.status with e|e<;>rw[e]<;>simp)] at aw;cases aw
 ·rw[e,Afc] at aw;cases aw
 ·rw[e,Afc] at aw;cases aw
 ·rw[e,Afd,if_pos rfl] at aw
  exact⟨by simpa using aw,g,v,z,e⟩
 ·rw[e,Afd,if_neg qy] at aw;cases aw
def Wn(h:FI X wb gs w t G){k m:Nat}{y:ώ}(hy:gs[k]?=φ y)(aw:m∈Ae8 y X.cL θ):m=0/\∃g v z,y=Ae4 g #[Aez X.cL v z] .send:=by
 have qy:=h.neq;rcases h.kinds hy with e| ⟨n,e⟩ | ⟨g,z,_,e⟩ | ⟨g,z,e⟩ | ⟨g,v,z,_,_,e⟩ | ⟨g,v,z,_,e⟩
 ·rw[Ae9 (by rw[e];simp)] at aw;cases aw
 ·rw[Ae9 (by rcases e.status with e|e<;>rw[e]<;>simp)] at aw;cases aw
 ·rw[e,Afc] at aw;cases aw
 ·rw[e,Afc] at aw;cases aw
 ·rw[e,Afd,if_neg (Ag2 qy)] at aw;cases aw
 ·rw[e,Afd,if_pos rfl] at aw
  exact⟨by simpa using aw,g,v,z,e⟩
def FI.zb(h:FI X wb gs w t G){aT:Array ώ}{w':Ψ}{u:ϭ}{G':Gh}(aI:aT.size=gs.size)(hj:G'.j=G.j)(bj:G'.cp.gC=G.cp.gC)
 (rO:(∃f az,G'.mp=.walk f az\/G'.mp=.db f az)↔∃f az,G.mp=.walk f az\/G.mp=.db f az)(aQ:∀i,i<X.n->(G'.st i=.no↔G.st i=.no))
 (ND:∃x,aT[0]?=φ x/\fM X G' x)(vE:∀i,i<G.j->∃x,aT[X.N0+i]?=φ x/\WSit X G' i x)(fY:G.cp.gC=χ->∃x,aT[X.N0+X.n]?=φ x/\CSit X G' x)
 (hold:∀g,0<g->g<X.N0->aT[g]?=gs[g]?/\G'.q g=G.q g/\G'.act g=ν)(Dv:∀g,gs.size<=g->G'.act g=ν)(de:mY X G')(cA:sn X G')
 (xY:(∃f az,G'.mp=.db f az)->∀i,i<X.n->G'.st i≠ .iR)(afe:(∃r,G'.cp=.db r)->∀i,i<X.n->G'.st i≠ .iu)(aff:(∃f az,G'.mp=.db f az)->G'.closed=χ)
 (tO:WT X.cL X.cN w' (t++u) G'.act)(Hf:∃s,w'.heap[X.cL]?=φ (.chan 0 #[] χ s s χ))(xJ:∃s,w'.heap[X.cN]?=φ (.chan 0 #[] G'.closed s s χ))(hb:Base wb w')
 (hu:∀op∈u,op.act.touch? =ν/\op.g<gs.size)(hkq:∀i,i<X.n->G'.st i=.quit->sU (t++u) (X.N0+i) (X.N0+X.n))(aib:G'.closed=G.closed):FI X wb aT w' (t++u) G':=by
 have old:∀ {k a},Aev (t++u) k=φ a->Aev t k=φ a/\(t++u).g? k= t.g? k:=by
  intro k a ha;obtain⟨op,ab,cB⟩:=Aew ha;rcases Aex ab with⟨_,bG⟩ | ⟨_,dN⟩
  ·exact⟨by rw[Aey bG];exact cB,by simp[Afx,ab,bG]⟩
  ·rw[(hu op dN).1] at cB;cases cB
 refine⟨by rw[aI,hj,bj];exact h.size,h.n0,by rw[hj];exact h.jn,by rw[bj,hj];exact h.jc,by rw[rO,bj];exact h.mc,λi hi=>by rw[aQ i hi,hj];exact h.uh i hi,ND,by rw[hj];exact vE,by rw[bj];exact fY,
  λg x h1 h2 hx=>?_,λg h1 h2=>(hold g h1 h2).2.2,λg hg=>Dv g (by rw[aI] at hg;exact hg),de,cA,xY,afe,aff,tO,Hf,xJ,h.neq,hb,λk a ha hm g hg al=>?_,λk g hg=>?_,hkq,λhc k a ha=>?_,λhc=>?_⟩
 ·obtain⟨e1,e2,_⟩:=hold g h1 h2
  rw[e2];rw[e1] at hx;exact h.old g x h1 h2 hx
 ·obtain⟨a1,a2⟩:=old ha
  rw[a2] at hg;exact(h.vP k a a1 hm g hg al).app u
 ·rw[aI]
  unfold Afx at hg;obtain⟨op,ab,e⟩:=Aef.1 hg;rcases Aex ab with⟨_,bG⟩ | ⟨_,dN⟩
  ·exact h.tj k g (by simp[Afx,bG,e])
  ·rw[<-e];exact(hu op dN).2
 ·rw[aib] at hc
  exact h.yI hc k a (old ha).1
 ·rw[aib] at hc
  obtain⟨c,z,c1,c2,c3,c4⟩:=h.CN hc;refine⟨c,z,by rw[Ae6 (Ae7 c1)];exact c1,c2,c3,λk a ha g hg jU=>?_⟩
  obtain⟨a1,a2⟩:=old ha;rw[a2] at hg;exact(c4 k a a1 g hg jU).app u
end
end Go.Sim
namespace Go.Sim
open Go Go.Conc
open Go.ConcN (sumTo upd sumTo_upd upd_ne upd_same sumTo_congr)
section
variable {X:Pm}{wb:Ψ}{gs:Array ώ}{w:Ψ}{t:ϭ}{G:Gh}
def fM.congr{G':Gh}(h1:G'.mp=G.mp)(hj:G'.j=G.j)(h2:G'.act 0=G.act 0)(h3:G'.tr 0=G.tr 0){x:ώ}(h:fM X G x):fM X G' x:=by
 unfold fM at *;rw[h1,hj,h2,h3];exact h
def WSit.congr{G':Gh}{i:Nat}(h1:G'.st i=G.st i)(h2:G'.act (X.N0+i)=G.act (X.N0+i))(h3:G'.tr (X.N0+i)=G.tr (X.N0+i))(h4:G'.q (X.N0+i)=G.q (X.N0+i)){x:ώ}(h:WSit X G i x):WSit X G' i x:=by
 unfold WSit at *;rw[h1,h2,h3,h4];exact h
def CSit.congr{G':Gh}(h1:G'.cp=G.cp)(h2:G'.act (X.N0+X.n)=G.act (X.N0+X.n))(h3:G'.tr (X.N0+X.n)=G.tr (X.N0+X.n))(h4:G'.q (X.N0+X.n)=G.q (X.N0+X.n)){x:ώ}(h:CSit X G x):CSit X G' x:=by
 unfold CSit at *;rw[h1,h2,h3,h4];exact h
def one_set{b i:Nat}{y:ώ}:(gs.setIfInBounds b y)[i]?=if i=b/\b<gs.size then φ y else gs[i]?:=by
 by_cases hb:i=b
 ·subst hb
  by_cases al:i<gs.size
  ·simp[al]
  ·rw[if_neg (λe=>al e.2),Aan (by simpa using al),Aan (by omega)]
 ·rw[Aa0 (Ag2 hb),if_neg (λe=>hb e.1)]
def me{a b i:Nat}{x y:ώ}:((gs.setIfInBounds a x).setIfInBounds b y)[i]?=if i=b/\b<gs.size then φ y else if i=a/\a<gs.size then φ x else gs[i]?:=by
 rw[one_set,one_set,Aem]
def Mj{a b c s r cap B N:Nat}{x1 x2 x3 x4:MemOp}(h1:x1.g=a/\x1.act=.send c s)(h2:x2.g=b/\x2.act=.recv c r cap)(h3:x3.g=a/\x3.act=.sendDone c s)(h4:x4.g=b/\x4.act=.recvDone c r)(hc:c<B)(ha:a<N)(hb:b<N):
 (∀op∈#[x1,x2,x3,x4],op.act.touch? =ν/\op.act.low B/\op.act≠ .mark .disable/\op.act≠ .mark .enable)/\∀op∈#[x1,x2,x3,x4],op.act.touch? =ν/\op.g<N:=by
 refine⟨λop ab=>?_,λop ab=>?_⟩<;>simp only[Af1,ϫ,Λ,or_false] at ab<;>rcases ab with rfl|rfl|rfl|rfl
 ·rw[h1.2];exact⟨rfl,hc,by simp,by simp⟩
 ·rw[h2.2];exact⟨rfl,hc,by simp,by simp⟩
 ·rw[h3.2];exact⟨rfl,hc,by simp,by simp⟩
 ·rw[h4.2];exact⟨rfl,hc,by simp,by simp⟩
 ·rw[h1.2,h1.1];exact⟨rfl,ha⟩
 ·rw[h2.2,h2.1];exact⟨rfl,hb⟩
 ·rw[h3.2,h3.1];exact⟨rfl,ha⟩
 ·rw[h4.2,h4.1];exact⟨rfl,hb⟩
def PL(w:Ψ)(c cap:Nat)(buf:Array υ)(closed:Bool)(s r:Nat)(tm:Bool):(w.setChan c cap buf closed s r tm).heap.size=w.heap.size/\(∀b,b≠c->(w.setChan c cap buf closed s r tm).heap[b]?=w.heap[b]?)/\(c<w.heap.size->(w.setChan c cap buf closed s r tm).heap[c]?=φ (.chan cap buf closed s r tm)):=by
 refine⟨by simp[World.setChan],λb hb=>?_,λhc=>by simp[World.setChan,hc]⟩
 simp only[World.setChan];rw[Aa0 (Ag2 hb)]
def AZ(st:Nat->WS){i n:Nat}(hi:i<n)(s:WS):sumTo n (λa=>(upd st i s a).w)+(st i).w=sumTo n (λa=>(st a).w)+s.w:=sumTo_upd st s WS.w hi
def Bv(st:Nat->WS){i n:Nat}(hi:i<n)(s:WS):sumTo n (λa=>(upd st i s a).q)+(st i).q=sumTo n (λa=>(st a).q)+s.q:=sumTo_upd st s WS.q hi
def FI.sX(h:FI X wb gs w t G)(i:Nat):(X.N0+i==0)=χ:=by have:=h.n0;simp;omega
def ajB(h:FI X wb gs w t G){k:Nat}(hk:k≠0){y:ώ}{z:υ}(h0:gs[0]?=φ (Ae4 y #[Ae2 X.cN z] (.recv θ))):Aes (gs.setIfInBounds k ph) X.cN χ=[(0,0)]:=by
 rw[partners_one (j:=0) (g:=Ae4 y #[Ae2 X.cN z] (.recv θ)) (stand_get (Ag2 hk) h0) λj x hj hx=>?_]
 ·rw[Afa,if_pos rfl];rfl
 ·rcases Afe gs k j x hx with⟨_,rfl⟩ | ⟨_,hx⟩
  ·exact Aff _ _
  ·apply Aa5
   intro aw;exact hj (Wm h hx aw).1
def ajA(h:FI X wb gs w t G){k:Nat}(hp:¬ ∃f az,G.mp=.db f az):Aes (gs.setIfInBounds k ph) X.cN χ=[]:=by
 refine Afg λj x hx=>?_
 rcases Afe gs k j x hx with⟨_,rfl⟩ | ⟨_,hx⟩
 ·exact Aff _ _
 ·apply Aa5
  intro aw;exact hp (Wm h hx aw).2
def ajz(h:FI X wb gs w t G){k:Nat}(hk:k≠X.N0+X.n){y:ώ}{z:υ}(h0:gs[X.N0+X.n]?=φ (Ae4 y #[Ae2 X.cL z] (.recv χ))):Aes (gs.setIfInBounds k ph) X.cL χ=[(X.N0+X.n,0)]:=by
 rw[partners_one (j:=X.N0+X.n) (g:=Ae4 y #[Ae2 X.cL z] (.recv χ)) (stand_get (Ag2 hk) h0) λj x hj hx=>?_]
 ·rw[Afa,if_pos rfl];rfl
 ·rcases Afe gs k j x hx with⟨_,rfl⟩ | ⟨_,hx⟩
  ·exact Aff _ _
  ·apply Aa5
   intro aw;exact hj (Wl h hx aw).1
def ajy(h:FI X wb gs w t G){k:Nat}(hp:¬ ∃r,G.cp=.db r):Aes (gs.setIfInBounds k ph) X.cL χ=[]:=by
 refine Afg λj x hx=>?_
 rcases Afe gs k j x hx with⟨_,rfl⟩ | ⟨_,hx⟩
 ·exact Aff _ _
 ·apply Aa5
  intro aw;exact hp (Wl h hx aw).2
def od(X:Pm)(wb:Ψ)(gs:Array ώ)(w:Ψ)(sl:Option (Nat×Nat))(t:ϭ)(G:Gh)(k:Nat):Prop:=
 ∃aT w' u G',runT X.P (Afh gs w sl) k=(.next (Afh aT w' sl),u)/\FI X wb aT w' (t++u) G'/\G'.mu X<G.mu X
def Xi(g:ώ)(v:υ):(Ϭ g v).status=.running:=rfl
def pV.refl{x:ώ}(h:x.status=.running):pV x x:=⟨rfl,rfl,rfl,h⟩
def alh(h:FI X wb gs w t G)(sl:Option (Nat×Nat)){i:Nat}(hi:i<G.j)(aQ:G.st i=.ku){M:aaa}{aL:Ψ}{x:ώ}(hx:gs[X.N0+i]?=φ x)(ha:G.act (X.N0+i)=φ ⟨M,x,aL⟩)
 (hn:X.eU i=θ)(hS:FW X X.cN (X.val i) (λM g w=>Walk X.P χ (W2 X) M g w) M x w){f:Nat}{az:List Nat}(hp:G.mp=.db f az):od X wb gs w sl t G (X.N0+i):=by
 obtain⟨_,_,⟨z,dq⟩,xV⟩:=hS;have jX:=h.n0;have rG:=h.jn;obtain⟨y0,h0,dY⟩:=h.main;unfold fM at dY;rw[hp] at dY;obtain⟨M0,v0,y,z0,qf,rfl,hR⟩:=dY;have cA:=h.az;unfold sn at cA;rw[hp] at cA;obtain⟨g1,g2,g3⟩:=cA;have xW:i ∉ az:=λe=>by have:=((g3 i).1 e).2.2;rw[aQ] at this;cases this
 obtain⟨f',rfl⟩:∃f',f=f'+1:=by
  have h1:=Ba X.n (i::az) (List.nodup_cons.2 ⟨xW,g1⟩) λa ha=>by
   rcases ϫ.1 ha with rfl|ha
   ·omega
   ·exact((g3 a).1 ha).1
  simp only[Af5] at h1;exact⟨f - 1,by omega⟩
 obtain⟨s,hc⟩:=h.kV;have eL:=h.yJ ⟨_,_,hp⟩;rw[eL] at hc;have bz:=crowd_send_meets (P:=X.P) (sl:=sl) hx (by rw[h.sX];exact dq) hc (show 0≠X.N0+i by omega) h0 (ajB h (by omega) h0)
 rw[nM,Aen] at bz;have jW:0<gs.size:=(Ϟ.1 h0).1
 have mA:X.N0+i<gs.size:=(Ϟ.1 hx).1
 obtain⟨rM,qv⟩:=Mj (a:=X.N0+i) (b:=0) (c:=X.cN) (s:=s) (r:=s) (cap:=0) (B:=w.heap.size) (N:=gs.size)
  (x1:={g:=X.N0+i,fn:=x.frame.fn,pos:=x.frame.place,act:=.send X.cN s}) (x2:={g:=0,fn:=y.frame.fn,pos:=y.frame.place,act:=.recv X.cN s 0})
  (x3:={g:=X.N0+i,fn:=x.frame.fn,pos:=x.frame.place,act:=.sendDone X.cN s}) (x4:={g:=0,fn:=y.frame.fn,pos:=y.frame.place,act:=.recvDone X.cN s}) ⟨rfl,rfl⟩ ⟨rfl,rfl⟩ ⟨rfl,rfl⟩ ⟨rfl,rfl⟩ h.wt.hN mA jW
 obtain⟨c1,c2,c3⟩:=PL w X.cN 0 #[] χ (s+1) (s+1) χ;have iM:=h.wt.keep 0 _ qf;have qu:=h.wt.keep _ _ ha;obtain⟨_,_,z1,_,_,nO⟩:=hR w iM;have AP:=h.wt.mute (w':=w.setChan X.cN 0 #[] χ (s+1) (s+1) χ) rM c1 (λb _ hb=>c2 b hb) rfl rfl rfl
 have hw0:=nO i (by omega) hn xW
 obtain⟨T0,tt⟩:=(hw0.rely (AP.keep 0 _ qf|>λk=>(⟨by rw[c1];exact ϊ _,λb hb=>c2 b (h.wt.low 0 _ qf b hb).2.2,rfl,rfl,rfl⟩:bN M0 w (w.setChan X.cN 0 #[] χ (s+1) (s+1) χ)))).tree
 obtain⟨Ti,G4⟩:=(xV.rely (⟨by rw[c1];exact ϊ _,λb hb=>c2 b (h.wt.low _ _ ha b hb).2.2,rfl,rfl,rfl⟩:bN M w (w.setChan X.cN 0 #[] χ (s+1) (s+1) χ))).tree
 have Ed:=(AP.again qf (Ϭ y (Ae3 θ (X.val i) θ))).again (g:=X.N0+i) (j:=⟨M,x,aL⟩) (by rw[bP _ _ (by omega)];exact ha) (Ϭ x ω)
 refine⟨_,_,_,{G with st:=upd G.st i .iz,mp:=.walk f' (az++ [i]),act:=eW (eW G.act 0 (φ ⟨M0,Ϭ y (Ae3 θ (X.val i) θ),w.setChan X.cN 0 #[] χ (s+1) (s+1) χ⟩)) (X.N0+i) (φ ⟨M,Ϭ x ω,w.setChan X.cN 0 #[] χ (s+1) (s+1) χ⟩),tr:=upd (upd G.tr 0 T0) (X.N0+i) Ti},bz,?_,?_⟩
 ·refine h.zb (by simp) rfl rfl ?_ (λi' bu=>?_) ?_ (λi' bu=>?_) (λhc=>?_) (λg h1 h2=>⟨?_,rfl,?_⟩) (λg hg=>?_) ?_ ?_ (λ⟨_,_,e⟩=>by cases e) (λhr i' bu=>?_) (λ⟨_,_,e⟩=>by cases e) Ed ?_ ?_ ⟨by rw[c1];exact h.base.size,h.base.tape,h.base.os,h.base.e⟩ qv (λi' bu hq=>?_) rfl
  ·exact⟨λ_=>⟨_,_,.inr hp⟩,λ_=>⟨_,_,.inl rfl⟩⟩
  ·by_cases e:i'=i
   ·subst e;simp only[upd_same];rw[aQ];simp
   ·simp only[upd_ne _ _ e]
  ·refine⟨Ϭ y (Ae3 θ (X.val i) θ),?_,?_⟩
   ·rw[me,if_neg (by omega),if_pos ⟨rfl,jW⟩];rfl
   ·exact⟨M0,w.setChan X.cN 0 #[] χ (s+1) (s+1) χ,Ϭ y (Ae3 θ (X.val i) θ),by simp only[bP _ _ (show 0≠X.N0+i by omega),fE],pV.refl rfl,by simp only[upd_ne _ _ (show 0≠X.N0+i by omega),upd_same];exact tt⟩
  ·by_cases e:i'=i
   ·subst e
    refine⟨Ϭ x ω,?_,?_⟩
    ·rw[me,if_pos ⟨rfl,mA⟩];rfl
    ·unfold WSit
     simp only[upd_same,fE];exact⟨M,_,rfl,rfl,G4⟩
   ·obtain⟨y',dZ,cD⟩:=h.wk i' bu
    refine⟨y',by rw[me,if_neg (by omega),if_neg (by omega)];exact dZ,?_⟩
    refine WSit.congr (G:=G) (by exact upd_ne _ _ e) ?_ ?_ (by exact rfl) cD
    ·simp only[bP _ _ (show X.N0+i'≠X.N0+i by omega),bP _ _ (show X.N0+i'≠0 by omega)]
    ·simp only[upd_ne _ _ (show X.N0+i'≠X.N0+i by omega),upd_ne _ _ (show X.N0+i'≠0 by omega)]
  ·obtain⟨y',dZ,cD⟩:=h.cl hc
   refine⟨y',by rw[me,if_neg (by omega),if_neg (by omega)];exact dZ,?_⟩
   refine CSit.congr (G:=G) (by exact rfl) ?_ ?_ (by exact rfl) cD
   ·simp only[bP _ _ (show X.N0+X.n≠X.N0+i by omega),bP _ _ (show X.N0+X.n≠0 by omega)]
   ·simp only[upd_ne _ _ (show X.N0+X.n≠X.N0+i by omega),upd_ne _ _ (show X.N0+X.n≠0 by omega)]
  ·rw[me,if_neg (by omega),if_neg (by omega)]
  ·simp only[bP _ _ (show g≠X.N0+i by omega),bP _ _ (show g≠0 by omega)]
   exact h.nN g h1 h2
  ·simp only[bP _ _ (show g≠X.N0+i by omega),bP _ _ (show g≠0 by omega)]
   exact h.mw g hg
  ·have hq:=Bv G.st (show i<X.n by omega) .iz
   have e1:(G.st i).q=0:=by rw[aQ];rfl
   have e2:WS.q .iz=0:=rfl;have de:=h.cnt;unfold mY at de |-
   simp only;rw[show sumTo X.n (λa=>(upd G.st i .iz a).q)=sumTo X.n (λa=>(G.st a).q) by omega]
   exact de
  ·refine⟨List.nodup_append.2 ⟨g1,by simp,λa Hj b hb=>?_⟩,by simp only[Af6,Af7];omega,λa=>?_⟩
   ·simp only[Af2] at hb
    subst hb
    exactλe=>xW (e▸Hj)
   ·by_cases e:a=i
    ·subst e
     simp only[Af8,Af2,or_true,upd_same,true_iff];exact⟨by omega,hn,rfl⟩
    ·simp only[Af8,Af2,e,or_false,upd_ne _ _ e]
     exact g3 a
  ·by_cases e:i'=i
   ·subst e;simp only[upd_same];simp
   ·simp only[upd_ne _ _ e];exact h.vN hr i' bu
  ·obtain⟨s',e'⟩:=h.kU
   exact⟨s',by rw[c2 _ h.neq];exact e'⟩
  ·exact⟨s+1,by rw[c3 h.wt.hN];unfold Gh.closed at eL |-;simp only;rw[eL]⟩
  ·have mD:G.st i'=.quit:=by
    by_cases e:i'=i
    ·subst e;simp only[upd_same] at hq;cases hq
    ·simp only[upd_ne _ _ e] at hq;exact hq
   exact(h.kq i' bu mD).app λop ab _=>(qv op ab).1
 ·have hm:=AZ G.st (show i<X.n by omega) .iz
  have e1:(G.st i).w=5:=by rw[aQ];rfl
  have e2:WS.w .iz=3:=rfl;unfold Gh.mu;simp only[hp,MP.w];omega
def FI.ady(h:FI X wb gs w t G){i:Nat}(hi:i<X.n)(hs:G.st i≠ .quit):G.closed=χ:=by
 apply Aa5;intro hc;exact hs (h.Gk (by simpa using hc) i hi)
def OG{c:Nat}{M:aaa}{w w':Ψ}(c1:w'.heap.size=w.heap.size)(c2:∀b,b≠c->w'.heap[b]?=w.heap[b]?)(hM:∀b,M.has b->b≠c)(ht:w'.tape=w.tape)(ho:w'.os=w.os)(hp:w'.output=w.output):bN M w w':=
 ⟨by rw[c1];exact ϊ _,λb hb=>c2 b (hM b hb),ht,ho,hp⟩
def ali(h:FI X wb gs w t G)(sl:Option (Nat×Nat)){i:Nat}(hi:i<G.j)(aQ:G.st i=.ku){M:aaa}{aL:Ψ}{x:ώ}(hx:gs[X.N0+i]?=φ x)(ha:G.act (X.N0+i)=φ ⟨M,x,aL⟩)
 (hn:X.eU i=θ)(hS:FW X X.cN (X.val i) (λM g w=>Walk X.P χ (W2 X) M g w) M x w)(hp:¬ ∃f az,G.mp=.db f az):od X wb gs w sl t G (X.N0+i):=by
 obtain⟨_,_,⟨z,dq⟩,xV⟩:=hS;have jX:=h.n0;have rG:=h.jn;have eL:=h.ady (show i<X.n by omega) (by rw[aQ];simp)
 obtain⟨s,hc⟩:=h.kV;rw[eL] at hc;have mA:X.N0+i<gs.size:=(Ϟ.1 hx).1
 have bz:=Afi (P:=X.P) (sl:=sl) hx (by rw[h.sX];exact dq) (λcc cX=>by
  simp only[Af1,Af2] at cX;subst cX;exact ways_send_none hc (ϊ _) (ajA h hp))
 rw[nM] at bz;refine⟨_,_,_,{G with st:=upd G.st i .iR,act:=eW G.act (X.N0+i) (φ ⟨M,x,w⟩)},bz,?_,?_⟩
 ·refine h.zb (by simp) rfl rfl Iff.rfl (λi' bu=>?_) ?_ (λi' bu=>?_) (λhc=>?_) (λg h1 h2=>⟨?_,rfl,?_⟩) (λg hg=>?_) ?_ ?_ (λe=>absurd e hp) (λhr i' bu=>?_) (λe=>absurd e hp) (by simp only[Aag];exact h.wt.again ha x) h.kU h.kV h.base (by simp) (λi' bu hq=>?_) rfl
  ·by_cases e:i'=i
   ·subst e;simp only[upd_same];rw[aQ];simp
   ·simp only[upd_ne _ _ e]
  ·obtain⟨y,hy,hs⟩:=h.main
   refine⟨y,by rw[one_set,if_neg (by omega)];exact hy,?_⟩
   exact fM.congr (G:=G) (by exact rfl) (by exact rfl) (by simp only[bP _ _ (show 0≠X.N0+i by omega)]) (by exact rfl) hs
  ·by_cases e:i'=i
   ·subst e
    refine⟨Ae4 x #[Aez X.cN (X.val i') z] .send,by rw[one_set,if_pos ⟨rfl,mA⟩],?_⟩
    unfold WSit;simp only[upd_same,fE];exact⟨M,w,x,z,rfl,rfl,hn,xV⟩
   ·obtain⟨y',dZ,cD⟩:=h.wk i' bu
    refine⟨y',by rw[one_set,if_neg (by omega)];exact dZ,?_⟩
    exact WSit.congr (G:=G) (by exact upd_ne _ _ e) (by simp only[bP _ _ (show X.N0+i'≠X.N0+i by omega)]) (by exact rfl) (by exact rfl) cD
  ·obtain⟨y',dZ,cD⟩:=h.cl hc
   refine⟨y',by rw[one_set,if_neg (by omega)];exact dZ,?_⟩
   exact CSit.congr (G:=G) (by exact rfl) (by simp only[bP _ _ (show X.N0+X.n≠X.N0+i by omega)]) (by exact rfl) (by exact rfl) cD
  ·rw[one_set,if_neg (by omega)]
  ·simp only[bP _ _ (show g≠X.N0+i by omega)]
   exact h.nN g h1 h2
  ·simp only[bP _ _ (show g≠X.N0+i by omega)]
   exact h.mw g hg
  ·have hq:=Bv G.st (show i<X.n by omega) .iR
   have e1:(G.st i).q=0:=by rw[aQ];rfl
   have e2:WS.q .iR=0:=rfl;have de:=h.cnt;unfold mY at de |-
   simp only;rw[show sumTo X.n (λa=>(upd G.st i .iR a).q)=sumTo X.n (λa=>(G.st a).q) by omega]
   exact de
  ·have cA:=h.az
   unfold sn at cA |-
   simp only;have Hu:∀a,(upd G.st i .iR a).gD=(G.st a).gD:=by
    intro a;by_cases e:a=i
    ·subst e;rw[upd_same,aQ];rfl
    ·rw[upd_ne _ _ e]
   simp only[Hu];exact cA
  ·by_cases e:i'=i
   ·subst e;simp only[upd_same];simp
   ·simp only[upd_ne _ _ e];exact h.vN hr i' bu
  ·rw[Aag]
   by_cases e:i'=i
   ·subst e;simp only[upd_same] at hq;cases hq
   ·simp only[upd_ne _ _ e] at hq;exact h.kq i' bu hq
 ·have hm:=AZ G.st (show i<X.n by omega) .iR
  have e1:(G.st i).w=5:=by rw[aQ];rfl
  have e2:WS.w .iR=4:=rfl;unfold Gh.mu;simp only;omega
def wI(X:Pm)(G:Gh)(i:Nat):Prop:=G.st i=.iz\/(G.st i=.ku/\X.eU i=χ)
def wI.facts{i:Nat}(h:wI X G i):(G.st i).q=0/\3<=(G.st i).w/\G.st i≠ .no/\G.st i≠ .quit/\∀s:WS,s.gD=θ->(X.eU i=θ/\(G.st i).gD=θ↔X.eU i=θ/\s.gD=θ):=by
 rcases h with h| ⟨h,hn⟩<;>rw[h]
 ·exact⟨rfl,ϊ _,by simp,by simp,λs hs=>by rw[hs];exact Iff.rfl⟩
 ·refine⟨rfl,by decide,by simp,by simp,λs hs=>by simp[hn]⟩
def adg(h:FI X wb gs w t G){i:Nat}(hd:wI X G i){s:WS}(hs:s.gD=θ):sn X {G with st:=upd G.st i s}:=by
 have cA:=h.az;obtain⟨_,_,_,_,hf⟩:=hd.facts;have key:∀a,(X.eU a=θ/\(upd G.st i s a).gD=θ)↔(X.eU a=θ/\(G.st a).gD=θ):=by
  intro a;by_cases e:a=i
  ·subst e;rw[upd_same];exact(hf s hs).symm
  ·rw[upd_ne _ _ e]
 unfold sn at cA |-
 simp only;cases hm:G.mp with
 |spawn=>
  rw[hm] at cA;intro a ha vr;have h1:=cA a ha vr;cases hp:(upd G.st i s a).gD with
  |false=>rfl
  |true=>have:=(key a).1 ⟨vr,hp⟩;rw[h1] at this;exact absurd this.2 (by simp)
 |walk f az=>
  rw[hm] at cA;exact⟨cA.1,cA.2.1,λa=>by rw[cA.2.2 a];exact and_congr_right λ_=>(key a).symm⟩
 |db f az=>
  rw[hm] at cA;exact⟨cA.1,cA.2.1,λa=>by rw[cA.2.2 a];exact and_congr_right λ_=>(key a).symm⟩
def alg(h:FI X wb gs w t G)(sl:Option (Nat×Nat)){i:Nat}(hi:i<G.j)(aQ:wI X G i){M:aaa}{aL:Ψ}{x:ώ}(hx:gs[X.N0+i]?=φ x)(ha:G.act (X.N0+i)=φ ⟨M,x,aL⟩)
 (hS:W2 X M x w)(hp:¬ ∃r,G.cp=.db r):od X wb gs w sl t G (X.N0+i):=by
 obtain⟨_,_,⟨z,dq⟩,xV⟩:=hS;have jX:=h.n0;have rG:=h.jn;obtain⟨f1,f2,f3,f4,f5⟩:=aQ.facts;obtain⟨s,hc⟩:=h.kU;have mA:X.N0+i<gs.size:=(Ϟ.1 hx).1
 have bz:=Afi (P:=X.P) (sl:=sl) hx (by rw[h.sX];exact dq) (λcc cX=>by
  simp only[Af1,Af2] at cX;subst cX;exact ways_send_none hc (ϊ _) (ajy h hp))
 rw[nM] at bz;refine⟨_,_,_,{G with st:=upd G.st i .iu,act:=eW G.act (X.N0+i) (φ ⟨M,x,w⟩)},bz,?_,?_⟩
 ·refine h.zb (by simp) rfl rfl Iff.rfl (λi' bu=>?_) ?_ (λi' bu=>?_) (λhc=>?_) (λg h1 h2=>⟨?_,rfl,?_⟩) (λg hg=>?_) ?_ (adg h aQ rfl) (λe i' bu=>?_) (λhr i' bu=>absurd hr hp) (λe=>h.yJ e) (by simp only[Aag];exact h.wt.again ha x) h.kU h.kV h.base (by simp) (λi' bu hq=>?_) rfl
  ·by_cases e:i'=i
   ·subst e;simp only[upd_same];simp[f3]
   ·simp only[upd_ne _ _ e]
  ·obtain⟨y,hy,hs⟩:=h.main
   refine⟨y,by rw[one_set,if_neg (by omega)];exact hy,?_⟩
   exact fM.congr (G:=G) (by exact rfl) (by exact rfl) (by simp only[bP _ _ (show 0≠X.N0+i by omega)]) (by exact rfl) hs
  ·by_cases e:i'=i
   ·subst e
    refine⟨Ae4 x #[Aez X.cL (.bool θ) z] .send,by rw[one_set,if_pos ⟨rfl,mA⟩],?_⟩
    unfold WSit;simp only[upd_same,fE];exact⟨M,w,x,z,rfl,rfl,xV⟩
   ·obtain⟨y',dZ,cD⟩:=h.wk i' bu
    refine⟨y',by rw[one_set,if_neg (by omega)];exact dZ,?_⟩
    exact WSit.congr (G:=G) (by exact upd_ne _ _ e) (by simp only[bP _ _ (show X.N0+i'≠X.N0+i by omega)]) (by exact rfl) (by exact rfl) cD
  ·obtain⟨y',dZ,cD⟩:=h.cl hc
   refine⟨y',by rw[one_set,if_neg (by omega)];exact dZ,?_⟩
   exact CSit.congr (G:=G) (by exact rfl) (by simp only[bP _ _ (show X.N0+X.n≠X.N0+i by omega)]) (by exact rfl) (by exact rfl) cD
  ·rw[one_set,if_neg (by omega)]
  ·simp only[bP _ _ (show g≠X.N0+i by omega)]
   exact h.nN g h1 h2
  ·simp only[bP _ _ (show g≠X.N0+i by omega)]
   exact h.mw g hg
  ·have hq:=Bv G.st (show i<X.n by omega) .iu
   have e2:WS.q .iu=0:=rfl;have de:=h.cnt;unfold mY at de |-
   simp only;rw[show sumTo X.n (λa=>(upd G.st i .iu a).q)=sumTo X.n (λa=>(G.st a).q) by omega]
   exact de
  ·by_cases e2:i'=i
   ·subst e2;simp only[upd_same];simp
   ·simp only[upd_ne _ _ e2];exact h.mL e i' bu
  ·rw[Aag]
   by_cases e:i'=i
   ·subst e;simp only[upd_same] at hq;cases hq
   ·simp only[upd_ne _ _ e] at hq;exact h.kq i' bu hq
 ·have hm:=AZ G.st (show i<X.n by omega) .iu
  have e2:WS.w .iu=2:=rfl;unfold Gh.mu;simp only;omega
def heard(h:FI X wb gs w t G)(d:Nat){i:Nat}(hi:i<G.j)(DR:G.st i≠ .quit)(hnn:G.st i≠ .no)(Hu:∀a,(X.eU a=θ/\(upd G.st i .quit a).gD=θ)↔(X.eU a=θ/\(G.st a).gD=θ))
 {r:Nat}(o4:G.cp=.db (r+1)\/G.cp=.walk (r+1)){x y:ώ}{M Mc:aaa}{xg yg:ώ}{xw yw:Ψ}(ha:G.act (X.N0+i)=φ ⟨M,xg,xw⟩)(Dj:G.act (X.N0+X.n)=φ ⟨Mc,yg,yw⟩)
 {m:Nat}(hq:Ae1 X.P m x)(hy:y.status=.running)(hw:Walk X.P χ (pW X r) Mc y w){s:Nat}(hs:w.heap[X.cL]?=φ (.chan 0 #[] χ s s χ))
 {x1 x2 x3 x4:MemOp}(h1:x1.g=X.N0+i/\x1.act=.send X.cL s)(h2:x2.g=X.N0+X.n/\x2.act=.recv X.cL s 0)(h3:x3.g=X.N0+i/\x3.act=.sendDone X.cL s)(h4:x4.g=X.N0+X.n/\x4.act=.recvDone X.cL s)
 {aT:Array ώ}(aI:aT.size=gs.size)(Dx:aT[X.N0+i]?=φ x)(Dy:aT[X.N0+X.n]?=φ y)(hgo:∀k,k≠X.N0+i->k≠X.N0+X.n->aT[k]?=gs[k]?):
 ∃G',FI X wb aT ((w.at d).setChan X.cL 0 #[] χ (s+1) (s+1) χ) (t++#[x1,x2,x3,x4]) G'/\G'.mu X<G.mu X:=by
 have jX:=h.n0;have rG:=h.jn;have bj:G.cp.gC=χ:=by rcases o4 with e|e<;>rw[e]<;>rfl
 have o8:=h.jc bj;have eL:=h.ady (show i<X.n by omega) DR
 have mA:X.N0+i<gs.size:=by rw[<-aI];exact(Ϟ.1 Dx).1
 have tF:X.N0+X.n<gs.size:=by rw[<-aI];exact(Ϟ.1 Dy).1
 obtain⟨rM,qv⟩:=Mj (a:=X.N0+i) (b:=X.N0+X.n) (c:=X.cL) (s:=s) (r:=s) (cap:=0) (B:=w.heap.size) (N:=gs.size) h1 h2 h3 h4 h.wt.hL mA tF;obtain⟨c1,c2,c3⟩:=PL (w.at d) X.cL 0 #[] χ (s+1) (s+1) χ;have AP:=h.wt.mute (w':=(w.at d).setChan X.cL 0 #[] χ (s+1) (s+1) χ) rM c1 (λb hb _=>c2 b hb) rfl rfl rfl
 obtain⟨Tc,Dh⟩:=(hw.rely (OG (w':=(w.at d).setChan X.cL 0 #[] χ (s+1) (s+1) χ) c1 c2 (λb hb=>(h.wt.low _ _ Dj b hb).2.1) rfl rfl rfl)).tree
 have aw:X.N0+X.n≠X.N0+i:=by omega
 have Ed:=(AP.again Dj y).drop (X.N0+i);refine⟨{G with st:=upd G.st i .quit,cp:=.walk r,act:=eW (eW G.act (X.N0+X.n) (φ ⟨Mc,y,(w.at d).setChan X.cL 0 #[] χ (s+1) (s+1) χ⟩)) (X.N0+i) ν,q:=upd G.q (X.N0+i) m,tr:=upd G.tr (X.N0+X.n) Tc},?_,?_⟩
 ·refine h.zb aI rfl bj.symm Iff.rfl (λi' bu=>?_) ?_ (λi' bu=>?_) (λhc=>?_) (λg h1 h2=>⟨hgo g (by omega) (by omega),upd_ne _ _ (by omega),?_⟩) (λg hg=>?_) ?_ ?_ (λe i' bu=>?_) (λ⟨_,e⟩=>by cases e) (λ_=>rfl) Ed ?_ ?_ ⟨by rw[c1];exact h.base.size,h.base.tape,h.base.os,h.base.e⟩ qv (λi' bu hq=>?_) ?_
  ·by_cases e:i'=i
   ·subst e;simp only[upd_same];simp[hnn]
   ·simp only[upd_ne _ _ e]
  ·obtain⟨z,hz,aI⟩:=h.main
   refine⟨z,by rw[hgo 0 (by omega) (by omega)];exact hz,?_⟩
   exact fM.congr (G:=G) (by exact rfl) (by exact rfl) (by simp only[bP _ _ (show 0≠X.N0+i by omega),bP _ _ (show 0≠X.N0+X.n by omega)]) (by simp only[upd_ne _ _ (show 0≠X.N0+X.n by omega)]) aI
  ·by_cases e:i'=i
   ·subst e
    refine⟨x,Dx,?_⟩
    unfold WSit;simp only[upd_same,fE];exact⟨trivial,hq⟩
   ·obtain⟨y',dZ,cD⟩:=h.wk i' bu
    refine⟨y',by rw[hgo _ (by omega) (by omega)];exact dZ,?_⟩
    exact WSit.congr (G:=G) (by exact upd_ne _ _ e) (by simp only[bP _ _ (show X.N0+i'≠X.N0+i by omega),bP _ _ (show X.N0+i'≠X.N0+X.n by omega)]) (by simp only[upd_ne _ _ (show X.N0+i'≠X.N0+X.n by omega)]) (by simp only[upd_ne _ _ (show X.N0+i'≠X.N0+i by omega)]) cD
  ·refine⟨y,Dy,?_⟩
   unfold CSit;simp only[bP _ _ aw,fE,upd_same];exact⟨Mc,_,rfl,hy,Dh⟩
  ·simp only[bP _ _ (show g≠X.N0+i by omega),bP _ _ (show g≠X.N0+X.n by omega)]
   exact h.nN g h1 h2
  ·simp only[bP _ _ (show g≠X.N0+i by omega),bP _ _ (show g≠X.N0+X.n by omega)]
   exact h.mw g hg
  ·have hqs:=Bv G.st (show i<X.n by omega) .quit
   have e1:(G.st i).q=0:=by unfold WS.q;rw[if_neg DR]
   have e2:WS.q .quit=1:=rfl;have de:=h.cnt;have an8:(r+1)+sumTo X.n (λa=>(G.st a).q)=X.n:=by
    unfold mY at de;rcases o4 with e|e<;>rw[e] at de<;>exact de
   show r+sumTo X.n (λa=>(upd G.st i .quit a).q)=X.n
   omega
  ·have cA:=h.az
   unfold sn at cA |-
   simp only;cases hmm:G.mp with
   |spawn=>exact absurd (h.mc.2 bj) (by rw[hmm];rintro⟨_,_,e|e⟩<;>cases e)
   |walk f az=>
    rw[hmm] at cA;exact⟨cA.1,cA.2.1,λa=>by rw[cA.2.2 a];exact and_congr_right λ_=>(Hu a).symm⟩
   |db f az=>
    rw[hmm] at cA;exact⟨cA.1,cA.2.1,λa=>by rw[cA.2.2 a];exact and_congr_right λ_=>(Hu a).symm⟩
  ·by_cases e2:i'=i
   ·subst e2;simp only[upd_same];simp
   ·simp only[upd_ne _ _ e2];exact h.mL e i' bu
  ·exact⟨s+1,c3 h.wt.hL⟩
  ·obtain⟨s',e'⟩:=h.kV
   rw[eL] at e';exact⟨s',by rw[c2 _ (Ag2 h.neq)];exact e'⟩
  ·by_cases e:i'=i
   ·subst e
    intro k a vp hg;obtain⟨op,ab,cB⟩:=Aew vp;rcases Aex ab with⟨_,bG⟩ | ⟨_,dN⟩
    ·have hk:Knows t (X.N0+i') k:=sU.self t (X.N0+i') k a (by rw[Aey bG];exact cB) (by simpa [Afx,ab,bG] using hg)
     exact adX h.wt.nd h1 h2 h3 h4 hk
    ·rw[(qv op dN).1] at cB;cases cB
   ·simp only[upd_ne _ _ e] at hq
    exact(h.kq i' bu hq).app λop ab _=>(qv op ab).1
  ·rw[eL];rfl
 ·have hm:=AZ G.st (show i<X.n by omega) .quit
  have e2:WS.w .quit=0:=rfl;unfold Gh.mu;simp only;rcases o4 with e|e<;>rw[e]<;>simp only[CP.w]<;>omega
def Wx{i:Nat}(h:wI X G i\/G.st i=.iu):∀a,(X.eU a=θ/\(upd G.st i .quit a).gD=θ)↔(X.eU a=θ/\(G.st a).gD=θ):=by
 intro a;by_cases e:a=i
 ·subst e
  rw[upd_same];rcases h with h|h
  ·exact(h.facts.2.2.2.2 .quit rfl).symm
  ·rw[h];exact Iff.rfl
 ·rw[upd_ne _ _ e]
def alf(h:FI X wb gs w t G)(sl:Option (Nat×Nat)){i:Nat}(hi:i<G.j)(aQ:wI X G i){M:aaa}{aL:Ψ}{x:ώ}(hx:gs[X.N0+i]?=φ x)(ha:G.act (X.N0+i)=φ ⟨M,x,aL⟩)
 (hS:W2 X M x w){r:Nat}(hp:G.cp=.db r):od X wb gs w sl t G (X.N0+i):=by
 obtain⟨_,_,⟨z,dq⟩,m,hq⟩:=hS;have jX:=h.n0;have rG:=h.jn;have bj:G.cp.gC=χ:=by rw[hp];rfl
 have o8:=h.jc bj;obtain⟨f1,f2,f3,f4,f5⟩:=aQ.facts;obtain⟨y0,h0,dY⟩:=h.cl bj;unfold CSit at dY;rw[hp] at dY;obtain⟨r',Mc,v0,y,z0,rfl,Dj,rfl,hW⟩:=dY;obtain⟨s,hc⟩:=h.kU;have bz:=crowd_send_meets (P:=X.P) (sl:=sl) hx (by rw[h.sX];exact dq) hc (show X.N0+X.n≠X.N0+i by omega) h0 (ajz h (by omega) h0)
 rw[nM,Aen] at bz;have tF:X.N0+X.n<gs.size:=(Ϟ.1 h0).1
 have mA:X.N0+i<gs.size:=(Ϟ.1 hx).1
 obtain⟨G',hF,mC⟩:=heard h w.drawn hi f4 f3 (Wx (.inl aQ)) (.inl hp) ha Dj hq (Xi y (Ae3 χ (.bool θ) θ)) (hW.rely (h.wt.keep _ _ Dj)) hc
  (x1:={g:=X.N0+i,fn:=x.frame.fn,pos:=x.frame.place,act:=.send X.cL s}) (x2:={g:=X.N0+X.n,fn:=y.frame.fn,pos:=y.frame.place,act:=.recv X.cL s 0})
  (x3:={g:=X.N0+i,fn:=x.frame.fn,pos:=x.frame.place,act:=.sendDone X.cL s}) (x4:={g:=X.N0+X.n,fn:=y.frame.fn,pos:=y.frame.place,act:=.recvDone X.cL s}) ⟨rfl,rfl⟩ ⟨rfl,rfl⟩ ⟨rfl,rfl⟩ ⟨rfl,rfl⟩
  (aT:=(gs.setIfInBounds (X.N0+X.n) (Ϭ y (Ae3 χ (.bool θ) θ))).setIfInBounds (X.N0+i) (Ϭ x ω)) (by simp) (by rw[me,if_pos ⟨rfl,mA⟩]) (by rw[me,if_neg (by omega),if_pos ⟨rfl,tF⟩]) (λk h1 h2=>by rw[me,if_neg (λe=>h1 e.1),if_neg (λe=>h2 e.1)])
 exact⟨_,_,_,G',bz,hF,mC⟩
def ajT(h:FI X wb gs w t G)(sl:Option (Nat×Nat)){r:Nat}(hp:G.cp=.walk (r+1)){M:aaa}{aL:Ψ}{x:ώ}(hx:gs[X.N0+X.n]?=φ x)(ha:G.act (X.N0+X.n)=φ ⟨M,x,aL⟩)
 (hS:pW X (r+1) M x w)(hex:∃i,i<X.n/\G.st i=.iu):od X wb gs w sl t G (X.N0+X.n):=by
 obtain⟨_,_,⟨z,dq⟩,hW⟩:=hS;have jX:=h.n0;have bj:G.cp.gC=χ:=by rw[hp];rfl
 have o8:=h.jc bj;obtain⟨s,hc⟩:=h.kU;have MS:(X.N0+X.n==0)=χ:=h.sX X.n;have aw:Aes (gs.setIfInBounds (X.N0+X.n) ph) X.cL θ≠ []:=by
  obtain⟨i,hi,aQ⟩:=hex;obtain⟨y,hy,hs⟩:=h.wk i (by omega)
  unfold WSit at hs;rw[aQ] at hs;obtain⟨Mi,wi,y',z',_,hyp,_⟩:=hs;have:(X.N0+i,0)∈Aes (gs.setIfInBounds (X.N0+X.n) ph) X.cL θ:=mem_partners.2 ⟨y,stand_get (by omega) hy,by rw[hyp,Afd,if_pos rfl];simp⟩
  exact List.ne_nil_of_mem this
 have nO:∀j k,(j,k)∈Aes (gs.setIfInBounds (X.N0+X.n) ph) X.cL θ->k=0/\j≠X.N0+X.n/\∃gj vj zj Fx,gs[j]?=φ (Ae4 gj #[Aez X.cL vj zj] Fx):=by
  intro j k hm;obtain⟨y,hy,hk⟩:=mem_partners.1 hm;rcases Afe gs _ j y hy with⟨_,rfl⟩ | ⟨hj,hy⟩
  ·rw[Aff] at hk;cases hk
  ·obtain⟨e,g,v,z,hyp⟩:=Wn h hy hk
   exact⟨e,hj,g,v,z,.send,by rw[hy,hyp]⟩
 obtain⟨j,gj,vj,zj,Fx,d,hj,Dw,bz⟩:=crowd_recv_meets_some (P:=X.P) (sl:=sl) hx (by rw[MS];exact dq) hc aw nO
 rw[nM,Aen] at bz;obtain⟨i,Mi,wi,yi,hi,rfl,aQ,rfl,rfl,G6,oD,m,hq⟩:=h.RD Dw;have tF:X.N0+X.n<gs.size:=(Ϟ.1 hx).1
 have mA:X.N0+i<gs.size:=(Ϟ.1 Dw).1
 obtain⟨G',hF,mC⟩:=heard h d hi (by rw[aQ];simp) (by rw[aQ];simp) (Wx (.inr aQ)) (.inr hp) G6 ha (x:=Ϭ gj ω) (by rw[oD];exact hq) (Xi x (Ae3 χ (.bool θ) θ)) hW hc
  (x1:={g:=X.N0+i,fn:=gj.frame.fn,pos:=gj.frame.place,act:=.send X.cL s}) (x2:={g:=X.N0+X.n,fn:=x.frame.fn,pos:=x.frame.place,act:=.recv X.cL s 0})
  (x3:={g:=X.N0+i,fn:=gj.frame.fn,pos:=gj.frame.place,act:=.sendDone X.cL s}) (x4:={g:=X.N0+X.n,fn:=x.frame.fn,pos:=x.frame.place,act:=.recvDone X.cL s}) ⟨rfl,rfl⟩ ⟨rfl,rfl⟩ ⟨rfl,rfl⟩ ⟨rfl,rfl⟩
  (aT:=(gs.setIfInBounds (X.N0+i) (Ϭ gj ω)).setIfInBounds (X.N0+X.n) (Ϭ x (Ae3 χ (.bool θ) θ))) (by simp) (by rw[me,if_neg (by omega),if_pos ⟨rfl,mA⟩]) (by rw[me,if_pos ⟨rfl,tF⟩]) (λk h1 h2=>by rw[me,if_neg (λe=>h2 e.1),if_neg (λe=>h1 e.1)])
 exact⟨_,_,_,G',bz,hF,mC⟩
def ajU(h:FI X wb gs w t G)(sl:Option (Nat×Nat)){r:Nat}(hp:G.cp=.walk (r+1)){M:aaa}{aL:Ψ}{x:ώ}(hx:gs[X.N0+X.n]?=φ x)(ha:G.act (X.N0+X.n)=φ ⟨M,x,aL⟩)
 (hS:pW X (r+1) M x w)(hex:¬ ∃i,i<X.n/\G.st i=.iu):od X wb gs w sl t G (X.N0+X.n):=by
 obtain⟨_,_,⟨z,dq⟩,hW⟩:=hS;have jX:=h.n0;have bj:G.cp.gC=χ:=by rw[hp];rfl
 have o8:=h.jc bj;obtain⟨s,hc⟩:=h.kU;have MS:(X.N0+X.n==0)=χ:=h.sX X.n;have eL:G.closed=χ:=by unfold Gh.closed;rw[hp]
 have xX:Aes (gs.setIfInBounds (X.N0+X.n) ph) X.cL θ=[]:=by
  refine Afg λj y hy=>?_
  rcases Afe gs _ j y hy with⟨_,rfl⟩ | ⟨hj,hy⟩
  ·exact Aff _ _
  ·cases hl:Ae8 y X.cL θ with
   |nil=>rfl
   |cons a l=>
    exfalso;obtain⟨e,g,v,z',hyp⟩:=Wn h (m:=a) hy (by rw[hl];simp)
    rw[hyp] at hy;obtain⟨i,_,_,_,hi,_,aQ,_⟩:=h.RD hy;exact hex ⟨i,by omega,aQ⟩
 have bz:=Afi (P:=X.P) (sl:=sl) hx (by rw[MS];exact dq) (λcc cX=>by
  simp only[Af1,Af2] at cX;subst cX;exact ways_recv_none hc xX)
 rw[nM] at bz;have tF:X.N0+X.n<gs.size:=(Ϟ.1 hx).1
 refine⟨_,_,_,{G with cp:=.db (r+1),act:=eW G.act (X.N0+X.n) (φ ⟨M,x,w⟩)},bz,?_,?_⟩
 ·refine h.zb (by simp) rfl bj.symm Iff.rfl (λi' bu=>Iff.rfl) ?_ (λi' bu=>?_) (λhc=>?_) (λg h1 h2=>⟨?_,rfl,?_⟩) (λg hg=>?_) ?_ h.az (λe=>h.mL e) (λ_ i' bu aQ=>hex ⟨i',bu,aQ⟩) (λ_=>rfl) (by simp only[Aag];exact h.wt.again ha x) h.kU (by obtain⟨s',e⟩:=h.kV;rw[eL] at e;exact⟨s',e⟩) h.base (by simp) (λi' bu hq=>by rw[Aag];exact h.kq i' bu hq) (by rw[eL];rfl)
  ·obtain⟨y,hy,hs⟩:=h.main
   refine⟨y,by rw[one_set,if_neg (by omega)];exact hy,?_⟩
   exact fM.congr (G:=G) (by exact rfl) (by exact rfl) (by simp only[bP _ _ (show 0≠X.N0+X.n by omega)]) (by exact rfl) hs
  ·obtain⟨y',dZ,cD⟩:=h.wk i' bu
   refine⟨y',by rw[one_set,if_neg (by omega)];exact dZ,?_⟩
   exact WSit.congr (G:=G) (by exact rfl) (by simp only[bP _ _ (show X.N0+i'≠X.N0+X.n by omega)]) (by exact rfl) (by exact rfl) cD
  ·refine⟨Ae4 x #[Ae2 X.cL z] (.recv χ),by rw[one_set,if_pos ⟨rfl,tF⟩],?_⟩
   unfold CSit;simp only[fE];exact⟨r,M,w,x,z,rfl,rfl,rfl,hW⟩
  ·rw[one_set,if_neg (by omega)]
  ·simp only[bP _ _ (show g≠X.N0+X.n by omega)]
   exact h.nN g h1 h2
  ·simp only[bP _ _ (show g≠X.N0+X.n by omega)]
   exact h.mw g hg
  ·have de:=h.cnt
   unfold mY at de |-
   rw[hp] at de;exact de
 ·unfold Gh.mu
  simp only[hp,CP.w];omega
def ajW(h:FI X wb gs w t G)(sl:Option (Nat×Nat)){f:Nat}{az:List Nat}(hp:G.mp=.walk f az){M:aaa}{aL:Ψ}{x y:ώ}(hx:gs[0]?=φ x)(ha:G.act 0=φ ⟨M,y,aL⟩)(ik:pV x y)
 (hS:∀aa,bN M aL aa->nj X f az M y aa)(eL:G.closed=χ)(hex:¬ ∃i,i<X.n/\G.st i=.iR):od X wb gs w sl t G 0:=by
 obtain⟨_,_,z,dq,_⟩:=(hS w (h.wt.keep _ _ ha)).at;have jX:=h.n0;have rG:=h.jn;obtain⟨s,hc⟩:=h.kV;rw[eL] at hc;have xX:Aes (gs.setIfInBounds 0 ph) X.cN θ=[]:=by
  refine Afg λj y hy=>?_
  rcases Afe gs _ j y hy with⟨_,rfl⟩ | ⟨hj,hy⟩
  ·exact Aff _ _
  ·cases hl:Ae8 y X.cN θ with
   |nil=>rfl
   |cons a l=>
    exfalso;obtain⟨e,g,v,z',hyp⟩:=O6 h (m:=a) hy (by rw[hl];simp)
    rw[hyp] at hy;obtain⟨i,_,_,_,hi,_,aQ,_⟩:=h.Lt hy;exact hex ⟨i,by omega,aQ⟩
 have pf:ϛ X.P (0==0) x w=.comm y #[Ae2 X.cN z] θ (.recv θ) w #[]:=by
  rw[Afj ik.1 ik.2.1 ik.2.2.1];exact dq
 have bz:=Afi (P:=X.P) (sl:=sl) hx pf (λcc cX=>by
  simp only[Af1,Af2] at cX;subst cX;exact ways_recv_none hc xX)
 rw[nM] at bz;have jW:0<gs.size:=(Ϟ.1 hx).1
 refine⟨_,_,_,{G with mp:=.db f az},bz,?_,?_⟩
 ·refine h.zb (by simp) rfl rfl ⟨λ_=>⟨_,_,.inl hp⟩,λ_=>⟨_,_,.inr rfl⟩⟩ (λi' bu=>Iff.rfl) ?_ (λi' bu=>?_) (λhc=>?_) (λg h1 h2=>⟨?_,rfl,h.nN g h1 h2⟩) h.mw h.cnt ?_ (λ_ i' bu e=>hex ⟨i',bu,e⟩) (λe=>h.vN e) (λ_=>eL) (by simp only[Aag];exact h.wt) h.kU h.kV h.base (by simp) (λi' bu hq=>by rw[Aag];exact h.kq i' bu hq) rfl
  ·refine⟨Ae4 y #[Ae2 X.cN z] (.recv θ),by rw[one_set,if_pos ⟨rfl,jW⟩],?_⟩
   unfold fM;exact⟨M,aL,y,z,ha,rfl,hS⟩
  ·obtain⟨y',dZ,cD⟩:=h.wk i' bu
   exact⟨y',by rw[one_set,if_neg (by omega)];exact dZ,WSit.congr (G:=G) (by exact rfl) (by exact rfl) (by exact rfl) (by exact rfl) cD⟩
  ·obtain⟨y',dZ,cD⟩:=h.cl hc
   exact⟨y',by rw[one_set,if_neg (by omega)];exact dZ,CSit.congr (G:=G) (by exact rfl) (by exact rfl) (by exact rfl) (by exact rfl) cD⟩
  ·rw[one_set,if_neg (by omega)]
  ·have cA:=h.az
   unfold sn at cA |-
   rw[hp] at cA;exact cA
 ·unfold Gh.mu
  simp only[hp,MP.w];omega
def ajV(h:FI X wb gs w t G)(sl:Option (Nat×Nat)){f:Nat}{az:List Nat}(hp:G.mp=.walk f az){M0:aaa}{v0:Ψ}{x y:ώ}(h0:gs[0]?=φ x)(qf:G.act 0=φ ⟨M0,y,v0⟩)(ik:pV x y)
 (hR:∀aa,bN M0 v0 aa->nj X f az M0 y aa)(hex:∃i,i<X.n/\G.st i=.iR):od X wb gs w sl t G 0:=by
 have jX:=h.n0;have rG:=h.jn;have cA:=h.az;unfold sn at cA;rw[hp] at cA;obtain⟨g1,g2,g3⟩:=cA;have eL:G.closed=χ:=by
  obtain⟨i,hi,aQ⟩:=hex;exact h.ady hi (by rw[aQ];simp)
 obtain⟨s,hc⟩:=h.kV;rw[eL] at hc;have aw:Aes (gs.setIfInBounds 0 ph) X.cN θ≠ []:=by
  obtain⟨i,hi,aQ⟩:=hex;obtain⟨y,hy,hs⟩:=h.wk i (h.afc hi (by rw[aQ];simp))
  unfold WSit at hs;rw[aQ] at hs;obtain⟨Mi,wi,y',z',_,hyp,_⟩:=hs;have:(X.N0+i,0)∈Aes (gs.setIfInBounds 0 ph) X.cN θ:=mem_partners.2 ⟨y,stand_get (by omega) hy,by rw[hyp,Afd,if_pos rfl];simp⟩
  exact List.ne_nil_of_mem this
 have nO:∀j k,(j,k)∈Aes (gs.setIfInBounds 0 ph) X.cN θ->k=0/\j≠0/\∃gj vj zj Fx,gs[j]?=φ (Ae4 gj #[Aez X.cN vj zj] Fx):=by
  intro j k hm;obtain⟨y,hy,hk⟩:=mem_partners.1 hm;rcases Afe gs _ j y hy with⟨_,rfl⟩ | ⟨hj,hy⟩
  ·rw[Aff] at hk;cases hk
  ·obtain⟨e,g,v,z,hyp⟩:=O6 h hy hk
   exact⟨e,hj,g,v,z,.send,by rw[hy,hyp]⟩
 obtain⟨_,_,z,dq,_⟩:=(hR w (h.wt.keep _ _ qf)).at;have pf:ϛ X.P (0==0) x w=.comm y #[Ae2 X.cN z] θ (.recv θ) w #[]:=by
  rw[Afj ik.1 ik.2.1 ik.2.2.1];exact dq
 obtain⟨j,gj,vj,zj,Fx,d,hj,Dw,bz⟩:=crowd_recv_meets_some (P:=X.P) (sl:=sl) h0 pf hc aw nO;rw[nM,Aen] at bz;obtain⟨i,M,aL,yi,hi,rfl,aQ,rfl,rfl,hn,ha,oD,xV⟩:=h.Lt Dw;have xW:i ∉ az:=λe=>by have:=((g3 i).1 e).2.2;rw[aQ] at this;cases this
 obtain⟨f',rfl⟩:∃f',f=f'+1:=by
  have h1:=Ba X.n (i::az) (List.nodup_cons.2 ⟨xW,g1⟩) λa ha=>by
   rcases ϫ.1 ha with rfl|ha
   ·omega
   ·exact((g3 a).1 ha).1
  simp only[Af5] at h1;exact⟨f - 1,by omega⟩
 have jW:0<gs.size:=(Ϟ.1 h0).1
 have mA:X.N0+i<gs.size:=(Ϟ.1 Dw).1
 obtain⟨rM,qv⟩:=Mj (a:=X.N0+i) (b:=0) (c:=X.cN) (s:=s) (r:=s) (cap:=0) (B:=w.heap.size) (N:=gs.size)
  (x1:={g:=X.N0+i,fn:=gj.frame.fn,pos:=gj.frame.place,act:=.send X.cN s}) (x2:={g:=0,fn:=y.frame.fn,pos:=y.frame.place,act:=.recv X.cN s 0})
  (x3:={g:=X.N0+i,fn:=gj.frame.fn,pos:=gj.frame.place,act:=.sendDone X.cN s}) (x4:={g:=0,fn:=y.frame.fn,pos:=y.frame.place,act:=.recvDone X.cN s}) ⟨rfl,rfl⟩ ⟨rfl,rfl⟩ ⟨rfl,rfl⟩ ⟨rfl,rfl⟩ h.wt.hN mA jW
 obtain⟨c1,c2,c3⟩:=PL (w.at d) X.cN 0 #[] χ (s+1) (s+1) χ;obtain⟨_,_,z1,_,_,adW⟩:=hR w (h.wt.keep _ _ qf);have AP:=h.wt.mute (w':=(w.at d).setChan X.cN 0 #[] χ (s+1) (s+1) χ) rM c1 (λb _ hb=>c2 b hb) rfl rfl rfl
 obtain⟨T0,tt⟩:=((adW i (by omega) hn xW).rely (OG (w':=(w.at d).setChan X.cN 0 #[] χ (s+1) (s+1) χ) c1 c2 (λb hb=>(h.wt.low 0 _ qf b hb).2.2) rfl rfl rfl)).tree
 obtain⟨Ti,G4⟩:=((xV.rely (h.wt.keep _ _ ha)).rely (OG (w':=(w.at d).setChan X.cN 0 #[] χ (s+1) (s+1) χ) c1 c2 (λb hb=>(h.wt.low _ _ ha b hb).2.2) rfl rfl rfl)).tree
 rw[<-oD] at G4;have Ed:=(AP.again qf (Ϭ y (Ae3 θ (X.val i) θ))).again (g:=X.N0+i) (j:=⟨M,yi,aL⟩) (by rw[bP _ _ (by omega)];exact ha) (Ϭ gj ω)
 refine⟨_,_,_,{G with st:=upd G.st i .iz,mp:=.walk f' (az++ [i]),act:=eW (eW G.act 0 (φ ⟨M0,Ϭ y (Ae3 θ (X.val i) θ),(w.at d).setChan X.cN 0 #[] χ (s+1) (s+1) χ⟩)) (X.N0+i) (φ ⟨M,Ϭ gj ω,(w.at d).setChan X.cN 0 #[] χ (s+1) (s+1) χ⟩),tr:=upd (upd G.tr 0 T0) (X.N0+i) Ti},bz,?_,?_⟩
 ·refine h.zb (by simp) rfl rfl ?_ (λi' bu=>?_) ?_ (λi' bu=>?_) (λhc=>?_) (λg h1 h2=>⟨?_,rfl,?_⟩) (λg hg=>?_) ?_ ?_ (λ⟨_,_,e⟩=>by cases e) (λhr i' bu=>?_) (λ⟨_,_,e⟩=>by cases e) Ed ?_ ?_ ⟨by rw[c1];exact h.base.size,h.base.tape,h.base.os,h.base.e⟩ qv (λi' bu hq=>?_) rfl
  ·exact⟨λ_=>⟨_,_,.inl hp⟩,λ_=>⟨_,_,.inl rfl⟩⟩
  ·by_cases e:i'=i
   ·subst e;simp only[upd_same];rw[aQ];simp
   ·simp only[upd_ne _ _ e]
  ·refine⟨Ϭ y (Ae3 θ (X.val i) θ),?_,?_⟩
   ·rw[me,if_pos ⟨rfl,jW⟩];rfl
   ·exact⟨M0,(w.at d).setChan X.cN 0 #[] χ (s+1) (s+1) χ,Ϭ y (Ae3 θ (X.val i) θ),by simp only[bP _ _ (show 0≠X.N0+i by omega),fE],pV.refl rfl,by simp only[upd_ne _ _ (show 0≠X.N0+i by omega),upd_same];exact tt⟩
  ·by_cases e:i'=i
   ·subst e
    refine⟨Ϭ gj ω,?_,?_⟩
    ·rw[me,if_neg (by omega),if_pos ⟨rfl,mA⟩];rfl
    ·unfold WSit
     simp only[upd_same,fE];exact⟨M,_,rfl,rfl,G4⟩
   ·obtain⟨y',dZ,cD⟩:=h.wk i' bu
    refine⟨y',by rw[me,if_neg (by omega),if_neg (by omega)];exact dZ,?_⟩
    refine WSit.congr (G:=G) (by exact upd_ne _ _ e) ?_ ?_ (by exact rfl) cD
    ·simp only[bP _ _ (show X.N0+i'≠X.N0+i by omega),bP _ _ (show X.N0+i'≠0 by omega)]
    ·simp only[upd_ne _ _ (show X.N0+i'≠X.N0+i by omega),upd_ne _ _ (show X.N0+i'≠0 by omega)]
  ·obtain⟨y',dZ,cD⟩:=h.cl hc
   refine⟨y',by rw[me,if_neg (by omega),if_neg (by omega)];exact dZ,?_⟩
   refine CSit.congr (G:=G) (by exact rfl) ?_ ?_ (by exact rfl) cD
   ·simp only[bP _ _ (show X.N0+X.n≠X.N0+i by omega),bP _ _ (show X.N0+X.n≠0 by omega)]
   ·simp only[upd_ne _ _ (show X.N0+X.n≠X.N0+i by omega),upd_ne _ _ (show X.N0+X.n≠0 by omega)]
  ·rw[me,if_neg (by omega),if_neg (by omega)]
  ·simp only[bP _ _ (show g≠X.N0+i by omega),bP _ _ (show g≠0 by omega)]
   exact h.nN g h1 h2
  ·simp only[bP _ _ (show g≠X.N0+i by omega),bP _ _ (show g≠0 by omega)]
   exact h.mw g hg
  ·have hq:=Bv G.st (show i<X.n by omega) .iz
   have e1:(G.st i).q=0:=by rw[aQ];rfl
   have e2:WS.q .iz=0:=rfl;have de:=h.cnt;unfold mY at de |-
   simp only;rw[show sumTo X.n (λa=>(upd G.st i .iz a).q)=sumTo X.n (λa=>(G.st a).q) by omega]
   exact de
  ·refine⟨List.nodup_append.2 ⟨g1,by simp,λa Hj b hb=>?_⟩,by simp only[Af6,Af7];omega,λa=>?_⟩
   ·simp only[Af2] at hb
    subst hb
    exactλe=>xW (e▸Hj)
   ·by_cases e:a=i
    ·subst e
     simp only[Af8,Af2,or_true,upd_same,true_iff];exact⟨by omega,hn,rfl⟩
    ·simp only[Af8,Af2,e,or_false,upd_ne _ _ e]
     exact g3 a
  ·by_cases e:i'=i
   ·subst e;simp only[upd_same];simp
   ·simp only[upd_ne _ _ e];exact h.vN hr i' bu
  ·obtain⟨s',e'⟩:=h.kU
   exact⟨s',by rw[c2 _ h.neq];exact e'⟩
  ·exact⟨s+1,by rw[c3 h.wt.hN];unfold Gh.closed at eL |-;simp only;rw[eL]⟩
  ·have mD:G.st i'=.quit:=by
    by_cases e:i'=i
    ·subst e;simp only[upd_same] at hq;cases hq
    ·simp only[upd_ne _ _ e] at hq;exact hq
   exact(h.kq i' bu mD).app λop ab _=>(qv op ab).1
 ·have hm:=AZ G.st (show i<X.n by omega) .iz
  have e1:(G.st i).w=4:=by rw[aQ];rfl
  have e2:WS.w .iz=3:=rfl;unfold Gh.mu;simp only[hp,MP.w];omega
def uT{i:Nat}{x y:ώ}:((gs.setIfInBounds 0 x).push y)[i]?=if i=gs.size then φ y else if i=0/\0<gs.size then φ x else gs[i]?:=by
 rw[Array.getElem?_push,Aem]
 by_cases h:i=gs.size
 ·rw[if_pos h,if_pos h]
 ·rw[if_neg h,if_neg h,one_set]
def Xu{N:Nat}{x1 x2:MemOp}(h1:x1.act=.go N)(h2:x2.act=.start):∀op∈#[x1,x2],op.act.touch? =ν:=by
 intro op ab;simp only[Af1,ϫ,Λ,or_false] at ab;rcases ab with rfl|rfl
 ·rw[h1];rfl
 ·rw[h2];rfl
def alN(h:FI X wb gs w t G)(sl:Option (Nat×Nat))(hp:G.mp=.spawn){r:Nat}(hr:X.n - G.j=r+1){M:aaa}{aL:Ψ}{x:ώ}(hx:gs[0]?=φ x)(ha:G.act 0=φ ⟨M,x,aL⟩)
 (hS:StopA X (r+1) M x w):od X wb gs w sl t G 0:=by
 obtain⟨_,cy,child,dq,kG,xK,ZZ,eC⟩:=hS;have jX:=h.n0;have bj:G.cp.gC=θ:=by
  cases e:G.cp.gC with
  |true=>rfl
  |false=>exact absurd (h.mc.2 e) (by rw[hp];rintro⟨_,_,e|e⟩<;>cases e)
 have yk:gs.size=X.N0+G.j:=by have:=h.size;rw[bj] at this;simpa using this
 have hi:X.n - (r+1)=G.j:=by omega
 rw[hi] at ZZ;have jZ:X.n - (G.j+1)=r:=by omega
 have jW:0<gs.size:=(Ϟ.1 hx).1
 have bz:=runT_crowd_spawn (P:=X.P) (sl:=sl) (i:=0) hx (show ϛ X.P (0==0) x w=_ from dq)
 rw[nM] at bz;have ya:(#[].push ({g:=0,fn:=x.frame.fn,pos:=x.frame.place,act:=.go gs.size}:MemOp) |>.push {g:=gs.size,fn:=child.frame.fn,pos:=x.frame.place,act:=.start})=#[{g:=0,fn:=x.frame.fn,pos:=x.frame.place,act:=.go gs.size},{g:=gs.size,fn:=child.frame.fn,pos:=x.frame.place,act:=.start}]:=rfl
 rw[ya] at bz;obtain⟨T0,tt⟩:=eC.tree;obtain⟨Tc,Dh⟩:=ZZ.tree;have Dv:=h.mw gs.size (ϊ _);have tO:=h.wt.spawn ha Dv (by omega) (x:={g:=0,fn:=x.frame.fn,pos:=x.frame.place,act:=.go gs.size}) (y:={g:=gs.size,fn:=child.frame.fn,pos:=x.frame.place,act:=.start}) ⟨rfl,rfl⟩ ⟨rfl,rfl⟩ cy child
 have mC:=Xu (N:=gs.size) (x1:={g:=0,fn:=x.frame.fn,pos:=x.frame.place,act:=.go gs.size}) (x2:={g:=gs.size,fn:=child.frame.fn,pos:=x.frame.place,act:=.start}) rfl rfl;generalize hu:(#[{g:=0,fn:=x.frame.fn,pos:=x.frame.place,act:=.go gs.size},{g:=gs.size,fn:=child.frame.fn,pos:=x.frame.place,act:=.start}]:ϭ)=u at bz tO mC;have Oe:∀op∈u,op.g<gs.size+1:=by
  rw[<-hu];intro op ab;simp only[Af1,ϫ,Λ,or_false] at ab;rcases ab with rfl|rfl
  ·exact Nat.succ_pos _
  ·exact Nat.lt_succ_self _
 have eL:G.closed=χ:=by
  unfold Gh.closed;cases e:G.cp with
  |quit=>rw[e] at bj;cases bj
  |_=>rfl
 have old:∀ {k a},Aev (t++u) k=φ a->Aev t k=φ a/\(t++u).g? k= t.g? k:=by
  intro k a ha;obtain⟨op,ab,cB⟩:=Aew ha;rcases Aex ab with⟨_,bG⟩ | ⟨_,dN⟩
  ·exact⟨by rw[Aey bG];exact cB,by simp[Afx,ab,bG]⟩
  ·rw[mC op dN] at cB;cases cB
 have Nt:G.j<X.n:=by omega
 have Vi:G.st G.j=.no:=(h.uh G.j Nt).2 (ϊ _);refine⟨_,_,_,{G with j:=G.j+1,st:=upd G.st G.j .ku,act:=eW (eW G.act 0 (φ ⟨M.shared,cy,w⟩)) gs.size (φ ⟨M.shared,child,w⟩),tr:=upd (upd G.tr 0 T0) gs.size Tc},bz,?_,?_⟩
 ·refine⟨?_,jX,by simp only;omega,λhc=>(by have hc:G.cp.gC=χ:=hc;rw[bj] at hc;cases hc),h.mc,λi hi=>?_,?_,λi hi=>?_,λhc=>(by have hc:G.cp.gC=χ:=hc;rw[bj] at hc;cases hc),λg y h1 h2 hy=>?_,λg h1 h2=>?_,λg hg=>?_,?_,?_,λ⟨_,_,e⟩=>(by have e:G.mp=_:=e;rw[hp] at e;cases e),λ⟨r,e⟩=>?_,λ⟨_,_,e⟩=>(by have e:G.mp=_:=e;rw[hp] at e;cases e),tO,h.kU,h.kV,h.neq,h.base,λk a ha hm g hg al=>?_,λk g hg=>?_,λi hi hq=>?_,λhc k a ha=>?_,λhc=>(by rw[show Gh.closed {G with j:=G.j+1,st:=upd G.st G.j .ku,act:=eW (eW G.act 0 (φ ⟨M.shared,cy,w⟩)) gs.size (φ ⟨M.shared,child,w⟩),tr:=upd (upd G.tr 0 T0) gs.size Tc}=G.closed from rfl,eL] at hc;cases hc)⟩
  ·simp only[Aeo,Aem,bj,if_true];omega
  ·by_cases e:i=G.j
   ·subst e;simp only[upd_same];simp
   ·simp only[upd_ne _ _ e]
    rw[h.uh i hi];omega
  ·refine⟨cy,by rw[uT,if_neg (by omega),if_pos ⟨rfl,jW⟩],?_⟩
   unfold fM;simp only[hp,bP _ _ (show 0≠gs.size by omega),fE,upd_ne _ _ (show 0≠gs.size by omega),upd_same]
   exact⟨_,_,rfl,kG,by rw[jZ];exact tt⟩
  ·by_cases e:i=G.j
   ·subst e
    refine⟨child,by rw[uT,if_pos yk.symm],?_⟩
    unfold WSit;simp only[upd_same,<-yk,fE];exact⟨_,_,rfl,xK,Dh⟩
   ·have vm:i<G.j+1:=hi
    obtain⟨y',dZ,cD⟩:=h.wk i (by omega)
    refine⟨y',by rw[uT,if_neg (by omega),if_neg (by omega)];exact dZ,?_⟩
    exact WSit.congr (G:=G) (by exact upd_ne _ _ e) (by simp only[bP _ _ (show X.N0+i≠gs.size by omega),bP _ _ (show X.N0+i≠0 by omega)]) (by simp only[upd_ne _ _ (show X.N0+i≠gs.size by omega),upd_ne _ _ (show X.N0+i≠0 by omega)]) (by exact rfl) cD
  ·rw[uT,if_neg (by omega),if_neg (by omega)] at hy
   exact h.old g y h1 h2 hy
  ·simp only[bP _ _ (show g≠gs.size by omega),bP _ _ (show g≠0 by omega)]
   exact h.nN g h1 h2
  ·simp only[Aeo,Aem] at hg
   simp only[bP _ _ (show g≠gs.size by omega),bP _ _ (show g≠0 by omega)]
   exact h.mw g (by omega)
  ·have hq:=Bv G.st Nt .ku
   have e1:(G.st G.j).q=0:=by rw[Vi];rfl
   have e2:WS.q .ku=0:=rfl;have de:=h.cnt;unfold mY at de |-
   simp only;rw[show sumTo X.n (λa=>(upd G.st G.j .ku a).q)=sumTo X.n (λa=>(G.st a).q) by omega]
   exact de
  ·have cA:=h.az
   unfold sn at cA |-
   simp only;rw[hp] at cA |-
   intro i hi hn;by_cases e:i=G.j
   ·subst e;rw[upd_same];rfl
   ·rw[upd_ne _ _ e];exact cA i hi hn
  ·simp only at e
   rw[e] at bj;cases bj
  ·obtain⟨a1,a2⟩:=old ha
   rw[a2] at hg;exact(h.vP k a a1 hm g hg al).app u
  ·simp only[Aeo,Aem]
   unfold Afx at hg;obtain⟨op,ab,e⟩:=Aef.1 hg;rcases Aex ab with⟨_,bG⟩ | ⟨_,dN⟩
   ·have:=h.tj k g (by simp[Afx,bG,e]);omega
   ·rw[<-e];exact Oe op dN
  ·by_cases e:i=G.j
   ·subst e;simp only[upd_same] at hq;cases hq
   ·simp only[upd_ne _ _ e] at hq
    exact(h.kq i hi hq).app λop ab _=>mC op ab
  ·exact h.yI eL k a (old ha).1
 ·have hm:=AZ G.st Nt .ku
  have e1:(G.st G.j).w=6:=by rw[Vi];rfl
  have e2:WS.w .ku=5:=rfl;unfold Gh.mu;simp only;omega
def alM(h:FI X wb gs w t G)(sl:Option (Nat×Nat))(hp:G.mp=.spawn)(hr:X.n - G.j=0){M:aaa}{aL:Ψ}{x:ώ}(hx:gs[0]?=φ x)(ha:G.act 0=φ ⟨M,x,aL⟩)
 (hS:StopA X 0 M x w):od X wb gs w sl t G 0:=by
 obtain⟨_,cy,child,dq,kG,xK,ZZ,eC⟩:=hS;have jX:=h.n0;have rG:=h.jn;have hj:G.j=X.n:=by omega
 have bj:G.cp.gC=θ:=by
  cases e:G.cp.gC with
  |true=>rfl
  |false=>exact absurd (h.mc.2 e) (by rw[hp];rintro⟨_,_,e|e⟩<;>cases e)
 have o4:G.cp=.no:=by
  cases e:G.cp with
  |no=>rfl
  |_=>rw[e] at bj;cases bj
 have yk:gs.size=X.N0+X.n:=by have:=h.size;rw[bj] at this;simp at this;omega
 have jW:0<gs.size:=(Ϟ.1 hx).1
 have bz:=runT_crowd_spawn (P:=X.P) (sl:=sl) (i:=0) hx (show ϛ X.P (0==0) x w=_ from dq)
 rw[nM] at bz;have ya:(#[].push ({g:=0,fn:=x.frame.fn,pos:=x.frame.place,act:=.go gs.size}:MemOp) |>.push {g:=gs.size,fn:=child.frame.fn,pos:=x.frame.place,act:=.start})=#[{g:=0,fn:=x.frame.fn,pos:=x.frame.place,act:=.go gs.size},{g:=gs.size,fn:=child.frame.fn,pos:=x.frame.place,act:=.start}]:=rfl
 rw[ya] at bz;obtain⟨T0,tt⟩:=eC.tree;obtain⟨Tc,Dh⟩:=ZZ.tree;have Dv:=h.mw gs.size (ϊ _);have tO:=h.wt.spawn ha Dv (by omega) (x:={g:=0,fn:=x.frame.fn,pos:=x.frame.place,act:=.go gs.size}) (y:={g:=gs.size,fn:=child.frame.fn,pos:=x.frame.place,act:=.start}) ⟨rfl,rfl⟩ ⟨rfl,rfl⟩ cy child
 have mC:=Xu (N:=gs.size) (x1:={g:=0,fn:=x.frame.fn,pos:=x.frame.place,act:=.go gs.size}) (x2:={g:=gs.size,fn:=child.frame.fn,pos:=x.frame.place,act:=.start}) rfl rfl;generalize hu:(#[{g:=0,fn:=x.frame.fn,pos:=x.frame.place,act:=.go gs.size},{g:=gs.size,fn:=child.frame.fn,pos:=x.frame.place,act:=.start}]:ϭ)=u at bz tO mC;have Oe:∀op∈u,op.g<gs.size+1:=by
  rw[<-hu];intro op ab;simp only[Af1,ϫ,Λ,or_false] at ab;rcases ab with rfl|rfl
  ·exact Nat.succ_pos _
  ·exact Nat.lt_succ_self _
 have eL:G.closed=χ:=by unfold Gh.closed;rw[o4]
 have old:∀ {k a},Aev (t++u) k=φ a->Aev t k=φ a/\(t++u).g? k= t.g? k:=by
  intro k a ha;obtain⟨op,ab,cB⟩:=Aew ha;rcases Aex ab with⟨_,bG⟩ | ⟨_,dN⟩
  ·exact⟨by rw[Aey bG];exact cB,by simp[Afx,ab,bG]⟩
  ·rw[mC op dN] at cB;cases cB
 refine⟨_,_,_,{G with mp:=.walk X.n [],cp:=.walk X.n,act:=eW (eW G.act 0 (φ ⟨M.shared,cy,w⟩)) gs.size (φ ⟨M.shared,child,w⟩),tr:=upd (upd G.tr 0 T0) gs.size Tc},bz,?_,?_⟩
 ·refine⟨?_,jX,rG,λ_=>hj,⟨λ_=>rfl,λ_=>⟨_,_,.inl rfl⟩⟩,h.uh,?_,λi hi=>?_,λ_=>?_,λg y h1 h2 hy=>?_,λg h1 h2=>?_,λg hg=>?_,?_,?_,λ⟨_,_,e⟩=>(by cases e),λ⟨r,e⟩=>(by cases e),λ⟨_,_,e⟩=>(by cases e),tO,h.kU,?_,h.neq,h.base,λk a ha hm g hg al=>?_,λk g hg=>?_,λi hi hq=>(h.kq i hi hq).app λop ab _=>mC op ab,λhc k a ha=>h.yI eL k a (old ha).1,λhc=>(by cases hc)⟩
  ·simp only[Aeo,Aem,CP.gC];simp;omega
  ·refine⟨cy,by rw[uT,if_neg (by omega),if_pos ⟨rfl,jW⟩],?_⟩
   unfold fM;simp only[bP _ _ (show 0≠gs.size by omega),fE,upd_ne _ _ (show 0≠gs.size by omega),upd_same]
   exact⟨_,_,_,rfl,pV.refl kG,tt⟩
  ·have vm:i<G.j:=hi
   obtain⟨y',dZ,cD⟩:=h.wk i hi;refine⟨y',by rw[uT,if_neg (by omega),if_neg (by omega)];exact dZ,?_⟩
   exact WSit.congr (G:=G) (by exact rfl) (by simp only[bP _ _ (show X.N0+i≠gs.size by omega),bP _ _ (show X.N0+i≠0 by omega)]) (by simp only[upd_ne _ _ (show X.N0+i≠gs.size by omega),upd_ne _ _ (show X.N0+i≠0 by omega)]) (by exact rfl) cD
  ·refine⟨child,by rw[uT,if_pos yk.symm],?_⟩
   unfold CSit;simp only[<-yk,fE,upd_same];exact⟨_,_,rfl,xK,Dh⟩
  ·rw[uT,if_neg (by omega),if_neg (by omega)] at hy
   exact h.old g y h1 h2 hy
  ·simp only[bP _ _ (show g≠gs.size by omega),bP _ _ (show g≠0 by omega)]
   exact h.nN g h1 h2
  ·simp only[Aeo,Aem] at hg
   simp only[bP _ _ (show g≠gs.size by omega),bP _ _ (show g≠0 by omega)]
   exact h.mw g (by omega)
  ·have de:=h.cnt
   unfold mY at de |-
   rw[o4] at de;simp only at de |-
   omega
  ·have cA:=h.az
   unfold sn at cA |-
   rw[hp] at cA;refine⟨List.nodup_nil,rfl,λi=>⟨λe=>(by cases e),λ⟨h1,h2,h3⟩=>?_⟩⟩
   rw[cA i h1 h2] at h3;cases h3
  ·obtain⟨s,e⟩:=h.kV
   rw[eL] at e;exact⟨s,e⟩
  ·obtain⟨a1,a2⟩:=old ha
   rw[a2] at hg;exact(h.vP k a a1 hm g hg al).app u
  ·simp only[Aeo,Aem]
   unfold Afx at hg;obtain⟨op,ab,e⟩:=Aef.1 hg;rcases Aex ab with⟨_,bG⟩ | ⟨_,dN⟩
   ·have:=h.tj k g (by simp[Afx,bG,e]);omega
   ·rw[<-e];exact Oe op dN
 ·unfold Gh.mu
  simp only[hp,o4,MP.w,CP.w];omega
def WT.close{cL cN:Nat}{act:Nat->Option lH}(h:WT cL cN w t act)(dX:∀k a,Aev t k=φ a->a.loc≠ .obj cN){x1 x2:MemOp}(hg:x1.g=x2.g)(h1:x1.act=.access ⟨.obj cN,χ,θ⟩)(h2:x2.act=.close cN){w':Ψ}
 (hs:w'.heap.size=w.heap.size)(hk:∀b,b≠cN->w'.heap[b]?=w.heap[b]?)(ht:w'.tape=w.tape)(ho:w'.os=w.os)(hp:w'.output=w.output):WT cL cN w' (t++#[x1,x2]) act:=by
 have mem:∀op∈#[x1,x2],op=x1\/op=x2:=λop ab=>by simpa using ab
 have sp:∀ {k a},Aev (t++#[x1,x2]) k=φ a->Aev t k=φ a\/a.loc=.obj cN:=by
  intro k a ha;obtain⟨op,ab,cB⟩:=Aew ha;rcases Aex ab with⟨_,bG⟩ | ⟨_,dN⟩
  ·exact .inl (by rw[Aey bG];exact cB)
  ·rcases mem op dN with rfl|rfl
   ·rw[h1] at cB;simp[Afn] at cB;subst cB;exact .inr rfl
   ·rw[h2] at cB;cases cB
 refine⟨λg j e=>(h.keep g j e).trans ⟨by rw[hs];exact ϊ _,λb hb=>hk b (h.low g j e b hb).2.2,ht,ho,hp⟩,h.mq,λg j e b hb=>by rw[hs];exact h.low g j e b hb,λop ab=>?_,h.nd.app λop ab=>?_,λsaid=>?_,λg j e k a ha b hb hc=>?_,by rw[hs];exact h.hL,by rw[hs];exact h.hN⟩
 ·rw[hs]
  rcases Array.mem_append.1 ab with ab|ab
  ·exact h.tl op ab
  ·rcases mem op ab with rfl|rfl
   ·rw[h1];exact h.hN
   ·rw[h2];exact h.hN
 ·rcases mem op ab with rfl|rfl
  ·rw[h1];simp
  ·rw[h2];simp
 ·refine noRace_append (g:=x1.g) (h.clean said) (λop ab=>by rcases mem op ab with rfl|rfl;rfl;exact hg.symm) λk a ha op ab b hb hc=>?_
  rcases mem op ab with rfl|rfl
  ·rw[h1] at hb
   simp[Afn] at hb;subst hb;exact absurd hc.1 (dX k a ha)
  ·rw[h2] at hb;cases hb
 ·rcases sp ha with ha|ha
  ·exact(h.perm g j e k a ha b hb hc).app _
  ·exfalso
   have:rh a.loc cN:=.inl ha;obtain rfl:=OP hb this;exact(h.low g j e b (hc.imp id (·.1))).2.2 rfl
def closes(h:FI X wb gs w t G)(sl:Option (Nat×Nat))(hp:G.cp=.walk 0){M:aaa}{aL:Ψ}{x:ώ}(hx:gs[X.N0+X.n]?=φ x)(ha:G.act (X.N0+X.n)=φ ⟨M,x,aL⟩)
 (hS:AtClose X M x w):od X wb gs w sl t G (X.N0+X.n):=by
 obtain⟨hrx,afR,fY⟩:=hS;have jX:=h.n0;have bj:G.cp.gC=χ:=by rw[hp];rfl
 have o8:=h.jc bj;have eL:G.closed=χ:=by unfold Gh.closed;rw[hp]
 obtain⟨s,hc⟩:=h.kV;rw[eL] at hc;obtain⟨cy,k,dq,hq⟩:=fY s s hc;have nO:∀i,i<X.n->G.st i=.quit:=by
  have de:=h.cnt;unfold mY at de;rw[hp] at de;exact P6 _ _ (by simpa using de)
 have tF:X.N0+X.n<gs.size:=(Ϟ.1 hx).1
 have bz:=runT_crowd_go (P:=X.P) (sl:=sl) (i:=X.N0+X.n) hx (by rw[h.sX];exact dq)
 have rF:Afo (X.N0+X.n) x.frame.fn x.frame.place #[⟨.obj X.cN,χ,θ⟩,⟨.obj X.cN,θ,θ⟩]=#[{g:=X.N0+X.n,fn:=x.frame.fn,pos:=x.frame.place,act:=.access ⟨.obj X.cN,χ,θ⟩},{g:=X.N0+X.n,fn:=x.frame.fn,pos:=x.frame.place,act:=.close X.cN}]:=by
  rw[ofEvents_eq];simp[Adl]
 rw[rF] at bz;have Vc:(w.shut X.cN s s χ).heap.size=w.heap.size:=by simp[World.shut]
 have Vd:∀b,b≠X.cN->(w.shut X.cN s s χ).heap[b]?=w.heap[b]?:=λb hb=>by simp only[World.shut];rw[Aa0 (Ag2 hb)]
 have Ve:(w.shut X.cN s s χ).heap[X.cN]?=φ (.chan 0 #[] θ s s χ):=by simp[World.shut,h.wt.hN]
 have tO:=h.wt.close (h.yI eL) (x1:={g:=X.N0+X.n,fn:=x.frame.fn,pos:=x.frame.place,act:=.access ⟨.obj X.cN,χ,θ⟩}) (x2:={g:=X.N0+X.n,fn:=x.frame.fn,pos:=x.frame.place,act:=.close X.cN}) rfl rfl rfl (w':=w.shut X.cN s s χ) Vc Vd rfl rfl rfl;have aeb:∃s',(w.shut X.cN s s χ).heap[X.cL]?=φ (.chan 0 #[] χ s' s' χ):=by
  obtain⟨s',e⟩:=h.kU;exact⟨s',by rw[Vd _ h.neq];exact e⟩
 have aez:cy.status=.running\/cy.status=.finished:=hq.status;have vE:∀y,Ae5 X.P x cy (w.shut X.cN s s χ) y=y.again (w.shut X.cN s s χ):=by
  intro y;unfold Ae5;rw[afR];rcases aez with e|e<;>rw[e]<;>rfl
 have gq:∀ {i:Nat} {y:ώ},i≠0->i≠X.N0+X.n->gs[i]?=φ y->((gs.map (Ae5 X.P x cy (w.shut X.cN s s χ))).setIfInBounds (X.N0+X.n) cy)[i]?=φ y:=by
  intro i y cR DD hy;rw[Aa0 (Ag2 DD),Aa1,hy,Ag3]
  have:∃n,Ae1 X.P n y:=by
   rcases h.sI (Ϟ.1 hy).1 with e| ⟨h1,h2⟩ | ⟨i',bu,rfl⟩ | ⟨e,_⟩
   ·exact absurd e cR
   ·exact⟨_,h.old i y h1 h2 hy⟩
   ·obtain⟨y',dZ,cD⟩:=h.wk i' bu
    rw[hy] at dZ;obtain rfl:=ϟ dZ;unfold WSit at cD;rw[nO i' (by omega)] at cD
    exact⟨_,cD.2⟩
   ·exact absurd e DD
  obtain⟨n,hn⟩:=this;rw[woken_quits hn]
 have gc:((gs.map (Ae5 X.P x cy (w.shut X.cN s s χ))).setIfInBounds (X.N0+X.n) cy)[X.N0+X.n]?=φ cy:=Mn tF cy;have aI:((gs.map (Ae5 X.P x cy (w.shut X.cN s s χ))).setIfInBounds (X.N0+X.n) cy).size=gs.size:=by simp
 have ND:∃y f az,(G.mp=.walk f az\/G.mp=.db f az)/\((gs.map (Ae5 X.P x cy (w.shut X.cN s s χ))).setIfInBounds (X.N0+X.n) cy)[0]?=φ y/\∃M aL y',G.act 0=φ ⟨M,y',aL⟩/\pV y y'/\sZ X.P θ (nj X f az) (G.tr 0) M y' aL:=by
  obtain⟨y,hy,hs⟩:=h.main;have Tz:((gs.map (Ae5 X.P x cy (w.shut X.cN s s χ))).setIfInBounds (X.N0+X.n) cy)[0]?=φ (Ae5 X.P x cy (w.shut X.cN s s χ) y):=by
   rw[Aa0 (by omega),Aa1,hy,Ag3]
  unfold fM at hs;cases e:G.mp with
  |spawn=>exact absurd (h.mc.2 bj) (by rw[e];rintro⟨_,_,e|e⟩<;>cases e)
  |walk f az=>
   rw[e] at hs;obtain⟨M,aL,y',h1,h2,h3⟩:=hs;exact⟨y,f,az,.inl rfl,by rw[Tz,woken_run h2.2.2.2],M,aL,y',h1,h2,h3⟩
  |db f az=>
   rw[e] at hs;obtain⟨M,aL,y',z,h1,h2,h3⟩:=hs;refine⟨{Ae4 y' #[Ae2 X.cN z] (.recv θ) with status:=.running},f,az,.inr rfl,?_,M,aL,y',h1,⟨rfl,rfl,rfl,rfl⟩,.stop h3⟩
   rw[Tz,vE,h2,again_recv_closed Ve]
 obtain⟨y0,f,az,rO,Vo,M0,v0,y0',qf,ik,tt⟩:=ND;refine⟨_,_,_,{G with mp:=.walk f az,cp:=.quit,act:=eW G.act (X.N0+X.n) ν,q:=upd G.q (X.N0+X.n) k},bz,?_,?_⟩
 ·refine⟨aI.trans ?_,jX,h.jn,λ_=>o8,⟨λ_=>rfl,λ_=>⟨_,_,.inl rfl⟩⟩,h.uh,⟨y0,Vo,?_⟩,λi hi=>?_,λ_=>⟨cy,gc,?_⟩,λg y h1 h2 hy=>?_,λg h1 h2=>?_,λg hg=>?_,?_,?_,λ⟨_,_,e⟩=>(by cases e),λ⟨r,e⟩=>(by cases e),λ⟨_,_,e⟩=>(by cases e),tO.drop _,aeb,⟨s,Ve⟩,h.neq,⟨by rw[Vc];exact h.base.size,h.base.tape,h.base.os,h.base.e⟩,λi a Nr hm g hg al=>?_,λi g hg=>?_,λi hi pe=>?_,(λhc=>by cases hc),λ_=>?_⟩
  ·rw[h.size,bj];rfl
  ·unfold fM
   simp only[bP _ _ (show 0≠X.N0+X.n by omega)]
   exact⟨M0,v0,y0',qf,ik,tt⟩
  ·have vm:i<G.j:=hi
   obtain⟨y',dZ,cD⟩:=h.wk i hi;refine⟨y',gq (by omega) (by omega) dZ,?_⟩
   exact WSit.congr (G:=G) (by exact rfl) (by simp only[bP _ _ (show X.N0+i≠X.N0+X.n by omega)]) (by exact rfl) (by simp only[upd_ne _ _ (show X.N0+i≠X.N0+X.n by omega)]) cD
  ·unfold CSit
   simp only[fE,upd_same];exact⟨trivial,hq⟩
  ·have qH:gs[g]?=φ y:=by
    have al:g<gs.size:=by rw[<-aI];exact(Ϟ.1 hy).1
    have e1:=gq (i:=g) (y:=gs[g]) (by omega) (by omega) (Aaz al)
    rw[hy] at e1;rw[Aaz al]
    exact e1.symm
   simp only[upd_ne _ _ (show g≠X.N0+X.n by omega)]
   exact h.old g y h1 h2 qH
  ·simp only[bP _ _ (show g≠X.N0+X.n by omega)]
   exact h.nN g h1 h2
  ·rw[aI] at hg
   simp only[bP _ _ (show g≠X.N0+X.n by omega)]
   exact h.mw g hg
  ·have de:=h.cnt
   unfold mY at de |-
   rw[hp] at de;simpa using de
  ·have cA:=h.az
   unfold sn at cA |-
   rcases rO with e|e<;>rw[e] at cA<;>exact cA
  ·obtain⟨op,ab,cB⟩:=Aew Nr
   rcases Aex ab with⟨_,bG⟩ | ⟨_,dN⟩
   ·exact(h.vP i a (by rw[Aey bG];exact cB) hm g (by simpa [Afx,ab,bG] using hg) al).app _
   ·exfalso
    have e:op.g=g:=by simpa [Afx,ab] using hg
    simp only[Af1,ϫ,Λ,or_false] at dN;rcases dN with rfl|rfl<;>(simp only at e;omega)
  ·rw[aI]
   unfold Afx at hg;obtain⟨op,ab,e⟩:=Aef.1 hg;rcases Aex ab with⟨_,bG⟩ | ⟨_,dN⟩
   ·exact h.tj i g (by simp[Afx,bG,e])
   ·simp only[Af1,ϫ,Λ,or_false] at dN
    rcases dN with rfl|rfl<;>(simp only at e;omega)
  ·refine(h.kq i hi pe).app λop ab e=>?_
   exfalso;simp only[Af1,ϫ,Λ,or_false] at ab;rcases ab with rfl|rfl<;>(simp only at e;omega)
  ·have e1:(t++#[({g:=X.N0+X.n,fn:=x.frame.fn,pos:=x.frame.place,act:=.access ⟨.obj X.cN,χ,θ⟩}:MemOp),{g:=X.N0+X.n,fn:=x.frame.fn,pos:=x.frame.place,act:=.close X.cN}])[t.size+1]?=φ {g:=X.N0+X.n,fn:=x.frame.fn,pos:=x.frame.place,act:=.close X.cN}:=by
    rw[Ael (by omega)];simp
   refine⟨t.size+1,_,e1,rfl,rfl,λi a Nr g hg jU=>?_⟩
   obtain⟨op,ab,cB⟩:=Aew Nr;rcases Aex ab with⟨_,bG⟩ | ⟨aoj,dN⟩
   ·have D5:Aev t i=φ a:=by rw[Aey bG];exact cB
    have As: t.g? i=φ g:=by simpa [Afx,ab,bG] using hg
    have al:=h.tj i g As;have da:Knows t (X.N0+X.n) i:=by
     rcases h.sI al with e| ⟨_,e⟩ | ⟨i',bu,e⟩ | ⟨e,_⟩
     ·omega
     ·omega
     ·subst e;exact h.kq i' (by omega) (nO i' (by omega)) i a D5 As
     ·subst e;exact sU.self t _ i a D5 As
    exact .inr (da.hb_new (by omega) e1 rfl)
   ·have Dz:i=t.size:=by
     have:= Ae7 ab;simp at this;by_cases e:i=t.size
     ·exact e
     ·have e3:i=t.size+1:=by omega
      subst e3;rw[e1] at ab;obtain rfl:=ϟ ab;cases cB
    subst Dz;exact .inr (hb_po (by omega) ab e1 (by simp only[Af1,ϫ,Λ,or_false] at dN;rcases dN with rfl|rfl<;>rfl))
 ·unfold Gh.mu
  simp only[hp,CP.w,MP.w];rcases rO with e|e<;>rw[e]<;>simp only[MP.w]<;>omega
def Ends(X:Pm)(wb:Ψ)(aT:Array ώ)(w':Ψ)(t':ϭ):Prop:=
 ∃q' g' M az,Fr X.P aT w' t' q' g'/\X.End az M g' w'/\az.Nodup/\(∀i,i∈az↔i<X.n/\X.eU i=θ)/\Base wb w'/\∀b,M.has b->b<w'.heap.size
def ends(h:FI X wb gs w t G)(sl:Option (Nat×Nat))(fY:G.closed=θ){f:Nat}{az:List Nat}(hp:G.mp=.walk f az){M:aaa}{v0:Ψ}{x y:ώ}(h0:gs[0]?=φ x)(ha:G.act 0=φ ⟨M,y,v0⟩)(ik:pV x y)
 (hR:nj X f az M y w):∃aT u,runT X.P (Afh gs w sl) 0=(.next (Afh aT w sl),u)/\Ends X wb aT w (t++u):=by
 obtain⟨_,_,z,dq,qk⟩:=hR.at;have jX:=h.n0;have bj:=CP.aaP fY;have o8:=h.jc bj;have nO:=h.Gk fY;obtain⟨s,hc⟩:=h.kV;rw[fY] at hc;have xX:Aes (gs.setIfInBounds 0 ph) X.cN θ=[]:=by
  refine Afg λj y hy=>?_
  rcases Afe gs _ j y hy with⟨_,rfl⟩ | ⟨hj,hy⟩
  ·exact Aff _ _
  ·cases hl:Ae8 y X.cN θ with
   |nil=>rfl
   |cons a l=>
    exfalso;obtain⟨e,g,v,z',hyp⟩:=O6 h (m:=a) hy (by rw[hl];simp)
    rw[hyp] at hy;obtain⟨i,_,_,_,hi,_,aQ,_⟩:=h.Lt hy;rw[nO i (by omega)] at aQ
    cases aQ
 have pf:ϛ X.P (0==0) x w=.comm y #[Ae2 X.cN z] θ (.recv θ) w #[]:=by
  rw[Afj ik.1 ik.2.1 ik.2.2.1];exact dq
 have bz:=crowd_recv_closed (P:=X.P) (sl:=sl) h0 pf hc xX;rw[nM,Aen] at bz;have jW:0<gs.size:=(Ϟ.1 h0).1
 let y1:MemOp:={g:=0,fn:=y.frame.fn,pos:=y.frame.place,act:=.recvClosed X.cN}
 have hm:=h.wt.mute (u:=#[y1]) (w':=w) (λop ab=>by
  simp only[Af1,Af2] at ab;subst ab;exact⟨rfl,h.wt.hN,by simp[y1],by simp[y1]⟩) rfl (λ_ _ _=>rfl) rfl rfl rfl
 have e1:(t++#[y1])[t.size]?=φ y1:=by rw[Ael (ϊ _)];simp
 obtain⟨c,zc,c1,c2,c3,c4⟩:=h.CN fY;have ec:(t++#[y1])[c]?=φ zc:=by rw[Ae6 (Ae7 c1)];exact c1
 have Uy:∀k a,Aev (t++#[y1]) k=φ a->a.loc.isMemory=θ->Knows (t++#[y1]) 0 k:=by
  intro k a vp hmm;obtain⟨op,ab,cB⟩:=Aew vp;rcases Aex ab with⟨hk,bG⟩ | ⟨_,dN⟩
  ·have D5:Aev t k=φ a:=by rw[Aey bG];exact cB
   by_cases hg:op.g<X.N0
   ·exact(h.vP k a D5 hmm op.g (by simp[Afx,bG]) hg).app _
   ·have hb:=c4 k a D5 op.g (by simp[Afx,bG]) (by omega)
    have abI:HappensBefore (t++#[y1]) c t.size:=.single (.inr ⟨.closed (c:=X.cN) (by rw[act?_of ec,c2]) (by rw[act?_of e1]),IA hm.nd ec,IA hm.nd e1⟩)
    exact⟨t.size,y1,e1,rfl,.inr ((hb.app #[y1]).hb abI)⟩
  ·simp only[Af1,Af2] at dN
   subst dN;cases cB
 have Aq:∀op∈t++#[y1],op.g<(gs.setIfInBounds 0 (Ϭ y (Ae3 θ z χ))).size:=by
  intro op ab;rw[Aem];obtain⟨k,hk⟩:=Array.getElem?_of_mem ab
  rcases Aex hk with⟨_,rH⟩ | ⟨_,rH⟩
  ·exact h.tj k op.g (by simp[Afx,rH])
  ·simp only[Af1,Af2] at rH
   subst rH;exact jW
 refine⟨_,_,bz,G.q,Ϭ y (Ae3 θ z χ),M,az,⟨by rw[one_set,if_pos ⟨rfl,jW⟩];rfl,λi xi hi Ee=>?_,⟨hm.clean,λk a vp hmm=>.inl (Uy k a vp hmm),λk g hg aw de=>?_,EG hm.nd 0,hm.tl⟩,hm.nd,Aq⟩,qk,?_,?_,h.base,λb hb=>(h.wt.low 0 _ ha b hb).1⟩
 ·rw[one_set,if_neg (by omega)] at Ee
  rcases h.sI (Ϟ.1 Ee).1 with e| ⟨h1,h2⟩ | ⟨i',bu,rfl⟩ | ⟨rfl,_⟩
  ·omega
  ·exact h.old i xi h1 h2 Ee
  ·obtain⟨y',dZ,cD⟩:=h.wk i' bu
   rw[Ee] at dZ;obtain rfl:=ϟ dZ;unfold WSit at cD;rw[nO i' (by omega)] at cD
   exact cD.2
  ·obtain⟨y',dZ,cD⟩:=h.cl bj
   rw[Ee] at dZ;obtain rfl:=ϟ dZ;unfold CSit at cD;unfold Gh.closed at fY;cases e:G.cp with
   |quit=>rw[e] at cD;exact cD.2
   |_=>rw[e] at fY;cases fY
 ·obtain⟨a,ha,hmm,_⟩:=de
  obtain⟨q,z',tH,tI,NW⟩:=Uy k a ha hmm;rcases NW with rfl|NW
  ·exfalso
   apply aw;have:(t++#[y1]).g? k=φ z'.g:=by unfold Afx;rw[tH];rfl
   have e:φ z'.g=φ g:=this.symm.trans hg;rw[tI] at e;exact(ϟ e).symm
  ·exact⟨q,by unfold Afx;rw[tH,Ag3,tI],NW⟩
 ·have cA:=h.az
  unfold sn at cA;rw[hp] at cA;exact cA.1
 ·have cA:=h.az
  unfold sn at cA;rw[hp] at cA;intro i;rw[cA.2.2 i];exact⟨λ⟨a,b,_⟩=>⟨a,b⟩,λ⟨a,b⟩=>⟨a,b,by rw[nO i a];rfl⟩⟩
def Gc(X:Pm)(G' G:Gh):Prop:=
 G'.mu X<G.mu X\/(G'.mu X=G.mu X/\(zy (X.N0+X.n+1) G'.tr G.tr\/(G'.tr=G.tr/\sumTo (X.N0+X.n+1) G'.q<sumTo (X.N0+X.n+1) G.q)))
def acy(h:FI X wb gs w t G)(sl:Option (Nat×Nat)):
 (∃aT w' bm u,stepT X.P (Afh gs w sl)=(.next (Afh aT w' bm),u)/\Ends X wb aT w' (t++u))\/
 ∃aT w' bm u G',stepT X.P (Afh gs w sl)=(.next (Afh aT w' bm),u)/\FI X wb aT w' (t++u) G'/\Gc X G' G:=by
 obtain⟨k,x,d,bm,hx,bz,aQ⟩:=crowd_pick (P:=X.P) (w:=w) (sl:=sl) h.awake h.alx;have h1:=h.at d;have jX:=h.n0;have rG:=h.jn;have pX:od X wb gs (w.at d) bm t G k->∃aT w' bm u G',stepT X.P (Afh gs w sl)=(.next (Afh aT w' bm),u)/\FI X wb aT w' (t++u) G'/\Gc X G' G:=by
  rintro⟨aT,w',u,G',r1,r2,r3⟩;exact⟨aT,w',bm,u,G',aQ.trans r1,r2,.inl r3⟩
 have Cz:∀ {j:lH} {T':Tree} {g':ώ} {w':Ψ} {es:Array Event},G.act k=φ j->ϛ X.P (k==0) x (w.at d)=.go g' w' es->eO j.M (w.at d) w' es->Tree.lt T' (G.tr k)->k<X.N0+X.n+1->
  Rp X {G with act:=eW G.act k (φ ⟨j.M.grow (w.at d) w',g',w'⟩),tr:=upd G.tr k T'} k g'->∃aT w' bm u G',stepT X.P (Afh gs w sl)=(.next (Afh aT w' bm),u)/\FI X wb aT w' (t++u) G'/\Gc X G' G:=by
  intro j T' g' w' es ot dq hd hT hk qF;refine⟨_,w',bm,_,_,aQ.trans (runT_crowd_go hx dq),h1.own hx ot hd T' _ _ qF,.inr ⟨rfl,.inl ⟨k,hk,?_,λi hi=>?_⟩⟩⟩
  ·show Tree.lt (upd G.tr k T' k) _
   rw[upd_same];exact hT
  ·exact upd_ne _ _ hi
 have LB:Ae1 X.P (G.q k) x->k<X.N0+X.n+1->k≠0->((0<k/\k<X.N0)\/(∃i,i<G.j/\k=X.N0+i/\G.st i=.quit)\/(k=X.N0+X.n/\G.closed=θ))->∃aT w' bm u G',stepT X.P (Afh gs w sl)=(.next (Afh aT w' bm),u)/\FI X wb aT w' (t++u) G'/\Gc X G' G:=by
  intro hq hk iM qF;have aeI:(k==0)=χ:=by simpa using iM
  cases NY:G.q k with
  |zero=>rw[NY] at hq;rw[show x.status=.finished from hq] at bz;cases bz
  |succ m=>
   rw[NY] at hq;rcases hq with hf| ⟨_,g',aej,mD⟩
   ·rw[hf] at bz;cases bz
   have hr:=runT_crowd_go (P:=X.P) (sl:=bm) (i:=k) hx (by rw[aeI];exact aej (w.at d))
   rw[nM] at hr;refine⟨_,w.at d,bm,#[],{G with q:=upd G.q k m},aQ.trans hr,by rw[Aag];exact h1.ajL hx qF mD,.inr ⟨rfl,.inr ⟨rfl,?_⟩⟩⟩
   have Zb:sumTo (X.N0+X.n+1) (upd G.q k m)+(m+1)=sumTo (X.N0+X.n+1) G.q+m:=by
    have:=sumTo_upd G.q m id hk;simpa [NY] using this
   show sumTo (X.N0+X.n+1) (upd G.q k m)<_;omega
 rcases h.sI (Ϟ.1 hx).1 with rfl| ⟨k1,k2⟩ | ⟨i,hi,rfl⟩ | ⟨rfl,bj⟩
 ·
  obtain⟨x',jz,hs⟩:=h.main;rw[hx] at jz;obtain rfl:=ϟ jz;unfold fM at hs;cases e:G.mp with
  |spawn=>
   rw[e] at hs;obtain⟨M,aL,ha,hr,hT⟩:=hs;have hk:=h1.wt.keep 0 _ ha;rcases hT.rv with lS| ⟨_,hgo⟩
   ·right
    cases jZ:X.n - G.j with
    |zero=>exact pX (alM h1 bm e jZ hx ha (by rw[jZ] at lS;exact lS _ hk))
    |succ r=>exact pX (alN h1 bm e jZ hx ha (by rw[jZ] at lS;exact lS _ hk))
   ·right
    obtain⟨T',g',w',es,al,dq,hd,lO⟩:=hgo _ hk;refine Cz ha dq hd al (by omega) (.inl ⟨rfl,?_⟩)
    unfold fM;simp only[e,fE,upd_same];refine⟨_,_,rfl,?_,lO⟩
    rcases lO.rv with dD| ⟨jZ,_⟩
    ·have:=dD _ (bN.refl _ _)
     revert this
     cases X.n - G.j with
     |zero=>exactλh=>h.1
     |succ r=>exactλh=>h.1
    ·exact jZ
  |walk f az=>
   rw[e] at hs;obtain⟨M,aL,y,ha,ik,hT⟩:=hs;have hk:=h1.wt.keep 0 _ ha;rcases hT.rv with lS| ⟨_,hgo⟩
   ·by_cases fY:G.closed=θ
    ·left
     obtain⟨aT,u,r1,r2⟩:=ends h1 bm fY e hx ha ik (lS _ hk);exact⟨aT,_,bm,u,aQ.trans r1,r2⟩
    ·right
     by_cases hex:∃i,i<X.n/\G.st i=.iR
     ·exact pX (ajV h1 bm e hx ha ik lS hex)
     ·exact pX (ajW h1 bm e hx ha ik lS (by simpa using fY) hex)
   ·right
    obtain⟨T',g',w',es,al,dq,hd,lO⟩:=hgo _ hk;have afB:ϛ X.P (0==0) x (w.at d)=.go g' w' es:=by rw[Afj ik.1 ik.2.1 ik.2.2.1];exact dq
    refine Cz ha afB hd al (by omega) (.inl ⟨rfl,?_⟩)
    unfold fM;simp only[e,fE,upd_same];refine⟨_,_,_,rfl,pV.refl ?_,lO⟩
    rcases lO.rv with dD| ⟨jZ,_⟩
    ·exact(dD _ (bN.refl _ _)).at.1
    ·exact jZ
  |db f az=>
   rw[e] at hs;obtain⟨M,aL,y,z,ha,hr,hT⟩:=hs;rw[hr] at bz;cases bz
 ·right;exact LB (h.old k x k1 k2 hx) (by omega) (by omega) (.inl ⟨k1,k2⟩)
 ·
  right;obtain⟨x',jz,hs⟩:=h.wk i hi;rw[hx] at jz;obtain rfl:=ϟ jz;have qh:(X.N0+i==0)=χ:=h.sX i;have XI:∀ {M:aaa} {aL:Ψ},wI X G i->G.act (X.N0+i)=φ ⟨M,x,aL⟩->W2 X M x (w.at d)->od X wb gs (w.at d) bm t G (X.N0+i):=by
   intro M aL hd ha hW;by_cases hp:∃r,G.cp=.db r
   ·obtain⟨r,hp⟩:=hp
    exact alf h1 bm hi hd hx ha hW hp
   ·exact alg h1 bm hi hd hx ha hW hp
  unfold WSit at hs;cases e:G.st i with
  |no=>rw[e] at hs;exact hs.elim
  |ku=>
   rw[e] at hs;obtain⟨M,aL,ha,hr,hT⟩:=hs;have hk:=h1.wt.keep _ _ ha;rcases hT.rv with lS| ⟨_,hgo⟩
   ·rcases lS _ hk with⟨hn,hS⟩ | ⟨hn,hS⟩
    ·by_cases hp:∃f az,G.mp=.db f az
     ·obtain⟨f,az,hp⟩:=hp
      exact pX (alh h1 bm hi e hx ha hn hS hp)
     ·exact pX (ali h1 bm hi e hx ha hn hS hp)
    ·exact pX (XI (.inr ⟨e,hn⟩) ha hS)
   ·obtain⟨T',g',w',es,al,dq,hd,lO⟩:=hgo _ hk
    refine Cz ha (by rw[qh];exact dq) hd al (by omega) (.inr (.inl ⟨i,hi,rfl,?_⟩))
    unfold WSit;simp only[e,fE,upd_same];refine⟨_,_,rfl,?_,lO⟩
    rcases lO.rv with dD| ⟨jZ,_⟩
    ·rcases dD _ (bN.refl _ _) with⟨_,hS⟩ | ⟨_,hS⟩
     ·exact hS.1
     ·exact hS.1
    ·exact jZ
  |iR=>
   rw[e] at hs;obtain⟨M,aL,y,z,ha,hr,_⟩:=hs;rw[hr] at bz;cases bz
  |iz=>
   rw[e] at hs;obtain⟨M,aL,ha,hr,hT⟩:=hs;have hk:=h1.wt.keep _ _ ha;rcases hT.rv with lS| ⟨_,hgo⟩
   ·exact pX (XI (.inl e) ha (lS _ hk))
   ·obtain⟨T',g',w',es,al,dq,hd,lO⟩:=hgo _ hk
    refine Cz ha (by rw[qh];exact dq) hd al (by omega) (.inr (.inl ⟨i,hi,rfl,?_⟩))
    unfold WSit;simp only[e,fE,upd_same];refine⟨_,_,rfl,?_,lO⟩
    rcases lO.rv with dD| ⟨jZ,_⟩
    ·exact(dD _ (bN.refl _ _)).1
    ·exact jZ
  |iu=>
   rw[e] at hs;obtain⟨M,aL,y,z,ha,hr,_⟩:=hs;rw[hr] at bz;cases bz
  |quit=>
   rw[e] at hs;exact LB hs.2 (by omega) (by omega) (.inr (.inl ⟨i,hi,rfl,e⟩))
 ·
  right;obtain⟨x',jz,hs⟩:=h.cl bj;rw[hx] at jz;obtain rfl:=ϟ jz;have qh:(X.N0+X.n==0)=χ:=h.sX X.n;unfold CSit at hs;cases e:G.cp with
  |no=>rw[e] at hs;exact hs.elim
  |walk r=>
   rw[e] at hs;obtain⟨M,aL,ha,hr,hT⟩:=hs;have hk:=h1.wt.keep _ _ ha;rcases hT.rv with lS| ⟨_,hgo⟩
   ·cases r with
    |zero=>exact pX (closes h1 bm e hx ha (lS _ hk))
    |succ r=>
     by_cases hex:∃i,i<X.n/\G.st i=.iu
     ·exact pX (ajT h1 bm e hx ha (lS _ hk) hex)
     ·exact pX (ajU h1 bm e hx ha (lS _ hk) hex)
   ·obtain⟨T',g',w',es,al,dq,hd,lO⟩:=hgo _ hk
    refine Cz ha (by rw[qh];exact dq) hd al (by omega) (.inr (.inr ⟨rfl,bj,?_⟩))
    unfold CSit;simp only[e,fE,upd_same];refine⟨_,_,rfl,?_,lO⟩
    rcases lO.rv with dD| ⟨jZ,_⟩
    ·have:=dD _ (bN.refl _ _)
     revert this
     cases r with
     |zero=>exactλh=>h.1
     |succ r=>exactλh=>h.1
    ·exact jZ
  |db r=>
   rw[e] at hs;obtain⟨r',M,aL,y,z,_,ha,hr,_⟩:=hs;rw[hr] at bz;cases bz
  |quit=>
   rw[e] at hs;exact LB hs.2 (by omega) (by omega) (.inr (.inr ⟨rfl,by unfold Gh.closed;rw[e]⟩))
def acx:∀ {gs:Array ώ} {w:Ψ} {t:ϭ} {G:Gh} (sl:Option (Nat×Nat)),FI X wb gs w t G->
 ∃N aT w' bm t',runNT X.P N (Afh gs w sl) t=(.next (Afh aT w' bm),t')/\Ends X wb aT w' t':=by
 have key:∀(m:Nat) (tr:Nat->Tree),Acc (zy (X.N0+X.n+1)) tr->∀(s:Nat) {gs:Array ώ} {w:Ψ} {t:ϭ} {G:Gh} (sl:Option (Nat×Nat)),G.mu X=m->G.tr=tr->sumTo (X.N0+X.n+1) G.q=s->FI X wb gs w t G->
  ∃N aT w' bm t',runNT X.P N (Afh gs w sl) t=(.next (Afh aT w' bm),t')/\Ends X wb aT w' t':=by
  intro m;induction m using Nat.strongRecOn with
  |_ m ihm=>
   intro tr Dk;induction Dk with
   |intro tr _ af6=>
    intro s;induction s using Nat.strongRecOn with
    |_ s ihs=>
     intro gs w t G sl mC pg Zb hF;rcases acy hF sl with⟨aT,w',bm,u,r1,r2⟩ | ⟨aT,w',bm,u,G',r1,r2,r3⟩
     ·exact⟨1,aT,w',bm,t++u,by simp only[runNT,r1],r2⟩
     ·have fin:(∃N GS bq mQ t',runNT X.P N (Afh aT w' bm) (t++u)=(.next (Afh GS bq mQ),t')/\Ends X wb GS bq t')->∃N aT w' bm t',runNT X.P N (Afh gs w sl) t=(.next (Afh aT w' bm),t')/\Ends X wb aT w' t':=by
       rintro⟨N,GS,bq,mQ,t',q1,q2⟩;exact⟨N+1,GS,bq,mQ,t',by simp only[runNT,r1];exact q1,q2⟩
      apply fin;rcases r3 with al| ⟨he,dq| ⟨afJ,al⟩⟩
      ·exact ihm _ (by rw[<-mC];exact al) G'.tr (Xv _ _) _ bm rfl rfl rfl r2
      ·exact af6 G'.tr (by rw[<-pg];exact dq) _ bm (he.trans mC) rfl rfl r2
      ·exact ihs _ (by rw[<-Zb];exact al) bm (he.trans mC) (afJ.trans pg) rfl r2
 exactλ{gs w t G} sl hF=>key _ _ (Xv _ _) _ sl rfl rfl rfl hF
end
end Go.Sim
namespace Go.Tw
open Go Go.Proofs Go.Sim
class aR where
 I7:Func
variable [aR]
def dead:Func:={Tryz.f38 with name:= "left out",body:=ν}
def bad:List Nat:=[0,1,21,38,120,121,124,218,219,220,221,222,223,224,225,226,227,228,229,230,231,232,233,237,238,239]
def vH(f:Nat):Bool:=bad.contains f
def F:Array Func:=(ϋ.funcs.mapIdx λi fn=>if vH i then dead else fn).setIfInBounds 21 aR.I7
def prog:ϑ:=tw ϋ F
def amt(P:ϑ)(F:Array Func):(tw P F).funcs=F:=rfl
def Pe:prog.funcs=F:=amt _ _
def ZN{P:ϑ}{f:Nat}{fn:Func}(h:P.funcs[f]?=φ fn)(hb:fn.body.isSome=θ):∀g,P.funcs[f]?=φ g->g.body.isSome=θ:=by
 intro g hg;rw[h] at hg;cases hg;exact hb
def QU(f:Nat)(h:vH f=χ):F[f]?=ϋ.funcs[f]?:=by
 have rC:21≠f:=by rintro rfl;exact absurd h (by decide)
 unfold F;rw[Aai,if_neg rC,Aep]
 cases ϋ.funcs[f]? with
 |none=>rfl
 |some fn=>simp only[Ag3,h,Bool.false_eq_true,if_false]
def Ys(f:Nat)(h:vH f=θ)(rC:21≠f):F[f]?=ν\/F[f]?=φ dead:=by
 unfold F;rw[Aai,if_neg rC,Aep]
 cases ϋ.funcs[f]? with
 |none=>exact .inl rfl
 |some fn=>right;simp only[Ag3,h,if_true]
def zh:F[21]?=φ aR.I7:=by
 have hs:21<ϋ.funcs.size:=by
  apply Aa5;intro h;have:=Tryz.func21;rw[Aan (by omega)] at this;exact absurd this (by simp)
 unfold F;rw[Aai,if_pos rfl,if_pos (by simpa using hs)]
def get(f:Nat)(h:vH f=χ):prog.funcs[f]?=ϋ.funcs[f]?:=by rw[Pe];exact QU f h
def gF{f:Nat}{g:Func}(h:vH f=χ)(k:ϋ.funcs[f]?=φ g):prog.funcs[f]?=φ g:=(get f h).trans k
def func20:=gF rfl Tryz.func20
def func22:=gF rfl Tryz.func22
def func24:=gF rfl Tryz.func24
def func26:=gF rfl Tryz.func26
def func28:=gF rfl Tryz.func28
def func30:=gF rfl Tryz.func30
def func31:=gF rfl Tryz.func31
def func33:=gF rfl Tryz.func33
def func35:=gF rfl Tryz.func35
def func36:=gF rfl Tryz.func36
def func40:=gF rfl Tryz.func40
def func41:=gF rfl Tryz.func41
def func42:=gF rfl Tryz.func42
def func43:=gF rfl Tryz.func43
def func47:=gF rfl Tryz.func47
def func48:=gF rfl Tryz.func48
def func49:=gF rfl Tryz.func49
def func50:=gF rfl Tryz.func50
def func51:=gF rfl Tryz.func51
def func53:=gF rfl Tryz.func53
def func56:=gF rfl Tryz.func56
def func57:=gF rfl Tryz.func57
def func61:=gF rfl Tryz.func61
def func62:=gF rfl Tryz.func62
def func65:=gF rfl Tryz.func65
def func66:=gF rfl Tryz.func66
def func67:=gF rfl Tryz.func67
def func68:=gF rfl Tryz.func68
def func69:=gF rfl Tryz.func69
def func73:=gF rfl Tryz.func73
def func75:=gF rfl Tryz.func75
def func76:=gF rfl Tryz.func76
def func77:=gF rfl Tryz.func77
def func78:=gF rfl Tryz.func78
def func79:=gF rfl Tryz.func79
def func94:=gF rfl Tryz.func94
def func95:=gF rfl Tryz.func95
def func96:=gF rfl Tryz.func96
def func98:=gF rfl Tryz.func98
def func99:=gF rfl Tryz.func99
def func100:=gF rfl Tryz.func100
def func101:=gF rfl Tryz.func101
def func102:=gF rfl Tryz.func102
def func104:=gF rfl Tryz.func104
def func107:=gF rfl Tryz.func107
def func108:=gF rfl Tryz.func108
def func109:=gF rfl Tryz.func109
def func110:=gF rfl Tryz.func110
def func113:=gF rfl Tryz.func113
def func114:=gF rfl Tryz.func114
def func115:=gF rfl Tryz.func115
def func117:=gF rfl Tryz.func117
def func119:=gF rfl Tryz.func119
def func122:=gF rfl Tryz.func122
def func123:=gF rfl Tryz.func123
def func126:=gF rfl Tryz.func126
def func127:=gF rfl Tryz.func127
def func128:=gF rfl Tryz.func128
def func132:=gF rfl Tryz.func132
def func133:=gF rfl Tryz.func133
def func134:=gF rfl Tryz.func134
def func135:=gF rfl Tryz.func135
def func136:=gF rfl Tryz.func136
def func138:=gF rfl Tryz.func138
def func139:=gF rfl Tryz.func139
def func141:=gF rfl Tryz.func141
def func142:=gF rfl Tryz.func142
def func143:=gF rfl Tryz.func143
def func144:=gF rfl Tryz.func144
def func145:=gF rfl Tryz.func145
def func146:=gF rfl Tryz.func146
def func147:=gF rfl Tryz.func147
def func150:=gF rfl Tryz.func150
def func151:=gF rfl Tryz.func151
def func154:=gF rfl Tryz.func154
def func155:=gF rfl Tryz.func155
def func158:=gF rfl Tryz.func158
def func162:=gF rfl Tryz.func162
def func163:=gF rfl Tryz.func163
def func164:=gF rfl Tryz.func164
def func165:=gF rfl Tryz.func165
def func166:=gF rfl Tryz.func166
def func169:=gF rfl Tryz.func169
def func170:=gF rfl Tryz.func170
def func171:=gF rfl Tryz.func171
def func172:=gF rfl Tryz.func172
def func173:=gF rfl Tryz.func173
def func174:=gF rfl Tryz.func174
def func175:=gF rfl Tryz.func175
def func176:=gF rfl Tryz.func176
def func177:=gF rfl Tryz.func177
def func178:=gF rfl Tryz.func178
def func179:=gF rfl Tryz.func179
def func180:=gF rfl Tryz.func180
def func181:=gF rfl Tryz.func181
def func182:=gF rfl Tryz.func182
def func183:=gF rfl Tryz.func183
def func184:=gF rfl Tryz.func184
def func185:=gF rfl Tryz.func185
def func186:=gF rfl Tryz.func186
def func187:=gF rfl Tryz.func187
def func188:=gF rfl Tryz.func188
def func189:=gF rfl Tryz.func189
def func190:=gF rfl Tryz.func190
def func191:=gF rfl Tryz.func191
def func192:=gF rfl Tryz.func192
def func193:=gF rfl Tryz.func193
def func194:=gF rfl Tryz.func194
def func195:=gF rfl Tryz.func195
def func196:=gF rfl Tryz.func196
def func197:=gF rfl Tryz.func197
def func198:=gF rfl Tryz.func198
def func199:=gF rfl Tryz.func199
def func200:=gF rfl Tryz.func200
def func201:=gF rfl Tryz.func201
def func202:=gF rfl Tryz.func202
def func203:=gF rfl Tryz.func203
def func204:=gF rfl Tryz.func204
def func205:=gF rfl Tryz.func205
def func206:=gF rfl Tryz.func206
def func207:=gF rfl Tryz.func207
def func208:=gF rfl Tryz.func208
def func209:=gF rfl Tryz.func209
def func210:=gF rfl Tryz.func210
def func211:=gF rfl Tryz.func211
def func212:=gF rfl Tryz.func212
def func213:=gF rfl Tryz.func213
def func214:=gF rfl Tryz.func214
def func215:=gF rfl Tryz.func215
def func216:=gF rfl Tryz.func216
def func217:=gF rfl Tryz.func217
def func234:=gF rfl Tryz.func234
def func235:=gF rfl Tryz.func235
def func236:=gF rfl Tryz.func236
section
variable (P:ϑ)(F:Array Func)
def XR(t:ό)(w:Ψ):(typeInfo t).run (tw P F) w=(typeInfo t).run P w:=by
 simp only[typeInfo,Go.program,Sem.run,bind,Sem.bind,ly];cases P.info? t<;>rfl
def XP(t:ό)(w:Ψ):(Go.underlying t).run (tw P F) w=(Go.underlying t).run P w:=by
 simp only[Go.underlying,Go.program,Sem.run,bind,Sem.bind,jH];cases P.underlying t<;>rfl
def amv(t:ό)(w:Ψ):(sizeOf t).run (tw P F) w=(sizeOf t).run P w:=by
 simp only[sizeOf,Afv,XR,Afw]
def amy(t:ό)(w:Ψ):(zeroValue t).run (tw P F) w=(zeroValue t).run P w:=by
 unfold zeroValue;rw[Afv,Afv,XR];congr 1;funext i w;cases i.zero with
 |none=>simp only[unsupported,Sem.run]
 |some v=>simp only[Afw]
def amu(t:ό)(w:Ψ):(isAgg t).run (tw P F) w=(isAgg t).run P w:=by
 unfold isAgg;rw[Afv,Afv,XP];congr 1;funext i w;cases i<;>simp only[Afw]
def amr{P:ϑ}{F:Array Func}{f:Nat}(h:(tw P F).funcs[f]?=P.funcs[f]?)(args:Array υ)(w:Ψ)(hs:∀fn,P.funcs[f]?=φ fn->fn.body.isSome=θ){r:Result Next}(hr:(callFunc f args).run P w=r):(callFunc f args).run (tw P F) w=r:=by
 rw[<-hr];simp only[callFunc,Go.program,Sem.run,bind,Sem.bind,h];cases e:P.funcs[f]? with
 |none=>rfl
 |some fn=>
  have hb:=hs fn e;obtain⟨c,hc⟩:=Option.isSome_iff_exists.1 hb;simp only[hc,Option.isNone_some,Bool.false_eq_true,if_false];split<;>rfl
end
@[simp]theorem Jh(t:ό):prog.underlying t=ϋ.underlying t:=jH _ _ _
@[simp]theorem pB(t:ό): prog.info? t= ϋ.info? t:=ly _ _ _
@[simp]theorem apk(t:ό)(w:Ψ):(Go.underlying t).run prog w=(Go.underlying t).run ϋ w:=XP _ _ _ _
@[simp]theorem amo(t:ό)(w:Ψ):(sizeOf t).run prog w=(sizeOf t).run ϋ w:=amv _ _ _ _
@[simp]theorem Qb(t:ό)(w:Ψ):(zeroValue t).run prog w=(zeroValue t).run ϋ w:=amy _ _ _ _
@[simp]theorem amn(t:ό)(w:Ψ):(isAgg t).run prog w=(isAgg t).run ϋ w:=amu _ _ _ _
@[simp]theorem XK(t:ό):prog.stoodInHeld t=ϋ.stoodInHeld t:=XQ _ _ _
@[simp]theorem apj(d:Nat)(t:ό):prog.eqGuardType d t=ϋ.eqGuardType d t:=Jk _ _ _ _
@[simp]theorem api:prog.depth=ϋ.depth:=BF _ _
def aU{f:Nat}{fn:Func}(h:vH f=χ)(hf:ϋ.funcs[f]?=φ fn)(hb:fn.body.isSome=θ)(args:Array υ)(w:Ψ)(hc:(callFunc f args).run ϋ w=.ok (.enter f args) w):(callFunc f args).run prog w=.ok (.enter f args) w:=amr (get f h) args w (ZN hf hb) hc
variable (args:Array υ)(w:Ψ)
@[simp]def call20:=aU rfl Tryz.func20 rfl args w (Tryz.call20 args w)
@[simp]def call22:=aU rfl Tryz.func22 rfl args w (Tryz.call22 args w)
@[simp]def call24:=aU rfl Tryz.func24 rfl args w (Tryz.call24 args w)
@[simp]def call26:=aU rfl Tryz.func26 rfl args w (Tryz.call26 args w)
@[simp]def call28:=aU rfl Tryz.func28 rfl args w (Tryz.call28 args w)
@[simp]def call30:=aU rfl Tryz.func30 rfl args w (Tryz.call30 args w)
@[simp]def call31:=aU rfl Tryz.func31 rfl args w (Tryz.call31 args w)
@[simp]def call33:=aU rfl Tryz.func33 rfl args w (Tryz.call33 args w)
@[simp]def call35:=aU rfl Tryz.func35 rfl args w (Tryz.call35 args w)
@[simp]def call36:=aU rfl Tryz.func36 rfl args w (Tryz.call36 args w)
@[simp]def call40:=aU rfl Tryz.func40 rfl args w (Tryz.call40 args w)
@[simp]def call41:=aU rfl Tryz.func41 rfl args w (Tryz.call41 args w)
@[simp]def call42:=aU rfl Tryz.func42 rfl args w (Tryz.call42 args w)
@[simp]def call43:=aU rfl Tryz.func43 rfl args w (Tryz.call43 args w)
@[simp]def call47:=aU rfl Tryz.func47 rfl args w (Tryz.call47 args w)
@[simp]def call48:=aU rfl Tryz.func48 rfl args w (Tryz.call48 args w)
@[simp]def call49:=aU rfl Tryz.func49 rfl args w (Tryz.call49 args w)
@[simp]def call50:=aU rfl Tryz.func50 rfl args w (Tryz.call50 args w)
@[simp]def call51:=aU rfl Tryz.func51 rfl args w (Tryz.call51 args w)
@[simp]def call53:=aU rfl Tryz.func53 rfl args w (Tryz.call53 args w)
@[simp]def call56:=aU rfl Tryz.func56 rfl args w (Tryz.call56 args w)
@[simp]def call57:=aU rfl Tryz.func57 rfl args w (Tryz.call57 args w)
@[simp]def call61:=aU rfl Tryz.func61 rfl args w (Tryz.call61 args w)
@[simp]def call62:=aU rfl Tryz.func62 rfl args w (Tryz.call62 args w)
@[simp]def call65:=aU rfl Tryz.func65 rfl args w (Tryz.call65 args w)
@[simp]def call66:=aU rfl Tryz.func66 rfl args w (Tryz.call66 args w)
@[simp]def call67:=aU rfl Tryz.func67 rfl args w (Tryz.call67 args w)
@[simp]def call68:=aU rfl Tryz.func68 rfl args w (Tryz.call68 args w)
@[simp]def call69:=aU rfl Tryz.func69 rfl args w (Tryz.call69 args w)
@[simp]def call73:=aU rfl Tryz.func73 rfl args w (Tryz.call73 args w)
@[simp]def call75:=aU rfl Tryz.func75 rfl args w (Tryz.call75 args w)
@[simp]def call76:=aU rfl Tryz.func76 rfl args w (Tryz.call76 args w)
@[simp]def call77:=aU rfl Tryz.func77 rfl args w (Tryz.call77 args w)
@[simp]def call78:=aU rfl Tryz.func78 rfl args w (Tryz.call78 args w)
@[simp]def call79:=aU rfl Tryz.func79 rfl args w (Tryz.call79 args w)
@[simp]def call94:=aU rfl Tryz.func94 rfl args w (Tryz.call94 args w)
@[simp]def call95:=aU rfl Tryz.func95 rfl args w (Tryz.call95 args w)
@[simp]def call96:=aU rfl Tryz.func96 rfl args w (Tryz.call96 args w)
@[simp]def call98:=aU rfl Tryz.func98 rfl args w (Tryz.call98 args w)
@[simp]def call99:=aU rfl Tryz.func99 rfl args w (Tryz.call99 args w)
@[simp]def call100:=aU rfl Tryz.func100 rfl args w (Tryz.call100 args w)
@[simp]def call101:=aU rfl Tryz.func101 rfl args w (Tryz.call101 args w)
@[simp]def call102:=aU rfl Tryz.func102 rfl args w (Tryz.call102 args w)
@[simp]def call107:=aU rfl Tryz.func107 rfl args w (Tryz.call107 args w)
@[simp]def call108:=aU rfl Tryz.func108 rfl args w (Tryz.call108 args w)
@[simp]def call109:=aU rfl Tryz.func109 rfl args w (Tryz.call109 args w)
@[simp]def call110:=aU rfl Tryz.func110 rfl args w (Tryz.call110 args w)
@[simp]def call113:=aU rfl Tryz.func113 rfl args w (Tryz.call113 args w)
@[simp]def call114:=aU rfl Tryz.func114 rfl args w (Tryz.call114 args w)
@[simp]def call115:=aU rfl Tryz.func115 rfl args w (Tryz.call115 args w)
@[simp]def call117:=aU rfl Tryz.func117 rfl args w (Tryz.call117 args w)
@[simp]def call119:=aU rfl Tryz.func119 rfl args w (Tryz.call119 args w)
@[simp]def call122:=aU rfl Tryz.func122 rfl args w (Tryz.call122 args w)
@[simp]def call123:=aU rfl Tryz.func123 rfl args w (Tryz.call123 args w)
@[simp]def call126:=aU rfl Tryz.func126 rfl args w (Tryz.call126 args w)
@[simp]def call127:=aU rfl Tryz.func127 rfl args w (Tryz.call127 args w)
@[simp]def call128:=aU rfl Tryz.func128 rfl args w (Tryz.call128 args w)
@[simp]def call132:=aU rfl Tryz.func132 rfl args w (Tryz.call132 args w)
@[simp]def call133:=aU rfl Tryz.func133 rfl args w (Tryz.call133 args w)
@[simp]def call134:=aU rfl Tryz.func134 rfl args w (Tryz.call134 args w)
@[simp]def call135:=aU rfl Tryz.func135 rfl args w (Tryz.call135 args w)
@[simp]def call136:=aU rfl Tryz.func136 rfl args w (Tryz.call136 args w)
@[simp]def call138:=aU rfl Tryz.func138 rfl args w (Tryz.call138 args w)
@[simp]def call139:=aU rfl Tryz.func139 rfl args w (Tryz.call139 args w)
@[simp]def call141:=aU rfl Tryz.func141 rfl args w (Tryz.call141 args w)
@[simp]def call142:=aU rfl Tryz.func142 rfl args w (Tryz.call142 args w)
@[simp]def call143:=aU rfl Tryz.func143 rfl args w (Tryz.call143 args w)
@[simp]def call144:=aU rfl Tryz.func144 rfl args w (Tryz.call144 args w)
@[simp]def call145:=aU rfl Tryz.func145 rfl args w (Tryz.call145 args w)
@[simp]def call146:=aU rfl Tryz.func146 rfl args w (Tryz.call146 args w)
@[simp]def call147:=aU rfl Tryz.func147 rfl args w (Tryz.call147 args w)
@[simp]def call150:=aU rfl Tryz.func150 rfl args w (Tryz.call150 args w)
@[simp]def call151:=aU rfl Tryz.func151 rfl args w (Tryz.call151 args w)
@[simp]def call154:=aU rfl Tryz.func154 rfl args w (Tryz.call154 args w)
@[simp]def call155:=aU rfl Tryz.func155 rfl args w (Tryz.call155 args w)
@[simp]def call158:=aU rfl Tryz.func158 rfl args w (Tryz.call158 args w)
@[simp]def call162:=aU rfl Tryz.func162 rfl args w (Tryz.call162 args w)
@[simp]def call165:=aU rfl Tryz.func165 rfl args w (Tryz.call165 args w)
@[simp]def call166:=aU rfl Tryz.func166 rfl args w (Tryz.call166 args w)
@[simp]def call169:=aU rfl Tryz.func169 rfl args w (Tryz.call169 args w)
@[simp]def call170:=aU rfl Tryz.func170 rfl args w (Tryz.call170 args w)
@[simp]def call171:=aU rfl Tryz.func171 rfl args w (Tryz.call171 args w)
@[simp]def call172:=aU rfl Tryz.func172 rfl args w (Tryz.call172 args w)
@[simp]def call173:=aU rfl Tryz.func173 rfl args w (Tryz.call173 args w)
@[simp]def call174:=aU rfl Tryz.func174 rfl args w (Tryz.call174 args w)
@[simp]def call175:=aU rfl Tryz.func175 rfl args w (Tryz.call175 args w)
@[simp]def call176:=aU rfl Tryz.func176 rfl args w (Tryz.call176 args w)
@[simp]def call177:=aU rfl Tryz.func177 rfl args w (Tryz.call177 args w)
@[simp]def call178:=aU rfl Tryz.func178 rfl args w (Tryz.call178 args w)
@[simp]def call179:=aU rfl Tryz.func179 rfl args w (Tryz.call179 args w)
@[simp]def call180:=aU rfl Tryz.func180 rfl args w (Tryz.call180 args w)
@[simp]def call181:=aU rfl Tryz.func181 rfl args w (Tryz.call181 args w)
@[simp]def call182:=aU rfl Tryz.func182 rfl args w (Tryz.call182 args w)
@[simp]def call183:=aU rfl Tryz.func183 rfl args w (Tryz.call183 args w)
@[simp]def call184:=aU rfl Tryz.func184 rfl args w (Tryz.call184 args w)
@[simp]def call185:=aU rfl Tryz.func185 rfl args w (Tryz.call185 args w)
@[simp]def call186:=aU rfl Tryz.func186 rfl args w (Tryz.call186 args w)
@[simp]def call187:=aU rfl Tryz.func187 rfl args w (Tryz.call187 args w)
@[simp]def call188:=aU rfl Tryz.func188 rfl args w (Tryz.call188 args w)
@[simp]def call189:=aU rfl Tryz.func189 rfl args w (Tryz.call189 args w)
@[simp]def call201:=aU rfl Tryz.func201 rfl args w (Tryz.call201 args w)
@[simp]def call202:=aU rfl Tryz.func202 rfl args w (Tryz.call202 args w)
@[simp]def call204:=aU rfl Tryz.func204 rfl args w (Tryz.call204 args w)
@[simp]def call205:=aU rfl Tryz.func205 rfl args w (Tryz.call205 args w)
@[simp]def call206:=aU rfl Tryz.func206 rfl args w (Tryz.call206 args w)
@[simp]def call207:=aU rfl Tryz.func207 rfl args w (Tryz.call207 args w)
@[simp]def call208:=aU rfl Tryz.func208 rfl args w (Tryz.call208 args w)
@[simp]def call209:=aU rfl Tryz.func209 rfl args w (Tryz.call209 args w)
@[simp]def call215:=aU rfl Tryz.func215 rfl args w (Tryz.call215 args w)
@[simp]def call216:=aU rfl Tryz.func216 rfl args w (Tryz.call216 args w)
@[simp]def call234:=aU rfl Tryz.func234 rfl args w (Tryz.call234 args w)
@[simp]def call235:=aU rfl Tryz.func235 rfl args w (Tryz.call235 args w)
@[simp]def call236:=aU rfl Tryz.func236 rfl args w (Tryz.call236 args w)
end Go.Tw
def Go.RowKit.Hid.e{p:Prop}(h:Go.RowKit.Hid p):p:=Go.RowKit.Hid.out h
namespace Go.Tw
open Go Go.RowKit
def cq(a:Addr)(n:Nat):(a.add n).block=a.block:=by unfold Addr.add;split<;>rfl
def Rt(a:Addr)(i j:Nat):(a.add i).add j=a.add (i+j):=by
 unfold Addr.add;by_cases hi:i=0<;>by_cases hj:j=0<;>simp[hi,hj,Nat.add_assoc]
def Δ(B:Nat)(w w':Ψ):Prop:=∀p:Addr,p.block<B-> w'.cell? p= w.cell? p
def Δ.refl{B:Nat}(w:Ψ):Δ B w w:=λ_ _=>rfl
def Δ.trans{B:Nat}{a b c:Ψ}(h:Δ B a b)(k:Δ B b c):Δ B a c:=λp hp=>(k p hp).trans (h p hp)
def Δ.aK{B B':Nat}{w w':Ψ}(h:Γ B' w w')(hB:B<=B'):Δ B w w':=λ_ hp=>h.cell (by omega)
def Δ.alloc{B:Nat}{a w:Ψ}(h:Δ B a w)(hB:B<=w.heap.size)(o:Obj):Δ B a (w.alloc o):=λp hp=>(Afz w o p (by omega)).trans (h p hp)
def Row{α:Type}(w:Ψ)(B sz:Nat)(R:α->List υ->Prop)(v:υ)(xs:List α):Prop:=
 ∃A c,v=ζ A xs.length c/\xs.length<=c/\c<=ϗ/\(xs≠ []->∃ad,A=φ ad/\ad.block<B/\
  ∀i x,xs[i]?=φ x->∃cs,R x cs/\cs.length=sz/\∀j u,cs[j]?=φ u-> w.cell? (ad.add (i * sz+j))=φ u)
section
variable {α:Type}{w w':Ψ}{B B' sz:Nat}{R R':α->List υ->Prop}{v:υ}{xs:List α}
def Row.still(h:Row w B sz R v xs)(hs:Δ B w w')(hR:∀x cs,R x cs->R' x cs):Row w' B sz R' v xs:=by
 obtain⟨A,c,hv,h1,h2,h3⟩:=h;refine⟨A,c,hv,h1,h2,λhx=>?_⟩
 obtain⟨ad,ha,hb,hc⟩:=h3 hx;refine⟨ad,ha,hb,λi x hi=>?_⟩
 obtain⟨cs,r,hl,au⟩:=hc i x hi;exact⟨cs,hR _ _ r,hl,λj u hu=>(hs _ (by rw[cq];exact hb)).trans (au j u hu)⟩
def Row.more(h:Row w B sz R v xs)(hB:B<=B'):Row w B' sz R v xs:=by
 obtain⟨A,c,hv,h1,h2,h3⟩:=h;refine⟨A,c,hv,h1,h2,λhx=>?_⟩
 obtain⟨ad,ha,hb,hc⟩:=h3 hx;exact⟨ad,ha,by omega,hc⟩
def Row.nil:Row w B sz R (ζ ν 0 0) ([]:List α):=⟨ν,0,rfl,ϊ _,by unfold ϗ;omega,λh=>absurd rfl h⟩
def Row.Φ(h:Row w B sz R v xs):∃A n c,v=ζ A n c/\xs.length=n/\n<=c/\c<=ϗ/\
 ∀i,i<n->∃ad x cs,A=φ ad/\ad.block<B/\xs[i]?=φ x/\R x cs/\cs.length=sz/\∀j u,cs[j]?=φ u-> w.cell? (ad.add (i * sz+j))=φ u:=by
 obtain⟨A,c,hv,h1,h2,h3⟩:=h;refine⟨A,xs.length,c,hv,rfl,h1,h2,λi hi=>?_⟩
 obtain⟨ad,ha,hb,hc⟩:=h3 (by intro e;subst e;simp at hi)
 obtain⟨cs,r,hl,au⟩:=hc i xs[i] (Af9 hi)
 exact⟨ad,xs[i],cs,ha,hb,Af9 hi,r,hl,au⟩
end
def cC{w w':Ψ}{B:Nat}{ad:Addr}{k:Nat}{cs:List υ}(h:∀j u,cs[j]?=φ u-> w.cell? (ad.add (k+j))=φ u)(hs:Δ B w w')(hb:ad.block<B){u:υ}(hu:cs[0]?=φ u): w'.cell? (ad.add k)=φ u:=
 (hs _ (by rw[cq];exact hb)).trans (h 0 u hu)
def bK{w w':Ψ}{B:Nat}{ad:Addr}{k:Nat}{cs:List υ}(h:∀j u,cs[j]?=φ u-> w.cell? (ad.add (k+j))=φ u)(hs:Δ B w w')(hb:ad.block<B)(j:Nat){u:υ}(hu:cs[j+1]?=φ u): w'.cell? ⟨(ad.add k).block,(ad.add k).off+(j+1),ν⟩=φ u:=by
 have e:(⟨(ad.add k).block,(ad.add k).off+(j+1),ν⟩:Addr)=ad.add (k+(j+1)):=by rw[<-Rt];rfl
 rw[e];exact(hs _ (by rw[cq];exact hb)).trans (h (j+1) u hu)
def iY{B:Nat}{a w:Ψ}(h:Γ B a w):Γ B a w.drew:=⟨h.os,h.tape,h.output,h.size,h.block⟩
def jq{B:Nat}{a w:Ψ}(h:Γ B a w)(n:Nat):Γ B a (w.drewN n):=⟨h.os,h.tape,h.output,h.size,h.block⟩
def aX{a b:Int}(h:a=b):Ending.returned (ξ κ a)=Ω (ξ κ b):=by rw[h]
def b9{a b:Bool}(h:a=b):Ending.returned (.bool a)=Ω (.bool b):=by rw[h]
structure Span where
 lo:Int
 hi:Int
 deriving DecidableEq
structure Piece where
 name:ByteArray
 len:Span
 bears:Int
structure bR where
 name:ByteArray
 aH:Int
 cM:List Span
structure Tape where
 pieces:List Int
 sum:Span
structure ao where
 ag:Int
 pieces:List Piece
 aF:List bR
 aJ:List Tape
structure Cut where
 bp:Int
 from_:Int
 deriving DecidableEq
def Span.R(x:Span)(cs:List υ):Prop:=cs=[ξ κ x.lo,ξ κ x.hi]
structure an where
 a:Int
 b:Int
 c:Int
 deriving DecidableEq
def an.R(x:an)(cs:List υ):Prop:=cs=[ξ κ x.a,ξ κ x.b,ξ κ x.c]
def pj{α:Type}(p:α->Bool)(l:List α):Int:=match l.findIdx? p with
 |some i=>i
 |none=> -1
def Ej{α:Type}{p:α->Bool}{l:List α}{i:Nat}{x:α}(hx:l[i]?=φ x)(hp:p x=θ)(h:∀(j:Nat) (y:α),j<i->l[j]?=φ y->p y=χ):pj p l=i:=by
 have hl:=(ϱ.1 hx)
 obtain⟨al,e⟩:=hl;have: l.findIdx? p=φ i:=by
  rw[Agb]
  exact⟨al,by rw[e];exact hp,λj hj=>by simpa using h j _ hj (Af9 (by omega))⟩
 unfold pj;rw[this]
def Ei{α:Type}{p:α->Bool}{l:List α}(h:∀(j:Nat) (y:α),l[j]?=φ y->p y=χ):pj p l= -1:=by
 have: l.findIdx? p=ν:=by
  rw[Agc]
  intro x hx;obtain⟨j,hj⟩:=List.getElem?_of_mem hx
  simpa using h j x hj
 unfold pj;rw[this]
def AR{α:Type}{p:α->Bool}{l:List α}:l.any p=θ↔0<=pj p l:=by
 unfold pj;cases h: l.findIdx? p with
 |none=>rw[Agc] at h;simp;exactλx hx=>by simpa using h x hx
 |some i=>
  rw[Agb] at h
  obtain⟨hi,hp,_⟩:=h;simp only[List.any_eq_true];exact⟨λ_=>by simp,λ_=>⟨_,List.getElem_mem hi,hp⟩⟩
def Eh{α:Type}{p:α->Bool}{l:List α}:l.any p=χ↔pj p l<0:=by
 have:=AR (p:=p) (l:=l);rw[<-Int.not_le,<-this];simp
def cH(n:Int)(cs:List υ):Prop:=cs=[ξ κ n]
def Cut.R(x:Cut)(cs:List υ):Prop:=cs=[ξ κ x.bp,ξ κ x.from_]
def Piece.R(x:Piece)(cs:List υ):Prop:=cs=[.string x.name,ξ κ x.len.lo,ξ κ x.len.hi,ξ κ x.bears]/\x.name.size<=ϗ
def bR.R(w:Ψ)(B:Nat)(x:bR)(cs:List υ):Prop:=∃kv,cs=[.string x.name,ξ κ x.aH,kv]/\x.name.size<=ϗ/\Row w B 2 Span.R kv x.cM
def Tape.R(w:Ψ)(B:Nat)(x:Tape)(cs:List υ):Prop:=∃pv,cs=[pv,ξ κ x.sum.lo,ξ κ x.sum.hi]/\Row w B 1 cH pv x.pieces
def bR.R.still{w w':Ψ}{B:Nat}{x:bR}{cs:List υ}(h:bR.R w B x cs)(hs:Δ B w w'):bR.R w' B x cs:=by
 obtain⟨kv,h1,h2,h3⟩:=h;exact⟨kv,h1,h2,h3.still hs λ_ _ h=>h⟩
def Tape.R.still{w w':Ψ}{B:Nat}{x:Tape}{cs:List υ}(h:Tape.R w B x cs)(hs:Δ B w w'):Tape.R w' B x cs:=by
 obtain⟨kv,h1,h3⟩:=h;exact⟨kv,h1,h3.still hs λ_ _ h=>h⟩
structure bg(w:Ψ)(B:Nat)(b:ao)(pv bv tv:υ):Prop where
 pieces:Row w B 4 Piece.R pv b.pieces
 aF:Row w B 3 (bR.R w B) bv b.aF
 aJ:Row w B 3 (Tape.R w B) tv b.aJ
def bg.still{w w':Ψ}{B:Nat}{b:ao}{pv bv tv:υ}(h:bg w B b pv bv tv)(hs:Δ B w w'):bg w' B b pv bv tv:=
 ⟨h.pieces.still hs λ_ _ h=>h,h.aF.still hs λ_ _ h=>h.still hs,h.aJ.still hs λ_ _ h=>h.still hs⟩
end Go.Tw
namespace Go.Tw
variable [Go.Tw.aR]
open Go Go.Proofs Go.RowKit
def bX(n lo hi:Int):Bool:=decide (lo<=n) && decide (n<=hi)
def inside(n lo hi:Int)(w:Ψ):ύ prog 134 #[ξ κ n,ξ κ lo,ξ κ hi] w λe w'=>e=Ω (.bool (bX n lo hi))/\w=w':=by
 go_enter func134,Tryz.ntmps134;go_wp2;all_goals go_ret
 all_goals (refine⟨b9 ?_,rfl⟩;unfold bX;first| (simp;done) | (simp;omega))
def jr(i:Nat)(c:Int):Bool:=(decide (97<=c) && decide (c<=122)) || (decide (0<i) && (decide (48<=c) && decide (c<=57)))
def uN:Nat->List UInt8->Bool
 |_,[]=>θ
 |i,c::l=>jr i c.toNat && uN (i+1) l
def mK(l:List UInt8):Bool:=uN 0 l && bX l.length 1 10
def Sm:∀(l:List UInt8) (i k:Nat) (c:UInt8),uN i l=θ->l[k]?=φ c->jr (i+k) c.toNat=θ
 | [],_,_,_,_,h=>by simp at h
 |d::l,i,0,c,h,hk=>by simp at hk;subst hk;simp[uN] at h;exact h.1
 |d::l,i,k+1,c,h,hk=>by
  simp[uN] at h;have:=Sm l (i+1) k c h.2 (by simpa using hk)
  rwa[show i+(k+1)=i+1+k by omega]
def LR:∀(l:List UInt8) (i:Nat),(∀k c,l[k]?=φ c->jr (i+k) c.toNat=θ)->uN i l=θ
 | [],_,_=>rfl
 |d::l,i,h=>by
  simp only[uN,Bool.and_eq_true];exact⟨h 0 d rfl,LR l (i+1) λk c hk=>by have:=h (k+1) c (by simpa using hk);rwa[show i+(k+1)=i+1+k by omega] at this⟩
def aaY(s:ByteArray)(w:Ψ):∃C cap m,(convert 9 228 (.string s)).run prog w=.ok (ζ (φ ⟨w.heap.size,0,ν⟩) s.size cap) (w.drew.alloc (.cells C 5 m))/\
 ∀i (h:i<s.size),C[i]?=φ (.int .u8 (s[i].toNat:Int)):=by
 refine⟨_,_,_,run_bytes_of_string (P:=prog) w 9 228 5 s ((Jh _).trans Tryz.underlying9) ((Jh _).trans Tryz.underlying228) ((Jh _).trans Tryz.underlying5),λi h=>?_⟩
 rw[bytesRow,Array.getElem?_append_left (by simpa using h)]
 simp[Aa1]
 exact⟨_,Aaz (by simpa using h),rfl⟩
def CF{s:ByteArray}{n:Nat}(h:n<s.size):s.data.toList[n]?=φ s[n]:=by
 rw[Af9 (by simpa using h)];rfl
def O2{l:List UInt8}{n:Nat}{c:UInt8}(h:l[n]?=φ c)(hb:jr n c.toNat=χ):mK l=χ:=by
 unfold mK;cases e:uN 0 l with
 |false=>rfl
 |true=>have:=Sm l 0 n c e h;rw[Nat.zero_add,hb] at this;cases this
def isName{s:ByteArray}(hs:s.size<=ϗ)(w:Ψ):
 ύ prog 182 #[.string s] w λe w'=>e=Ω (.bool (mK s.data.toList))/\Γ w.heap.size w w':=by
 unfold ϗ at hs;obtain⟨C,cap,m,aee,hC⟩:=aaY s w;have H:=ψ hC;clear hC;go_enter func182,Tryz.ntmps182;go_wp2;clear aee
 go_loop [3,4,8] (λi c k=>∃n:Nat,n<=s.size/\k=ξ κ n/\∀j c,j<n->s.data.toList[j]?=φ c->jr j c.toNat=θ) (λ_ _ k=>s.size - (ϯ k).toNat)
 case atStart=>exact⟨0,ϡ _,rfl,λj _ hj=>by omega⟩
 case round=>
  obtain⟨n,hn,rfl,bt⟩:=hrel;have HA:=ψ bt;clear bt;by_cases al:n<s.size
  ·have hc:(w.alloc (.cells C 5 m)).cell? ⟨w.heap.size,n,ν⟩=φ (.int .u8 (s[n].toNat:Int)):=by
    rw[Af0];exact H.e n al
   go_wp2;all_goals try simp only[Bool.not_eq_true',Bool.not_eq_false',decide_eq_true_eq,decide_eq_false_iff_not] at *
   all_goals first
    | (go_round
       case rel=>
        refine⟨n+1,by omega,by go_num,λj c hj o8=>?_⟩
        rcases Agv.1 hj with h|rfl
        ·exact HA.e j c h o8
        ·have e:c=s[j]:=by simpa using((CF al).symm.trans o8).symm
         subst e;simp only[jr,Bool.or_eq_true,Bool.and_eq_true,decide_eq_true_eq];omega
       case measure=>simp[ϯ];omega)
    | (go_ret
       refine⟨b9 (Eq.symm (O2 (CF al) ?_)),iY ((Ϗ _ _).alloc (ϊ _) _)⟩
       simp only[jr,Bool.or_eq_false_iff,Bool.and_eq_false_iff,decide_eq_false_iff_not];omega)
  ·obtain rfl:n=s.size:=by omega
   go_wp2_with (first
    | (go_at_call 134;refine(inside _ _ _ _).mono ?_;rintro e w' ⟨rfl,rfl⟩))
   go_ret;refine⟨b9 ?_,iY ((Ϗ _ _).alloc (ϊ _) _)⟩
   simp[mK,LR s.data.toList 0 (λk c hk=>by
    have:=HA.e k c (by have:=(ϱ.1 hk).1;simpa using this) hk;simpa using this)]
def Ex(a b:Int)(k:Span):Bool:=decide (k.lo<=b) && decide (a<=k.hi)
def lh(l:List Span)(a b:Int):Int:=(l.filter (Ex a b)).length
def ah5(l:List Span)(a b:Int):0<=lh l a b/\lh l a b<=l.length:=by
 unfold lh;have:=Agd (Ex a b) l;omega
def ah6(l:List Span)(x:Span)(a b:Int):lh (l++ [x]) a b=lh l a b+if Ex a b x then 1 else 0:=by
 unfold lh;by_cases h:Ex a b x<;>simp[h]
def oJ{α:Type}{l:List α}{i:Nat}{x:α}(h:l[i]?=φ x):l.take (i+1)=l.take i++ [x]:=by
 rw[List.take_add_one,h];rfl
def met{nm:ByteArray}{aH a b:Int}{ks:List Span}{kv:υ}{w:Ψ}{B:Nat}(hk:Row w B 2 Span.R kv ks)(hB:B<=w.heap.size):
 ύ prog 132 #[η #[.string nm,ξ κ aH,kv],η #[ξ κ a,ξ κ b]] w λe w'=>e=Ω (ξ κ (lh ks a b))/\Γ w.heap.size w w':=by
 obtain⟨A,n,c,rfl,hl,dX,hc,hr⟩:=hk.Φ;unfold ϗ at hc;have H:=ψ hl;have H2:=ψ hr;clear hl hr hk;go_enter func132,Tryz.ntmps132;go_wp2;go_loopw [5,7,11] (λm t k wr=>∃i:Nat,i<=n/\k=ξ κ i/\m=ξ κ (lh (ks.take i) a b)/\Γ (w.heap.size+2) ((w.alloc (Ϧ #[Value.string nm,ϝ Ϛ aH,Value.slice A n c] 59)).alloc
 (Ϧ #[ϝ Ϛ a,ϝ Ϛ b] 37)) wr) (λ_ _ k _=>n - (ϯ k).toNat)
 case atStart=>exact⟨0,ϡ _,rfl,rfl,Ϗ _ _⟩
 case round=>
  obtain⟨i,hi,rfl,rfl,hb⟩:=hrel;have hm:=ah5 (ks.take i) a b;have hml:(ks.take i).length<=i:=Age _ _;by_cases al:i<n
  ·obtain⟨ad,x,cs,rfl,aC,hx,rfl,-,au⟩:=H2.e i al
   have st:=(Δ.aK hb (by omega:B<=w.heap.size+2))
   have P1:=((Δ.refl (B:=B) w).alloc hB (Ϧ #[Value.string nm,ϝ Ϛ aH,Value.slice (φ ad) n c] 59)).alloc (by simp;omega) (Ϧ #[ϝ Ϛ a,ϝ Ϛ b] 37)
   have h0:=cC au (P1.trans st) aC rfl;have h1:=bK au (P1.trans st) aC 0 rfl;have h2: wr.cell? ⟨w.heap.size+1,0,ν⟩=φ (ξ κ a):=(hb.cell (p:=⟨w.heap.size+1,0,ν⟩) (by simp)).trans (by simp[go_sem])
   have h3: wr.cell? ⟨w.heap.size+1,1,ν⟩=φ (ξ κ b):=(hb.cell (p:=⟨w.heap.size+1,1,ν⟩) (by simp)).trans (by simp[go_sem])
   have hz:w.heap.size+1<wr.heap.size:=by have:=hb.size;simp at this;omega
   have HH:=ψ (ϐ hx hb);clear hx hb au st P1;go_wp2;all_goals
    go_roundw;case rel=>
     have hb:=HH.e.2;refine⟨i+1,by omega,by go_num,?_,hb.trans ((Ϗ _ _).alloc (by omega) _)⟩
     rw[oJ HH.e.1,ah6];have e:Ex a b x=(decide (x.lo<=b) && decide (a<=x.hi)):=rfl
     first
      | (rw[if_pos (by rw[e];simp;omega)])
      | (rw[if_neg (by rw[e];simp;omega)];go_num)
    case measure=>simp[ϯ];omega
  ·have dL:i=n:=by omega
   subst dL;go_wp2;go_ret;refine⟨aX ?_,?_⟩
   ·have:=H.e
    simp[Agf (Agw this)]
   ·exact(((Ϗ _ _).alloc (ϊ _) _).alloc (by simp) _).trans (hb.mono (by simp))
abbrev fv(K:Nat)(lb:Array υ):υ:=.func (.func K) #[] lb
def VB{K:Nat}{lb:Array υ}{v:υ}{w:Ψ}{B:Nat}{l:List Piece}(p:Piece->Bool)(eg:∀args w,(callFunc K args).run prog w=.ok (.enter K args) w)
 (hv:Row w B 4 Piece.R v l)(hB:B<=w.heap.size)
 (hK:∀(W:Ψ) (x:Piece),Γ w.heap.size w W->x.name.size<=ϗ->x∈l->ύ prog K (#[η #[.string x.name,ξ κ x.len.lo,ξ κ x.len.hi,ξ κ x.bears]]++lb) W λe W'=>e=Ω (.bool (p x))/\Γ W.heap.size W W'):
 ύ prog 204 #[v,fv K lb] w λe w'=>e=Ω (ξ κ (pj p l))/\Γ w.heap.size w w':=by
 obtain⟨A,n,c,rfl,hl,dX,hc,hr⟩:=hv.Φ;unfold ϗ at hc;have H:=ψ hl;have H2:=ψ hr;have HK:=ψ hK;clear hl hr hv hK;go_enter func204,Tryz.ntmps204;go_wp2;go_loopw [5,8] (λt k wr=>∃i:Nat,i<=n/\k=ξ κ i/\(∀j x,j<i->l[j]?=φ x->p x=χ)/\Γ w.heap.size w wr) (λ_ k _=>n - (ϯ k).toNat)
 case atStart=>exact⟨0,ϡ _,rfl,λj _ hj=>by omega,Ϗ _ _⟩
 case round=>
  obtain⟨i,hi,rfl,bt,hb⟩:=hrel;have HH:=ψ (ϐ bt hb);by_cases al:i<n
  ·obtain⟨ad,x,cs,rfl,aC,hx,⟨rfl,dH⟩,-,au⟩:=H2.e i al
   have st:=Δ.aK hb hB;have h0:=cC au st aC rfl;have h1:=bK au st aC 0 rfl;have h2:=bK au st aC 1 rfl;have h3:=bK au st aC 2 rfl;have HX:=ψ hx;clear bt hb hx au st;go_wp2;refine(HK.e wr x HH.e.2 dH (ϩ HX.e)).mono ?_
   rintro e w1 ⟨rfl,ae⟩;have HB:=ψ ae;clear ae;cases hp:p x with
   |true=>
    go_wp2;go_ret;exact⟨aX (Ej HX.e hp HH.e.1).symm,HH.e.2.trans (HB.e.mono HH.e.2.size)⟩
   |false=>
    go_wp2;go_roundw;case rel=>exact⟨i+1,by omega,by go_num,λj y hj hy=>by
     rcases Agv.1 hj with h|rfl
     ·exact HH.e.1 j y h hy
     ·rw[HX.e] at hy;cases hy;exact hp,HH.e.2.trans (HB.e.mono HH.e.2.size)⟩
    case measure=>simp[ϯ];omega
  ·have dL:i=n:=by omega
   subst dL;go_wp2;go_ret;exact⟨aX (Ei (λj x hj=>HH.e.1 j x (by have:=(ϱ.1 hj).1;have:=H.e;omega) hj)).symm,HH.e.2⟩
def GC{K:Nat}{lb:Array υ}{v:υ}{w:Ψ}{B:Nat}{l:List Piece}(p:Piece->Bool)(eg:∀args w,(callFunc K args).run prog w=.ok (.enter K args) w)
 (hv:Row w B 4 Piece.R v l)(hB:B<=w.heap.size)
 (hK:∀(W:Ψ) (x:Piece),Γ w.heap.size w W->x.name.size<=ϗ->x∈l->ύ prog K (#[η #[.string x.name,ξ κ x.len.lo,ξ κ x.len.hi,ξ κ x.bears]]++lb) W λe W'=>e=Ω (.bool (p x))/\Γ W.heap.size W W'):
 ύ prog 183 #[v,fv K lb] w λe w'=>e=Ω (.bool (l.any p))/\Γ w.heap.size w w':=by
 have HV:=ψ hv;have HK:=ψ hK;clear hv hK;cases hp:l.any p with
 |true=>
  have hi:=(AR (l:=l) (p:=p)).1 hp;go_enter func183,Tryz.ntmps183;go_wp2;refine(VB p eg HV.e hB HK.e).mono ?_
  rintro e w1 ⟨rfl,ae⟩;go_wp2;go_ret;exact⟨b9 rfl,ae⟩
 |false=>
  have hi:=(Eh (l:=l) (p:=p)).1 hp;go_enter func183,Tryz.ntmps183;go_wp2;refine(VB p eg HV.e hB HK.e).mono ?_
  rintro e w1 ⟨rfl,ae⟩;go_wp2;go_ret;exact⟨b9 (by simp;omega),ae⟩
def VC{K:Nat}{lb:Array υ}{v:υ}{w:Ψ}{B:Nat}{l:List bR}(p:bR->Bool)(eg:∀args w,(callFunc K args).run prog w=.ok (.enter K args) w)
 (hv:Row w B 3 (bR.R w B) v l)(hB:B<=w.heap.size)
 (hK:∀(W:Ψ) (x:bR) (kv:υ),Γ w.heap.size w W->x.name.size<=ϗ->Row w B 2 Span.R kv x.cM->x∈l->ύ prog K (#[η #[.string x.name,ξ κ x.aH,kv]]++lb) W λe W'=>e=Ω (.bool (p x))/\Γ W.heap.size W W'):
 ύ prog 215 #[v,fv K lb] w λe w'=>e=Ω (ξ κ (pj p l))/\Γ w.heap.size w w':=by
 obtain⟨A,n,c,rfl,hl,dX,hc,hr⟩:=hv.Φ;unfold ϗ at hc;have H:=ψ hl;have H2:=ψ hr;have HK:=ψ hK;clear hl hr hv hK;go_enter func215,Tryz.ntmps215;go_wp2;go_loopw [5,8] (λt k wr=>∃i:Nat,i<=n/\k=ξ κ i/\(∀j x,j<i->l[j]?=φ x->p x=χ)/\Γ w.heap.size w wr) (λ_ k _=>n - (ϯ k).toNat)
 case atStart=>exact⟨0,ϡ _,rfl,λj _ hj=>by omega,Ϗ _ _⟩
 case round=>
  obtain⟨i,hi,rfl,bt,hb⟩:=hrel;have HH:=ψ (ϐ bt hb);by_cases al:i<n
  ·obtain⟨ad,x,cs,rfl,aC,hx,⟨kv,rfl,dH,dj⟩,-,au⟩:=H2.e i al
   have st:=Δ.aK hb hB;have h0:=cC au st aC rfl;have h1:=bK au st aC 0 rfl;have h2:=bK au st aC 1 rfl;have HX:=ψ hx;clear bt hb hx au st;go_wp2;refine(HK.e wr x kv HH.e.2 dH dj (ϩ HX.e)).mono ?_
   rintro e w1 ⟨rfl,ae⟩;have HB:=ψ ae;clear ae;cases hp:p x with
   |true=>
    go_wp2;go_ret;exact⟨aX (Ej HX.e hp HH.e.1).symm,HH.e.2.trans (HB.e.mono HH.e.2.size)⟩
   |false=>
    go_wp2;go_roundw;case rel=>exact⟨i+1,by omega,by go_num,λj y hj hy=>by
     rcases Agv.1 hj with h|rfl
     ·exact HH.e.1 j y h hy
     ·rw[HX.e] at hy;cases hy;exact hp,HH.e.2.trans (HB.e.mono HH.e.2.size)⟩
    case measure=>simp[ϯ];omega
  ·have dL:i=n:=by omega
   subst dL;go_wp2;go_ret;exact⟨aX (Ei (λj x hj=>HH.e.1 j x (by have:=(ϱ.1 hj).1;have:=H.e;omega) hj)).symm,HH.e.2⟩
def GD{K:Nat}{lb:Array υ}{v:υ}{w:Ψ}{B:Nat}{l:List bR}(p:bR->Bool)(eg:∀args w,(callFunc K args).run prog w=.ok (.enter K args) w)
 (hv:Row w B 3 (bR.R w B) v l)(hB:B<=w.heap.size)
 (hK:∀(W:Ψ) (x:bR) (kv:υ),Γ w.heap.size w W->x.name.size<=ϗ->Row w B 2 Span.R kv x.cM->x∈l->ύ prog K (#[η #[.string x.name,ξ κ x.aH,kv]]++lb) W λe W'=>e=Ω (.bool (p x))/\Γ W.heap.size W W'):
 ύ prog 205 #[v,fv K lb] w λe w'=>e=Ω (.bool (l.any p))/\Γ w.heap.size w w':=by
 have HV:=ψ hv;have HK:=ψ hK;clear hv hK;cases hp:l.any p with
 |true=>
  have hi:=(AR (l:=l) (p:=p)).1 hp;go_enter func205,Tryz.ntmps205;go_wp2;refine(VC p eg HV.e hB HK.e).mono ?_
  rintro e w1 ⟨rfl,ae⟩;go_wp2;go_ret;exact⟨b9 rfl,ae⟩
 |false=>
  have hi:=(Eh (l:=l) (p:=p)).1 hp;go_enter func205,Tryz.ntmps205;go_wp2;refine(VC p eg HV.e hB HK.e).mono ?_
  rintro e w1 ⟨rfl,ae⟩;go_wp2;go_ret;exact⟨b9 (by simp;omega),ae⟩
def VD{K:Nat}{lb:Array υ}{v:υ}{w:Ψ}{B:Nat}{l:List Tape}(p:Tape->Bool)(eg:∀args w,(callFunc K args).run prog w=.ok (.enter K args) w)
 (hv:Row w B 3 (Tape.R w B) v l)(hB:B<=w.heap.size)
 (hK:∀(W:Ψ) (x:Tape) (kv:υ),Γ w.heap.size w W->Row w B 1 cH kv x.pieces->x∈l->ύ prog K (#[η #[kv,ξ κ x.sum.lo,ξ κ x.sum.hi]]++lb) W λe W'=>e=Ω (.bool (p x))/\Γ W.heap.size W W'):
 ύ prog 216 #[v,fv K lb] w λe w'=>e=Ω (ξ κ (pj p l))/\Γ w.heap.size w w':=by
 obtain⟨A,n,c,rfl,hl,dX,hc,hr⟩:=hv.Φ;unfold ϗ at hc;have H:=ψ hl;have H2:=ψ hr;have HK:=ψ hK;clear hl hr hv hK;go_enter func216,Tryz.ntmps216;go_wp2;go_loopw [5,8] (λt k wr=>∃i:Nat,i<=n/\k=ξ κ i/\(∀j x,j<i->l[j]?=φ x->p x=χ)/\Γ w.heap.size w wr) (λ_ k _=>n - (ϯ k).toNat)
 case atStart=>exact⟨0,ϡ _,rfl,λj _ hj=>by omega,Ϗ _ _⟩
 case round=>
  obtain⟨i,hi,rfl,bt,hb⟩:=hrel;have HH:=ψ (ϐ bt hb);by_cases al:i<n
  ·obtain⟨ad,x,cs,rfl,aC,hx,⟨kv,rfl,dj⟩,-,au⟩:=H2.e i al
   have st:=Δ.aK hb hB;have h0:=cC au st aC rfl;have h1:=bK au st aC 0 rfl;have h2:=bK au st aC 1 rfl;have HX:=ψ hx;clear bt hb hx au st;go_wp2;refine(HK.e wr x kv HH.e.2 dj (ϩ HX.e)).mono ?_
   rintro e w1 ⟨rfl,ae⟩;have HB:=ψ ae;clear ae;cases hp:p x with
   |true=>
    go_wp2;go_ret;exact⟨aX (Ej HX.e hp HH.e.1).symm,HH.e.2.trans (HB.e.mono HH.e.2.size)⟩
   |false=>
    go_wp2;go_roundw;case rel=>exact⟨i+1,by omega,by go_num,λj y hj hy=>by
     rcases Agv.1 hj with h|rfl
     ·exact HH.e.1 j y h hy
     ·rw[HX.e] at hy;cases hy;exact hp,HH.e.2.trans (HB.e.mono HH.e.2.size)⟩
    case measure=>simp[ϯ];omega
  ·have dL:i=n:=by omega
   subst dL;go_wp2;go_ret;exact⟨aX (Ei (λj x hj=>HH.e.1 j x (by have:=(ϱ.1 hj).1;have:=H.e;omega) hj)).symm,HH.e.2⟩
def aaX{K:Nat}{lb:Array υ}{v:υ}{w:Ψ}{B:Nat}{l:List Tape}(p:Tape->Bool)(eg:∀args w,(callFunc K args).run prog w=.ok (.enter K args) w)
 (hv:Row w B 3 (Tape.R w B) v l)(hB:B<=w.heap.size)
 (hK:∀(W:Ψ) (x:Tape) (kv:υ),Γ w.heap.size w W->Row w B 1 cH kv x.pieces->x∈l->ύ prog K (#[η #[kv,ξ κ x.sum.lo,ξ κ x.sum.hi]]++lb) W λe W'=>e=Ω (.bool (p x))/\Γ W.heap.size W W'):
 ύ prog 208 #[v,fv K lb] w λe w'=>e=Ω (.bool (l.any p))/\Γ w.heap.size w w':=by
 have HV:=ψ hv;have HK:=ψ hK;clear hv hK;cases hp:l.any p with
 |true=>
  have hi:=(AR (l:=l) (p:=p)).1 hp;go_enter func208,Tryz.ntmps208;go_wp2;refine(VD p eg HV.e hB HK.e).mono ?_
  rintro e w1 ⟨rfl,ae⟩;go_wp2;go_ret;exact⟨b9 rfl,ae⟩
 |false=>
  have hi:=(Eh (l:=l) (p:=p)).1 hp;go_enter func208,Tryz.ntmps208;go_wp2;refine(VD p eg HV.e hB HK.e).mono ?_
  rintro e w1 ⟨rfl,ae⟩;go_wp2;go_ret;exact⟨b9 (by simp;omega),ae⟩
def VA{K:Nat}{lb:Array υ}{v:υ}{w:Ψ}{B:Nat}{l:List Int}(p:Int->Bool)(eg:∀args w,(callFunc K args).run prog w=.ok (.enter K args) w)
 (hv:Row w B 1 cH v l)(hB:B<=w.heap.size)
 (hK:∀(W:Ψ) (x:Int),Γ w.heap.size w W->x∈l->ύ prog K (#[ξ κ x]++lb) W λe W'=>e=Ω (.bool (p x))/\Γ W.heap.size W W'):
 ύ prog 202 #[v,fv K lb] w λe w'=>e=Ω (ξ κ (pj p l))/\Γ w.heap.size w w':=by
 obtain⟨A,n,c,rfl,hl,dX,hc,hr⟩:=hv.Φ;unfold ϗ at hc;have H:=ψ hl;have H2:=ψ hr;have HK:=ψ hK;clear hl hr hv hK;go_enter func202,Tryz.ntmps202;go_wp2;go_loopw [5,8] (λt k wr=>∃i:Nat,i<=n/\k=ξ κ i/\(∀j x,j<i->l[j]?=φ x->p x=χ)/\Γ w.heap.size w wr) (λ_ k _=>n - (ϯ k).toNat)
 case atStart=>exact⟨0,ϡ _,rfl,λj _ hj=>by omega,Ϗ _ _⟩
 case round=>
  obtain⟨i,hi,rfl,bt,hb⟩:=hrel;have HH:=ψ (ϐ bt hb);by_cases al:i<n
  ·obtain⟨ad,x,cs,rfl,aC,hx,rfl,-,au⟩:=H2.e i al
   have st:=Δ.aK hb hB;have h0:=cC au st aC rfl;rw[Agx] at h0;have HX:=ψ hx;clear bt hb hx au st;go_wp2;refine(HK.e wr x HH.e.2 (ϩ HX.e)).mono ?_
   rintro e w1 ⟨rfl,ae⟩;have HB:=ψ ae;clear ae;cases hp:p x with
   |true=>
    go_wp2;go_ret;exact⟨aX (Ej HX.e hp HH.e.1).symm,HH.e.2.trans (HB.e.mono HH.e.2.size)⟩
   |false=>
    go_wp2;go_roundw;case rel=>exact⟨i+1,by omega,by go_num,λj y hj hy=>by
     rcases Agv.1 hj with h|rfl
     ·exact HH.e.1 j y h hy
     ·rw[HX.e] at hy;cases hy;exact hp,HH.e.2.trans (HB.e.mono HH.e.2.size)⟩
    case measure=>simp[ϯ];omega
  ·have dL:i=n:=by omega
   subst dL;go_wp2;go_ret;exact⟨aX (Ei (λj x hj=>HH.e.1 j x (by have:=(ϱ.1 hj).1;have:=H.e;omega) hj)).symm,HH.e.2⟩
def SD{K:Nat}{lb:Array υ}{v:υ}{w:Ψ}{B:Nat}{l:List Int}(p:Int->Bool)(eg:∀args w,(callFunc K args).run prog w=.ok (.enter K args) w)
 (hv:Row w B 1 cH v l)(hB:B<=w.heap.size)
 (hK:∀(W:Ψ) (x:Int),Γ w.heap.size w W->x∈l->ύ prog K (#[ξ κ x]++lb) W λe W'=>e=Ω (.bool (p x))/\Γ W.heap.size W W'):
 ύ prog 177 #[v,fv K lb] w λe w'=>e=Ω (.bool (l.any p))/\Γ w.heap.size w w':=by
 have HV:=ψ hv;have HK:=ψ hK;clear hv hK;cases hp:l.any p with
 |true=>
  have hi:=(AR (l:=l) (p:=p)).1 hp;go_enter func177,Tryz.ntmps177;go_wp2;refine(VA p eg HV.e hB HK.e).mono ?_
  rintro e w1 ⟨rfl,ae⟩;go_wp2;go_ret;exact⟨b9 rfl,ae⟩
 |false=>
  have hi:=(Eh (l:=l) (p:=p)).1 hp;go_enter func177,Tryz.ntmps177;go_wp2;refine(VA p eg HV.e hB HK.e).mono ?_
  rintro e w1 ⟨rfl,ae⟩;go_wp2;go_ret;exact⟨b9 (by simp;omega),ae⟩
def Vz{K:Nat}{lb:Array υ}{v:υ}{w:Ψ}{B:Nat}{l:List an}(p:an->Bool)(eg:∀args w,(callFunc K args).run prog w=.ok (.enter K args) w)
 (hv:Row w B 3 an.R v l)(hB:B<=w.heap.size)
 (hK:∀(W:Ψ) (x:an),Γ w.heap.size w W->x∈l->ύ prog K (#[η #[ξ κ x.a,ξ κ x.b,ξ κ x.c]]++lb) W λe W'=>e=Ω (.bool (p x))/\Γ W.heap.size W W'):
 ύ prog 187 #[v,fv K lb] w λe w'=>e=Ω (ξ κ (pj p l))/\Γ w.heap.size w w':=by
 obtain⟨A,n,c,rfl,hl,dX,hc,hr⟩:=hv.Φ;unfold ϗ at hc;have H:=ψ hl;have H2:=ψ hr;have HK:=ψ hK;clear hl hr hv hK;go_enter func187,Tryz.ntmps187;go_wp2;go_loopw [5,8] (λt k wr=>∃i:Nat,i<=n/\k=ξ κ i/\(∀j x,j<i->l[j]?=φ x->p x=χ)/\Γ w.heap.size w wr) (λ_ k _=>n - (ϯ k).toNat)
 case atStart=>exact⟨0,ϡ _,rfl,λj _ hj=>by omega,Ϗ _ _⟩
 case round=>
  obtain⟨i,hi,rfl,bt,hb⟩:=hrel;have HH:=ψ (ϐ bt hb);by_cases al:i<n
  ·obtain⟨ad,x,cs,rfl,aC,hx,rfl,-,au⟩:=H2.e i al
   have st:=Δ.aK hb hB;have h0:=cC au st aC rfl;have h1:=bK au st aC 0 rfl;have h2:=bK au st aC 1 rfl;have HX:=ψ hx;clear bt hb hx au st;go_wp2;refine(HK.e wr x HH.e.2 (ϩ HX.e)).mono ?_
   rintro e w1 ⟨rfl,ae⟩;have HB:=ψ ae;clear ae;cases hp:p x with
   |true=>
    go_wp2;go_ret;exact⟨aX (Ej HX.e hp HH.e.1).symm,HH.e.2.trans (HB.e.mono HH.e.2.size)⟩
   |false=>
    go_wp2;go_roundw;case rel=>exact⟨i+1,by omega,by go_num,λj y hj hy=>by
     rcases Agv.1 hj with h|rfl
     ·exact HH.e.1 j y h hy
     ·rw[HX.e] at hy;cases hy;exact hp,HH.e.2.trans (HB.e.mono HH.e.2.size)⟩
    case measure=>simp[ϯ];omega
  ·have dL:i=n:=by omega
   subst dL;go_wp2;go_ret;exact⟨aX (Ei (λj x hj=>HH.e.1 j x (by have:=(ϱ.1 hj).1;have:=H.e;omega) hj)).symm,HH.e.2⟩
def aaW{K:Nat}{lb:Array υ}{v:υ}{w:Ψ}{B:Nat}{l:List an}(p:an->Bool)(eg:∀args w,(callFunc K args).run prog w=.ok (.enter K args) w)
 (hv:Row w B 3 an.R v l)(hB:B<=w.heap.size)
 (hK:∀(W:Ψ) (x:an),Γ w.heap.size w W->x∈l->ύ prog K (#[η #[ξ κ x.a,ξ κ x.b,ξ κ x.c]]++lb) W λe W'=>e=Ω (.bool (p x))/\Γ W.heap.size W W'):
 ύ prog 150 #[v,fv K lb] w λe w'=>e=Ω (.bool (l.any p))/\Γ w.heap.size w w':=by
 have HV:=ψ hv;have HK:=ψ hK;clear hv hK;cases hp:l.any p with
 |true=>
  have hi:=(AR (l:=l) (p:=p)).1 hp;go_enter func150,Tryz.ntmps150;go_wp2;refine(Vz p eg HV.e hB HK.e).mono ?_
  rintro e w1 ⟨rfl,ae⟩;go_wp2;go_ret;exact⟨b9 rfl,ae⟩
 |false=>
  have hi:=(Eh (l:=l) (p:=p)).1 hp;go_enter func150,Tryz.ntmps150;go_wp2;refine(Vz p eg HV.e hB HK.e).mono ?_
  rintro e w1 ⟨rfl,ae⟩;go_wp2;go_ret;exact⟨b9 (by simp;omega),ae⟩
def fy{B:Nat}{W w1:Ψ}(hb:Γ B W w1)(hB:B=W.heap.size):(∀b o,b<W.heap.size-> w1.cell? ⟨b,o,ν⟩= W.cell? ⟨b,o,ν⟩)/\(∀b o,b<W.heap.size-> w1.frozen? ⟨b,o,ν⟩= W.frozen? ⟨b,o,ν⟩):=by
 subst hB;exact⟨λb o h=>hb.cell (p:=⟨b,o,ν⟩) h,λb o h=>hb.frozen (p:=⟨b,o,ν⟩) h⟩
def Row.take{α:Type}{w:Ψ}{B sz:Nat}{R:α->List υ->Prop}{A:Option Addr}{n c:Nat}{l:List α}(h:Row w B sz R (ζ A n c) l){i:Nat}(hi:i<=n):Row w B sz R (ζ A i c) (l.take i):=by
 obtain⟨A',c',hv,h1,h2,h3⟩:=h;injection hv with e1 e2 e3
 subst e1;subst e3;subst e2
 have e:(l.take i).length=i:=by rw[List.length_take];omega
 refine⟨A,c,by rw[e],by omega,h2,λhx=>?_⟩
 obtain⟨ad,ha,hb,hc⟩:=h3 (by rintro rfl;simp at hx)
 refine⟨ad,ha,hb,λj x hj=>hc j x ?_⟩
 rw[List.getElem?_take] at hj;split at hj<;>simp_all
def scan{α:Type}(f:List α->α->Int):List α->List α->Int
 |_,[]=>0
 |dw,x::l=>if f dw x≠0 then f dw x else scan f (dw++ [x]) l
def W9{α:Type}{f:List α->α->Int}:∀(l dw:List α) (i:Nat) (x:α),l[i]?=φ x->(∀(j:Nat) (y:α),j<i->l[j]?=φ y->f (dw++l.take j) y=0)->f (dw++l.take i) x≠0->scan f dw l=f (dw++l.take i) x
 | [],_,_,_,h,_,_=>by simp at h
 |a::l,dw,0,x,h,_,hf=>by simp at h;subst h;simp at hf;simp[scan,hf]
 |a::l,dw,i+1,x,h,hz,hf=>by
  have h0:=hz 0 a (by omega) rfl
  simp at h0;have:=W9 l (dw++ [a]) i x (by simpa using h) (λj y hj hy=>by simpa using hz (j+1) y (by omega) (by simpa using hy)) (by simpa using hf)
  simp[scan,h0,this]
def sf{α:Type}{f:List α->α->Int}{l:List α}{i:Nat}{x:α}(h:l[i]?=φ x)(hz:∀(j:Nat) (y:α),j<i->l[j]?=φ y->f (l.take j) y=0)(hf:f (l.take i) x≠0):scan f [] l=f (l.take i) x:=by
 simpa using W9 l [] i x h (by simpa using hz) (by simpa using hf)
def W8{α:Type}{f:List α->α->Int}:∀(l dw:List α),(∀(j:Nat) (y:α),l[j]?=φ y->f (dw++l.take j) y=0)->scan f dw l=0
 | [],_,_=>rfl
 |a::l,dw,hz=>by
  have h0:=hz 0 a rfl;simp at h0;have:=W8 l (dw++ [a]) (λj y hy=>by simpa using hz (j+1) y (by simpa using hy))
  simp[scan,h0,this]
def se{α:Type}{f:List α->α->Int}{l:List α}(hz:∀(j:Nat) (y:α),l[j]?=φ y->f (l.take j) y=0):scan f [] l=0:=W8 l [] (by simpa using hz)
def mO(a b lo hi many:Int):Bool:=decide (lo<=a) && decide (a<=b) && decide (b<=hi) && decide (b - a<many)
def yu{a b lo hi many:Int}(pb:0<=lo)(Un:hi<=1000000)(w:Ψ):ύ prog 154 #[η #[ξ κ a,ξ κ b],ξ κ lo,ξ κ hi,ξ κ many] w λe w'=>e=Ω (.bool (mO a b lo hi many))/\Γ w.heap.size w w':=by
 go_enter func154,Tryz.ntmps154;go_wp2;all_goals go_ret
 all_goals (refine⟨b9 ?_,(Ϗ _ _).alloc (ϊ _) _⟩;unfold mO;first| (simp;done) | (simp;omega) | (simp[*];omega) | (simp[*];done))
def ag{n:Int}{pv bv tv:υ}(w:Ψ):ύ prog 141 #[η #[ξ κ n,pv,bv,tv]] w λe w'=>e=Ω (ξ κ (if bX n 0 3 then 0 else 1))/\Γ w.heap.size w w':=by
 cases h:bX n 0 3;all_goals
  go_enter func141,Tryz.ntmps141;go_wp2_with (first
   | (go_at_call 134;refine(inside _ _ _ _).mono ?_;rintro e w' ⟨rfl,rfl⟩))
  go_ret;exact⟨aX rfl,(Ϗ _ _).alloc (ϊ _) _⟩
def there(k n:Int)(hn:0<=n)(w:Ψ)(TI:n<=9223372036854775807):ύ prog 100 #[ξ κ k,ξ κ n] w λe w'=>e=Ω (ξ κ (if bX k 0 (n - 1) then 0 else 6))/\w=w':=by
 cases h:bX k 0 (n - 1);all_goals
  go_enter func100,Tryz.ntmps100;go_wp2_with (first
   | (go_at_call 134;refine(inside _ _ _ _).mono ?_;rintro e w' ⟨rfl,rfl⟩))
  go_ret;exact⟨aX rfl,rfl⟩
def jF(a b:ByteArray):Bool:=a.toList==b.toList
def I5{nm EE:ByteArray}{a b c:Int}{w:Ψ}{p:Addr}(hp: w.cell? p=φ (.string EE))(DW:p.block<w.heap.size):
 ύ prog 184 #[η #[.string nm,ξ κ a,ξ κ b,ξ κ c],π (φ p)] w λe w'=>e=Ω (.bool (jF nm EE))/\Γ w.heap.size w w':=by
 go_enter func184,Tryz.ntmps184;go_wp2;go_ret;exact⟨b9 rfl,(Ϗ _ _).alloc (ϊ _) _⟩
def I6{nm EE:ByteArray}{a:Int}{kv:υ}{w:Ψ}{p:Addr}(hp: w.cell? p=φ (.string EE))(DW:p.block<w.heap.size):
 ύ prog 206 #[η #[.string nm,ξ κ a,kv],π (φ p)] w λe w'=>e=Ω (.bool (jF nm EE))/\Γ w.heap.size w w':=by
 go_enter func206,Tryz.ntmps206;go_wp2;go_ret;exact⟨b9 rfl,(Ϗ _ _).alloc (ϊ _) _⟩
def cU{B:Nat}{w wr w1:Ψ}{o:Obj}(h:Γ B w wr)(h1:Γ (wr.alloc o).heap.size (wr.alloc o) w1)(hB:B<=wr.heap.size):Γ B w w1:=
 h.trans (((Ϗ _ _).alloc hB _).trans (h1.mono (by simp;omega)))
def chain{B:Nat}{w wr w1:Ψ}(h:Γ B w wr)(h1:Γ wr.heap.size wr w1)(hB:B<=wr.heap.size):Γ B w w1:=h.trans (h1.mono hB)
def oE{wr w1:Ψ}{o:Obj}{B:Nat}(h:Γ B (wr.alloc o) w1):wr.heap.size<w1.heap.size:=by have:=h.size;simp at this;omega
def app1{P:ϑ}{f:Nat}{a b:υ}{w:Ψ}{R:Ending->Ψ->Prop}(h:ύ P f #[a,b] w R):ύ P f (#[a]++#[b]) w R:=by
 have e:(#[a]++#[b]:Array υ)=#[a,b]:=by simp
 rw[e];exact h
def iU{B:Nat}{a w:Ψ}(h:Γ B a.drew w):Γ B a w:=⟨h.os,h.tape,h.output,h.size,h.block⟩
def iH{w wr:Ψ}{o:Obj}(h:Γ (w.heap.size+1) (w.alloc o) wr):Γ w.heap.size w wr:=((Ϗ _ _).alloc (ϊ _) _).trans (h.mono (by omega))
def kJ(dw:List Piece)(p:Piece):Int:=
 if mK p.name.data.toList then if dw.any (λq=>jF q.name p.name) then 5 else if mO p.len.lo p.len.hi 1 40 3 then if bX p.bears 0 2 then 0 else 1 else 1 else 4
def iw(l:List Piece):Int:=if bX l.length 1 3 then scan kJ [] l else 2
def pieces{n:Int}{pv bv tv:υ}{w:Ψ}{B:Nat}{l:List Piece}(hv:Row w B 4 Piece.R pv l)(hB:B<=w.heap.size):
 ύ prog 142 #[η #[ξ κ n,pv,bv,tv]] w λe w'=>e=Ω (ξ κ (iw l))/\Γ w.heap.size w w':=by
 have HV:=ψ hv;obtain⟨A,m,c,rfl,hl,dX,hc,hr⟩:=hv.Φ;have dC:=ψ hl;unfold ϗ at hc;have H2:=ψ hr;clear hl hr hv;cases hlen:bX m 1 3 with
 |false=>
  go_enter func142,Tryz.ntmps142;go_wp2_with (first
   | (go_at_call 134;refine(inside _ _ _ _).mono ?_;rintro e w' ⟨rfl,rfl⟩))
  go_ret;exact⟨aX (by unfold iw;rw[dC.e,hlen];rfl),(Ϗ _ _).alloc (ϊ _) _⟩
 |true=>
  go_enter func142,Tryz.ntmps142;go_wp2_with (first
   | (go_at_call 134;refine(inside _ _ _ _).mono ?_;rintro e w' ⟨rfl,rfl⟩))
  go_loopw [2,3,4,15] (λr t q k wr=>∃i:Nat,i<=m/\k=ξ κ i/\(∀(j:Nat) (x:Piece),j<i->l[j]?=φ x->kJ (l.take j) x=0)/\Γ (w.heap.size+1) (w.alloc (Ϧ #[ξ κ n,ζ A m c,bv,tv] 117)) wr) (λ_ _ _ k _=>m - (ϯ k).toNat)
  case atStart=>exact⟨0,ϡ _,rfl,λj _ hj=>by omega,Ϗ _ _⟩
  case round=>
   obtain⟨i,hi,rfl,bt,hb⟩:=hrel;have HH:=ψ (ϐ bt hb);have dY:=hb.size;have aI:w.heap.size+1<=wr.heap.size:=by simpa using dY
   have tL:w.heap.size<=wr.heap.size:=by omega
   have DZ:w.heap.size<wr.heap.size:=by omega
   have ho: wr.cell? ⟨w.heap.size,1,ν⟩=φ (ζ A m c):=(hb.cell (p:=⟨w.heap.size,1,ν⟩) (by simp)).trans (by simp[go_sem])
   by_cases al:i<m
   ·obtain⟨ad,x,cs,rfl,aC,hx,⟨rfl,dH⟩,-,au⟩:=H2.e i al
    have st:Δ B w wr:=((Δ.refl w).alloc hB _).trans (Δ.aK hb (by omega))
    have ST:=ψ st;have h0:=cC au st aC rfl;have h1:=bK au st aC 0 rfl;have h2:=bK au st aC 1 rfl;have h3:=bK au st aC 2 rfl;have HX:=ψ hx;clear bt hb hx au st dY;have iC:=ψ HH.e.2;have bad:∀s:Int,kJ (l.take i) x=s->s≠0->s=iw l:=λs hs h0=>by
     unfold iw;rw[dC.e,hlen,if_pos rfl,sf HX.e HH.e.1 (by rw[hs];exact h0),hs]
    have fG:=ψ bad;clear bad;cases ea:mK x.name.data.toList with
    |false=>
     go_wp2_with (first
      | (go_at_call 182;refine(isName dH _).mono ?_;rintro e w1 ⟨rfl,ae⟩;obtain⟨ff,gM⟩:=fy ae rfl))
     go_ret;exact⟨aX (fG.e 4 (by unfold kJ;rw[ea];rfl) (by omega)),iH (cU iC.e ae aI)⟩
    |true=>
     cases ld:(l.take i).any (λq=>jF q.name x.name) with
     |true=>
      go_wp2_with (first
       | (go_at_call 182;refine(isName dH _).mono ?_;rintro e w1 ⟨rfl,ae⟩;obtain⟨ff,gM⟩:=fy ae rfl;have aN:wr.heap.size<w1.heap.size:=oE ae;have jA:w.heap.size<w1.heap.size:=Agy tL aN;have dO:=ψ (cU iC.e ae aI);have kQ:Hid (w1.cell? ⟨wr.heap.size,0,ν⟩=φ (.string x.name)):=ψ ((ff wr.heap.size 0 (by simp)).trans (Af0 wr _ _ _ 0));clear ae)
       | (go_at_call 183;have HS:=ψ ((HV.e.take hi).still (Δ.aK (iH dO.e) hB) λ_ _ h=>h);refine(GC (λq=>jF q.name x.name) call184 HS.e (Ϥ hB (Agz jA)) (λW y hW _ _=>app1 (I5 (p:=⟨wr.heap.size,0,ν⟩) ((hW.cell (p:=⟨wr.heap.size,0,ν⟩) aN).trans kQ.e) (Ϡ aN hW.size)))).mono ?_;rintro e w2 ⟨rfl,ak⟩;obtain⟨ef,nD⟩:=fy ak rfl;have ba:wr.heap.size<w2.heap.size:=Ϡ aN ak.size;have qH:w.heap.size<w2.heap.size:=Ϡ jA ak.size;have dI:=ψ (chain dO.e ak jA);clear ak))
      go_ret;exact⟨aX (fG.e 5 (by unfold kJ;rw[ea,ld];rfl) (by omega)),iH dI.e⟩
     |false=>
      cases ij:mO x.len.lo x.len.hi 1 40 3 with
      |false=>
       go_wp2_with (first
           | (go_at_call 182;refine(isName dH _).mono ?_;rintro e w1 ⟨rfl,ae⟩;obtain⟨ff,gM⟩:=fy ae rfl;have aN:wr.heap.size<w1.heap.size:=oE ae;have jA:w.heap.size<w1.heap.size:=Agy tL aN;have dO:=ψ (cU iC.e ae aI);have kQ:Hid (w1.cell? ⟨wr.heap.size,0,ν⟩=φ (.string x.name)):=ψ ((ff wr.heap.size 0 (by simp)).trans (Af0 wr _ _ _ 0));clear ae)
           | (go_at_call 183;have HS:=ψ ((HV.e.take hi).still (Δ.aK (iH dO.e) hB) λ_ _ h=>h);refine(GC (λq=>jF q.name x.name) call184 HS.e (Ϥ hB (Agz jA)) (λW y hW _ _=>app1 (I5 (p:=⟨wr.heap.size,0,ν⟩) ((hW.cell (p:=⟨wr.heap.size,0,ν⟩) aN).trans kQ.e) (Ϡ aN hW.size)))).mono ?_;rintro e w2 ⟨rfl,ak⟩;obtain⟨ef,nD⟩:=fy ak rfl;have ba:wr.heap.size<w2.heap.size:=Ϡ aN ak.size;have qH:w.heap.size<w2.heap.size:=Ϡ jA ak.size;have dI:=ψ (chain dO.e ak jA);clear ak)
           | (go_at_call 154;refine(yu (by omega) (by omega) _).mono ?_;rintro e w3 ⟨rfl,bD⟩;obtain⟨He,xM⟩:=fy bD rfl;have B7:=ψ (chain dI.e bD qH);have jB:wr.heap.size<w3.heap.size:=Ϡ ba bD.size;have Vq:w.heap.size<w3.heap.size:=Ϡ qH bD.size;clear bD))
       go_ret;exact⟨aX (fG.e 1 (by unfold kJ;rw[ea,ld,ij];rfl) (by omega)),iH B7.e⟩
      |true=>
       cases yb:bX x.bears 0 2 with
       |false=>
        go_wp2_with (first
                | (go_at_call 182;refine(isName dH _).mono ?_;rintro e w1 ⟨rfl,ae⟩;obtain⟨ff,gM⟩:=fy ae rfl;have aN:wr.heap.size<w1.heap.size:=oE ae;have jA:w.heap.size<w1.heap.size:=Agy tL aN;have dO:=ψ (cU iC.e ae aI);have kQ:Hid (w1.cell? ⟨wr.heap.size,0,ν⟩=φ (.string x.name)):=ψ ((ff wr.heap.size 0 (by simp)).trans (Af0 wr _ _ _ 0));clear ae)
                | (go_at_call 183;have HS:=ψ ((HV.e.take hi).still (Δ.aK (iH dO.e) hB) λ_ _ h=>h);refine(GC (λq=>jF q.name x.name) call184 HS.e (Ϥ hB (Agz jA)) (λW y hW _ _=>app1 (I5 (p:=⟨wr.heap.size,0,ν⟩) ((hW.cell (p:=⟨wr.heap.size,0,ν⟩) aN).trans kQ.e) (Ϡ aN hW.size)))).mono ?_;rintro e w2 ⟨rfl,ak⟩;obtain⟨ef,nD⟩:=fy ak rfl;have ba:wr.heap.size<w2.heap.size:=Ϡ aN ak.size;have qH:w.heap.size<w2.heap.size:=Ϡ jA ak.size;have dI:=ψ (chain dO.e ak jA);clear ak)
                | (go_at_call 154;refine(yu (by omega) (by omega) _).mono ?_;rintro e w3 ⟨rfl,bD⟩;obtain⟨He,xM⟩:=fy bD rfl;have B7:=ψ (chain dI.e bD qH);have jB:wr.heap.size<w3.heap.size:=Ϡ ba bD.size;have Vq:w.heap.size<w3.heap.size:=Ϡ qH bD.size;clear bD)
                | (go_at_call 134;refine(inside _ _ _ _).mono ?_;rintro e w' ⟨rfl,rfl⟩))
        go_ret;exact⟨aX (fG.e 1 (by unfold kJ;rw[ea,ld,ij,yb];rfl) (by omega)),iH B7.e⟩
       |true=>
        go_wp2_with (first
                | (go_at_call 182;refine(isName dH _).mono ?_;rintro e w1 ⟨rfl,ae⟩;obtain⟨ff,gM⟩:=fy ae rfl;have aN:wr.heap.size<w1.heap.size:=oE ae;have jA:w.heap.size<w1.heap.size:=Agy tL aN;have dO:=ψ (cU iC.e ae aI);have kQ:Hid (w1.cell? ⟨wr.heap.size,0,ν⟩=φ (.string x.name)):=ψ ((ff wr.heap.size 0 (by simp)).trans (Af0 wr _ _ _ 0));clear ae)
                | (go_at_call 183;have HS:=ψ ((HV.e.take hi).still (Δ.aK (iH dO.e) hB) λ_ _ h=>h);refine(GC (λq=>jF q.name x.name) call184 HS.e (Ϥ hB (Agz jA)) (λW y hW _ _=>app1 (I5 (p:=⟨wr.heap.size,0,ν⟩) ((hW.cell (p:=⟨wr.heap.size,0,ν⟩) aN).trans kQ.e) (Ϡ aN hW.size)))).mono ?_;rintro e w2 ⟨rfl,ak⟩;obtain⟨ef,nD⟩:=fy ak rfl;have ba:wr.heap.size<w2.heap.size:=Ϡ aN ak.size;have qH:w.heap.size<w2.heap.size:=Ϡ jA ak.size;have dI:=ψ (chain dO.e ak jA);clear ak)
                | (go_at_call 154;refine(yu (by omega) (by omega) _).mono ?_;rintro e w3 ⟨rfl,bD⟩;obtain⟨He,xM⟩:=fy bD rfl;have B7:=ψ (chain dI.e bD qH);have jB:wr.heap.size<w3.heap.size:=Ϡ ba bD.size;have Vq:w.heap.size<w3.heap.size:=Ϡ qH bD.size;clear bD)
                | (go_at_call 134;refine(inside _ _ _ _).mono ?_;rintro e w' ⟨rfl,rfl⟩))
        go_roundw;case rel=>exact⟨i+1,by omega,by go_num,λj y hj hy=>by
                rcases Agv.1 hj with h|rfl
                ·exact HH.e.1 j y h hy
                ·rw[HX.e] at hy;cases hy;unfold kJ;rw[ea,ld,ij,yb];rfl,B7.e⟩
        case measure=>simp[ϯ];omega
   ·obtain rfl:i=m:=by omega
    go_wp2;go_ret;refine⟨aX ?_,iH HH.e.2⟩
    unfold iw;rw[dC.e,hlen,if_pos rfl,se (λj x hj=>HH.e.1 j x (by have:=(ϱ.1 hj).1;have:=dC.e;omega) hj)]
def nJ{n a b:Int}(h:bX n a b=θ):a<=n/\n<=b:=by simpa [bX] using h
def lX(aH:Int):Int->List Span->Int
 |_,[]=>0
 |last,k::l=>if mO k.lo k.hi 0 (aH - 1) aH then if k.lo<=last then 7 else lX aH k.hi l else 1
def gJ(dw:List bR)(x:bR):Int:=
 if mK x.name.data.toList then if dw.any (λq=>jF q.name x.name) then 5 else if bX x.aH 1 40 then if 3<x.cM.length then 2 else lX x.aH (-1) x.cM else 1 else 4
def drop_cons{α:Type}{l:List α}{i:Nat}{x:α}(h:l[i]?=φ x):l.drop i=x::l.drop (i+1):=by
 obtain⟨hi,e⟩:=ϱ.1 h
 rw[List.drop_eq_getElem_cons hi,e]
def bp{x:bR}{kv v:υ}{w:Ψ}{B:Nat}{l:List bR}(dH:x.name.size<=ϗ)(hk:Row w B 2 Span.R kv x.cM)(hv:Row w B 3 (bR.R w B) v l)(hB:B<=w.heap.size):
 ύ prog 185 #[η #[.string x.name,ξ κ x.aH,kv],v] w λe w'=>e=Ω (ξ κ (gJ l x))/\Γ w.heap.size w w':=by
 have HV:=ψ hv;have HK:=ψ hk;obtain⟨A,m,c,rfl,hl,dX,hc,hr⟩:=hk.Φ;have dC:=ψ hl;unfold ϗ at hc;have H2:=ψ hr;have tL:w.heap.size<=w.heap.size:=ϊ _;clear hl hr hk hv;cases ea:mK x.name.data.toList with
 |false=>
  go_enter func185,Tryz.ntmps185;go_wp2_with (first
   | (go_at_call 182;refine(isName dH _).mono ?_;rintro e w1 ⟨rfl,ae⟩;obtain⟨ff,gM⟩:=fy ae rfl))
  go_ret;exact⟨aX (by unfold gJ;rw[ea];rfl),cU (Ϗ _ _) ae (ϊ _)⟩
 |true=>
  cases ld:l.any (λq=>jF q.name x.name) with
  |true=>
   go_enter func185,Tryz.ntmps185;go_wp2_with (first
    | (go_at_call 182;refine(isName dH _).mono ?_;rintro e w1 ⟨rfl,ae⟩;obtain⟨ff,gM⟩:=fy ae rfl;have aN:w.heap.size<w1.heap.size:=oE ae;have dO:=ψ (cU (Ϗ w.heap.size w) ae (ϊ _));have kQ:Hid (w1.cell? ⟨w.heap.size,0,ν⟩=φ (.string x.name)):=ψ ((ff w.heap.size 0 (by simp)).trans (Af0 w _ _ _ 0));clear ae)
    | (go_at_call 205;have HS:=ψ (HV.e.still (Δ.aK dO.e hB) λ_ _ h=>h.still (Δ.aK dO.e hB));refine(GD (λq=>jF q.name x.name) call206 HS.e (Ϥ hB (Agz aN)) (λW y kv hW _ _ _=>app1 (I6 (p:=⟨w.heap.size,0,ν⟩) ((hW.cell (p:=⟨w.heap.size,0,ν⟩) aN).trans kQ.e) (Ϡ aN hW.size)))).mono ?_;rintro e w2 ⟨rfl,ak⟩;obtain⟨ef,nD⟩:=fy ak rfl;have ba:w.heap.size<w2.heap.size:=Ϡ aN ak.size;have dI:=ψ (chain dO.e ak (Agz aN));clear ak))
   go_ret;exact⟨aX (by unfold gJ;rw[ea,ld];rfl),dI.e⟩
  |false=>
   cases ij:bX x.aH 1 40 with
   |false=>
    go_enter func185,Tryz.ntmps185;go_wp2_with (first
     | (go_at_call 182;refine(isName dH _).mono ?_;rintro e w1 ⟨rfl,ae⟩;obtain⟨ff,gM⟩:=fy ae rfl;have aN:w.heap.size<w1.heap.size:=oE ae;have dO:=ψ (cU (Ϗ w.heap.size w) ae (ϊ _));have kQ:Hid (w1.cell? ⟨w.heap.size,0,ν⟩=φ (.string x.name)):=ψ ((ff w.heap.size 0 (by simp)).trans (Af0 w _ _ _ 0));clear ae)
     | (go_at_call 205;have HS:=ψ (HV.e.still (Δ.aK dO.e hB) λ_ _ h=>h.still (Δ.aK dO.e hB));refine(GD (λq=>jF q.name x.name) call206 HS.e (Ϥ hB (Agz aN)) (λW y kv hW _ _ _=>app1 (I6 (p:=⟨w.heap.size,0,ν⟩) ((hW.cell (p:=⟨w.heap.size,0,ν⟩) aN).trans kQ.e) (Ϡ aN hW.size)))).mono ?_;rintro e w2 ⟨rfl,ak⟩;obtain⟨ef,nD⟩:=fy ak rfl;have ba:w.heap.size<w2.heap.size:=Ϡ aN ak.size;have dI:=ψ (chain dO.e ak (Agz aN));clear ak)
     | (go_at_call 134;refine(inside _ _ _ _).mono ?_;rintro e w' ⟨rfl,rfl⟩))
    go_ret;exact⟨aX (by unfold gJ;rw[ea,ld,ij];rfl),dI.e⟩
   |true=>
    obtain⟨pb,Un⟩:=nJ ij;by_cases h3:3<m
    ·go_enter func185,Tryz.ntmps185
     go_wp2_with (first
      | (go_at_call 182;refine(isName dH _).mono ?_;rintro e w1 ⟨rfl,ae⟩;obtain⟨ff,gM⟩:=fy ae rfl;have aN:w.heap.size<w1.heap.size:=oE ae;have dO:=ψ (cU (Ϗ w.heap.size w) ae (ϊ _));have kQ:Hid (w1.cell? ⟨w.heap.size,0,ν⟩=φ (.string x.name)):=ψ ((ff w.heap.size 0 (by simp)).trans (Af0 w _ _ _ 0));clear ae)
      | (go_at_call 205;have HS:=ψ (HV.e.still (Δ.aK dO.e hB) λ_ _ h=>h.still (Δ.aK dO.e hB));refine(GD (λq=>jF q.name x.name) call206 HS.e (Ϥ hB (Agz aN)) (λW y kv hW _ _ _=>app1 (I6 (p:=⟨w.heap.size,0,ν⟩) ((hW.cell (p:=⟨w.heap.size,0,ν⟩) aN).trans kQ.e) (Ϡ aN hW.size)))).mono ?_;rintro e w2 ⟨rfl,ak⟩;obtain⟨ef,nD⟩:=fy ak rfl;have ba:w.heap.size<w2.heap.size:=Ϡ aN ak.size;have dI:=ψ (chain dO.e ak (Agz aN));clear ak)
      | (go_at_call 134;refine(inside _ _ _ _).mono ?_;rintro e w' ⟨rfl,rfl⟩))
     go_ret;exact⟨aX (by unfold gJ;rw[ea,ld,ij,dC.e];simp[h3]),dI.e⟩
    ·go_enter func185,Tryz.ntmps185
     go_wp2_with (first
      | (go_at_call 182;refine(isName dH _).mono ?_;rintro e w1 ⟨rfl,ae⟩;obtain⟨ff,gM⟩:=fy ae rfl;have aN:w.heap.size<w1.heap.size:=oE ae;have dO:=ψ (cU (Ϗ w.heap.size w) ae (ϊ _));have kQ:Hid (w1.cell? ⟨w.heap.size,0,ν⟩=φ (.string x.name)):=ψ ((ff w.heap.size 0 (by simp)).trans (Af0 w _ _ _ 0));have YL:Hid (w1.cell? ⟨w.heap.size,1,ν⟩=φ (ξ κ x.aH)):=ψ ((ff w.heap.size 1 (by simp)).trans (Af0 w _ _ _ 1));clear ae)
      | (go_at_call 205;have HS:=ψ (HV.e.still (Δ.aK dO.e hB) λ_ _ h=>h.still (Δ.aK dO.e hB));refine(GD (λq=>jF q.name x.name) call206 HS.e (Ϥ hB (Agz aN)) (λW y kv hW _ _ _=>app1 (I6 (p:=⟨w.heap.size,0,ν⟩) ((hW.cell (p:=⟨w.heap.size,0,ν⟩) aN).trans kQ.e) (Ϡ aN hW.size)))).mono ?_;rintro e w2 ⟨rfl,ak⟩;obtain⟨ef,nD⟩:=fy ak rfl;have ba:w.heap.size<w2.heap.size:=Ϡ aN ak.size;have dI:=ψ (chain dO.e ak (Agz aN));have YM:Hid (w2.cell? ⟨w.heap.size,1,ν⟩=φ (ξ κ x.aH)):=ψ ((ef w.heap.size 1 aN).trans YL.e);clear ak)
      | (go_at_call 134;refine(inside _ _ _ _).mono ?_;rintro e w' ⟨rfl,rfl⟩))
     clear ff gM ef nD;go_loopw [4,5,7,30] (λr la q k wr=>∃(i:Nat) (z:Int),i<=m/\k=ξ κ i/\la=ξ κ z/\lX x.aH (-1) x.cM=lX x.aH z (x.cM.drop i)/\Γ w2.heap.size w2 wr) (λ_ _ _ k _=>m - (ϯ k).toNat)
     case atStart=>exact⟨0,-1,ϡ _,rfl,rfl,rfl,Ϗ _ _⟩
     case round=>
      obtain⟨i,z,hi,rfl,rfl,bt,hb⟩:=hrel;have HH:=ψ (ϐ bt hb);have dY:=hb.size;have DZ:w.heap.size<wr.heap.size:=Ϡ ba dY;have hlg: wr.cell? ⟨w.heap.size,1,ν⟩=φ (ξ κ x.aH):=(hb.cell (p:=⟨w.heap.size,1,ν⟩) ba).trans YM.e;by_cases al:i<m
      ·obtain⟨ad,y,cs,rfl,aC,hx,rfl,-,au⟩:=H2.e i al
       have st:Δ B w wr:=(Δ.aK dI.e hB).trans (Δ.aK hb (by omega))
       have h0:=cC au st aC rfl;have h1:=bK au st aC 0 rfl;have HX:=ψ (drop_cons hx);clear bt hb hx au st;cases hq:mO y.lo y.hi 0 (x.aH - 1) x.aH with
       |false=>
        go_wp2_with (first
            | (go_at_call 154;refine(yu (by omega) (by omega) _).mono ?_;rintro e w3 ⟨rfl,bD⟩;obtain⟨He,xM⟩:=fy bD rfl))
        go_ret;exact⟨aX (by unfold gJ;rw[ea,ld,ij,dC.e];simp[h3,HH.e.1,HX.e,lX,hq]),chain dI.e (cU HH.e.2 bD dY) (Agz ba)⟩
       |true=>
        go_wp2_with (first
            | (go_at_call 154;refine(yu (by omega) (by omega) _).mono ?_;rintro e w3 ⟨rfl,bD⟩;obtain⟨He,xM⟩:=fy bD rfl;have jB:wr.heap.size<w3.heap.size:=oE bD))
        ·have hz:y.lo<=z:=by assumption
         go_ret;exact⟨aX (by unfold gJ;rw[ea,ld,ij,dC.e];simp[h3,HH.e.1,HX.e,lX,hq,hz]),chain dI.e (cU HH.e.2 bD dY) (Agz ba)⟩
        ·have hz:z<y.lo:=by assumption
         go_roundw;case rel=>exact⟨i+1,y.hi,by omega,by go_num,rfl,by rw[HH.e.1,HX.e];simp[lX,hq];omega,cU HH.e.2 bD dY⟩
         case measure=>simp[ϯ];omega
      ·obtain rfl:i=m:=by omega
       go_wp2;go_ret;refine⟨aX ?_,chain dI.e HH.e.2 (Agz ba)⟩
       unfold gJ;rw[ea,ld,ij,dC.e];simp[h3,HH.e.1]
       rw[Agh (Agw dC.e)];rfl
def ua{P:ϑ}{id:Nat}{Q:Exit->Act->Ψ->Prop}{a:Act}{w:Ψ}{l:List Oper}(n:Nat)(hm:P.follows .mixedOrders=θ)(hB:Region.lexTailB .any l.toArray n=θ)
 (h:wpStill P l.toArray w.drew (λa'=>wpList P l.toArray Q (l.drop n) a' w.drew) (l.take n) a):(Code.region id l.toArray θ).wp P Q a w:=
 wp_region_still_tail n hm hB h
def kC(l:List bR):Int:=if 3<l.length then 2 else scan gJ [] l
def aF{n:Int}{pv bv tv:υ}{w:Ψ}{B:Nat}{l:List bR}(hv:Row w B 3 (bR.R w B) bv l)(hB:B<=w.heap.size):
 ύ prog 143 #[η #[ξ κ n,pv,bv,tv]] w λe w'=>e=Ω (ξ κ (kC l))/\Γ w.heap.size w w':=by
 have HV:=ψ hv;obtain⟨A,m,c,rfl,hl,dX,hc,hr⟩:=hv.Φ;have dC:=ψ hl;unfold ϗ at hc;have H2:=ψ hr;clear hl hr hv;by_cases hlen:3<m
 ·go_enter func143,Tryz.ntmps143
  go_wp2;go_ret;exact⟨aX (by unfold kC;rw[dC.e,if_pos hlen]),(Ϗ _ _).alloc (ϊ _) _⟩
 ·go_enter func143,Tryz.ntmps143
  go_wp2;go_loopw [2,3,4,5,15] (λr t q s k wr=>∃i:Nat,i<=m/\k=ξ κ i/\(∀(j:Nat) (x:bR),j<i->l[j]?=φ x->gJ (l.take j) x=0)/\Γ (w.heap.size+1) (w.alloc (Ϧ #[ξ κ n,pv,ζ A m c,tv] 117)) wr) (λ_ _ _ _ k _=>m - (ϯ k).toNat)
  case atStart=>exact⟨0,ϡ _,rfl,λj _ hj=>by omega,Ϗ _ _⟩
  case round=>
   obtain⟨i,hi,rfl,bt,hb⟩:=hrel;have HH:=ψ (ϐ bt hb);have dY:=hb.size;have aI:w.heap.size+1<=wr.heap.size:=by simpa using dY
   have tL:w.heap.size<=wr.heap.size:=by omega
   have DZ:w.heap.size<wr.heap.size:=by omega
   have ho: wr.cell? ⟨w.heap.size,2,ν⟩=φ (ζ A m c):=(hb.cell (p:=⟨w.heap.size,2,ν⟩) (by simp)).trans (by simp[go_sem])
   by_cases al:i<m
   ·obtain⟨ad,x,cs,rfl,aC,hx,⟨kv,rfl,dH,dj⟩,-,au⟩:=H2.e i al
    have st:Δ B w wr:=((Δ.refl w).alloc hB _).trans (Δ.aK hb (by omega))
    have ST:=ψ st;obtain⟨A2,c2,rfl,-⟩:=id dj;obtain⟨n2,dM⟩:∃n2,n2=x.cM.length:=⟨_,rfl⟩
    rw[<-dM] at dj au;clear dM;have yV:=ψ dj;have h0:=cC au st aC rfl;have h1:=bK au st aC 0 rfl;have h2:=bK au st aC 1 rfl;have HX:=ψ hx;clear bt hb hx au st dY dj;have iC:=ψ HH.e.2;have DD:i<=c:=by omega
    go_wp2;refine ua 6 (by kernel_rfl) (by kernel_rfl) ?_
    simp only[Agi,Agj,Agk,Agl];repeat still_step
    refine wpStill_nil ?_
    have HS:Hid (Δ B w (wr.alloc (Ϧ #[Value.string x.name,ϝ Ϛ x.aH,Value.slice A2 n2 c2] 59)).drew):=ψ λp hp=>(Afz wr _ p (by omega)).trans (ST.e p hp)
    have HR:=ψ ((HV.e.take hi).still HS.e λ_ _ h=>h.still HS.e)
    have F7:=ψ (yV.e.still HS.e λ_ _ h=>h)
    by_cases hz:gJ (l.take i) x=0
    ·go_wp2_with (first
      | (go_at_call 185;refine(bp dH F7.e HR.e (by simp;omega)).mono ?_;rintro e w1 ⟨rfl,ae⟩;have dO:=ψ (cU iC.e (iU ae) aI);clear ae))
     go_roundw;case rel=>exact⟨i+1,by omega,by go_num,λj y hj hy=>by
      rcases Agv.1 hj with h|rfl
      ·exact HH.e.1 j y h hy
      ·rw[HX.e] at hy;cases hy;exact hz,dO.e⟩
     case measure=>simp[ϯ];omega
    ·go_wp2_with (first
      | (go_at_call 185;refine(bp dH F7.e HR.e (by simp;omega)).mono ?_;rintro e w1 ⟨rfl,ae⟩;have dO:=ψ (cU iC.e (iU ae) aI);clear ae))
     go_ret;exact⟨aX (by unfold kC;rw[dC.e,if_neg hlen,sf HX.e HH.e.1 hz]),iH dO.e⟩
   ·obtain rfl:i=m:=by omega
    go_wp2;go_ret;refine⟨aX ?_,iH HH.e.2⟩
    unfold kC;rw[dC.e,if_neg hlen,se (λj x hj=>HH.e.1 j x (by have:=(ϱ.1 hj).1;have:=dC.e;omega) hj)]
def eE(np:Int):Option Int->List Int->Int
 |_,[]=>0
 |none,k::l=>if bX k 0 (np - 1) then eE np (φ k) l else 6
 |some p,k::l=>if bX k 0 (np - 1) then if k<=p then 7 else eE np (φ k) l else 6
def kh(np:Int)(t:Tape):Int:=
 if t.pieces.length=0 then 2 else if eE np ν t.pieces≠0 then eE np ν t.pieces else if mO t.sum.lo t.sum.hi 0 120 121 then 0 else 1
def kK(np:Int)(l:List Tape):Int:=if 4<l.length then 2 else scan (λ_ t=>kh np t) [] l
def l8(l:List Int)(i:Nat):Option Int:=if i=0 then ν else l[i - 1]?
def aJ{n:Int}{pv bv tv:υ}{w:Ψ}{B:Nat}{lp:List Piece}{l:List Tape}(hp:Row w B 4 Piece.R pv lp)(hv:Row w B 3 (Tape.R w B) tv l)(hB:B<=w.heap.size):
 ύ prog 144 #[η #[ξ κ n,pv,bv,tv]] w λe w'=>e=Ω (ξ κ (kK lp.length l))/\Γ w.heap.size w w':=by
 obtain⟨PA,np,pc,rfl,kH,Hv,vw,-⟩:=hp.Φ;obtain⟨A,m,c,rfl,hl,dX,hc,hr⟩:=hv.Φ;have dC:=ψ hl;have DQ:=ψ kH;unfold ϗ at hc vw;have H2:=ψ hr;clear hl hr hv kH hp;by_cases hlen:4<m
 ·go_enter func144,Tryz.ntmps144
  go_wp2;go_ret;exact⟨aX (by unfold kK;rw[dC.e,if_pos hlen]),(Ϗ _ _).alloc (ϊ _) _⟩
 ·go_enter func144,Tryz.ntmps144
  go_wp2;go_loopw [2,4,5,6,16] (λr t q s k wr=>∃i:Nat,i<=m/\k=ξ κ i/\(∀(j:Nat) (x:Tape),j<i->l[j]?=φ x->kh np x=0)/\Γ (w.heap.size+1) (w.alloc (Ϧ #[ξ κ n,ζ PA np pc,bv,ζ A m c] 117)) wr) (λ_ _ _ _ k _=>m - (ϯ k).toNat)
  case atStart=>exact⟨0,ϡ _,rfl,λj _ hj=>by omega,Ϗ _ _⟩
  case round=>
   obtain⟨i,hi,rfl,bt,hb⟩:=hrel;have HH:=ψ (ϐ bt hb);have dY:=hb.size;have aI:w.heap.size+1<=wr.heap.size:=by simpa using dY
   have tL:w.heap.size<=wr.heap.size:=by omega
   have DZ:w.heap.size<wr.heap.size:=by omega
   have ho: wr.cell? ⟨w.heap.size,1,ν⟩=φ (ζ PA np pc):=(hb.cell (p:=⟨w.heap.size,1,ν⟩) (by simp)).trans (by simp[go_sem])
   by_cases al:i<m
   ·obtain⟨ad,x,cs,rfl,aC,hx,⟨kv,rfl,dj⟩,-,au⟩:=H2.e i al
    have st:Δ B w wr:=((Δ.refl w).alloc hB _).trans (Δ.aK hb (by omega))
    obtain⟨KA,kn,kc,rfl,da,Uu,DJ,xS⟩:=dj.Φ;unfold ϗ at DJ;have ST:=ψ st;have KL:=ψ da;have KR:=ψ xS;have h0:=cC au st aC rfl;have h1:=bK au st aC 0 rfl;have h2:=bK au st aC 1 rfl;have HX:=ψ hx;clear bt hb hx au st dY dj da xS;have iC:=ψ HH.e.2;have bad:∀s:Int,kh np x=s->s≠0->s=kK lp.length l:=λs hs h0=>by
     unfold kK;rw[dC.e,if_neg hlen,DQ.e,sf (f:=λ_ t=>kh np t) HX.e HH.e.1 (by rw[hs];exact h0),hs]
    have fG:=ψ bad;clear bad;by_cases iM:kn=0
    ·subst iM
     go_wp2;go_ret;exact⟨aX (fG.e 2 (by unfold kh;rw[KL.e];rfl) (by omega)),iH (iC.e.trans ((Ϗ _ _).alloc aI _))⟩
    ·have Hn:0<kn:=by omega
     have ig:((kn:Int)==0)=χ:=by simp;omega
     go_wp2
     go_loop [2,5,6,27] (λr q s k=>∃j:Nat,j<=kn/\k=ξ κ j/\eE np ν x.pieces=eE np (l8 x.pieces j) (x.pieces.drop j)) (λ_ _ _ k=>kn - (ϯ k).toNat)
     case atStart=>exact⟨0,ϡ _,rfl,rfl⟩
     case round=>
      obtain⟨j,hj,rfl,vx⟩:=hrel;have RE:=ψ vx;clear vx;by_cases nE:j<kn
      ·obtain⟨kd,y,jQ,rfl,qt,hy,rfl,-,ie⟩:=KR.e j nE
       have g0:=cC ie ST.e qt rfl;rw[Agx] at g0;have g1:(wr.alloc (Ϧ #[Value.slice (φ kd) kn kc,ϝ Ϛ x.sum.lo,ϝ Ϛ x.sum.hi] 95)).cell? (kd.add j)=φ (ξ κ y):=(Afz wr _ _ (by rw[cq];omega)).trans g0
       clear g0;have HY:=ψ hy;clear hy ie;cases dL:bX y 0 (np - 1) with
       |false=>
        go_wp2_with (first
            | (go_at_call 134;refine(inside _ _ _ _).mono ?_;rintro e w' ⟨rfl,rfl⟩))
        go_ret;refine⟨aX (fG.e 6 ?_ (by omega)),iH (iC.e.trans ((Ϗ _ _).alloc aI _))⟩
        have e:eE np ν x.pieces=6:=by
            rw[RE.e,drop_cons HY.e];cases l8 x.pieces j<;>simp[eE,dL]
        unfold kh;rw[KL.e,if_neg iM,e];rfl
       |true=>
        rcases Nat.eq_zero_or_pos j with uW|uW
        ·subst uW
         rw[show kd.add 0=kd from rfl] at g1
         go_wp2_with (first
            | (go_at_call 134;refine(inside _ _ _ _).mono ?_;rintro e w' ⟨rfl,rfl⟩))
         have hrel:eE np ν x.pieces=eE np (l8 x.pieces 1) (x.pieces.drop 1):=by rw[RE.e,drop_cons HY.e];simp[l8,eE,dL,HY.e]
         go_round
         case rel=>exact⟨1,nE,by go_num,hrel⟩
         case measure=>simp[ϯ];omega
        ·obtain⟨q,rfl⟩:∃q,j=q+1:=⟨j - 1,by omega⟩
         obtain⟨eT,z,SF,CQ,Uv,hz,rfl,-,vd⟩:=KR.e q (by omega)
         cases CQ;rw[show kd.add (q+1)=⟨kd.block,kd.off+(q+1),ν⟩ from rfl] at g1
         have g2:=cC vd ST.e qt rfl;rw[Agx] at g2;have g3:(wr.alloc (Ϧ #[Value.slice (φ kd) kn kc,ϝ Ϛ x.sum.lo,ϝ Ϛ x.sum.hi] 95)).cell? (kd.add q)=φ (ξ κ z):=(Afz wr _ _ (by rw[cq];omega)).trans g2
         have HZ:=ψ hz;clear g2 hz vd;go_wp2_with (first
            | (go_at_call 134;refine(inside _ _ _ _).mono ?_;rintro e w' ⟨rfl,rfl⟩))
         ·have qI:y<=z:=by assumption
          go_ret;refine⟨aX (fG.e 7 ?_ (by omega)),iH (iC.e.trans ((Ϗ _ _).alloc aI _))⟩
          have e:eE np ν x.pieces=7:=by
              rw[RE.e,drop_cons HY.e];simp[l8,HZ.e,eE,dL,qI]
          unfold kh;rw[KL.e,if_neg iM,e];rfl
         ·have qI:z<y:=by assumption
          have hrel:eE np ν x.pieces=eE np (l8 x.pieces (q+2)) (x.pieces.drop (q+2)):=by rw[RE.e,drop_cons HY.e];simp[l8,HZ.e,HY.e,eE,dL];omega
          go_round
          case rel=>exact⟨q+2,by omega,by go_num,hrel⟩
          case measure=>simp[ϯ];omega
      ·obtain rfl:j=kn:=by omega
       have e:eE np ν x.pieces=0:=by
           rw[RE.e,Agh (Agw KL.e)];cases l8 x.pieces j<;>rfl
       have HE:=ψ e;clear e;cases rR:mO x.sum.lo x.sum.hi 0 120 121 with
       |false=>
        go_wp2_with (first
            | (go_at_call 154;refine(yu (by omega) (by omega) _).mono ?_;rintro e w3 ⟨rfl,bD⟩))
        go_ret;exact⟨aX (fG.e 1 (by unfold kh;rw[KL.e,if_neg iM,HE.e,rR];rfl) (by omega)),iH (cU iC.e bD aI)⟩
       |true=>
        go_wp2_with (first
            | (go_at_call 154;refine(yu (by omega) (by omega) _).mono ?_;rintro e w3 ⟨rfl,bD⟩))
        go_roundw;case rel=>exact⟨i+1,by omega,by go_num,λk y hk hy=>by
            rcases Agv.1 hk with h|rfl
            ·exact HH.e.1 k y h hy
            ·rw[HX.e] at hy;cases hy;unfold kh;rw[KL.e,if_neg iM,HE.e,rR];rfl,cU iC.e bD aI⟩
        case measure=>simp[ϯ];omega
   ·obtain rfl:i=m:=by omega
    go_wp2;go_ret;refine⟨aX ?_,iH HH.e.2⟩
    unfold kK;rw[dC.e,if_neg hlen,DQ.e,se (f:=λ_ t=>kh np t) (λj x hj=>HH.e.1 j x (by have:=(ϱ.1 hj).1;have:=dC.e;omega) hj)]
end Go.Tw
namespace Go.Tw
variable [Go.Tw.aR]
open Go Go.Proofs Go.RowKit
def jP(b:ao):List Int:=[if bX b.ag 0 3 then 0 else 1,iw b.pieces,kC b.aF,kK b.pieces.length b.aJ]
def dF(b:ao):Int:=scan (λ_ s=>s) [] (jP b)
def pE(w:Ψ)(s:Int)(p q r:υ):Ψ:=
 ((w.alloc (Ϧ #[ϝ Ϛ s,p,q,r] 26)).alloc (Ϧ #[ϝ Ϛ s,p,q,r] 117)).alloc
   (Ϧ #[Value.func (Fn.func 141) #[Value.agg #[ϝ Ϛ s,p,q,r]] #[],Value.func (Fn.func 142) #[Value.agg #[ϝ Ϛ s,p,q,r]] #[],Value.func (Fn.func 143) #[Value.agg #[ϝ Ϛ s,p,q,r]] #[],Value.func (Fn.func 144) #[Value.agg #[ϝ Ϛ s,p,q,r]] #[]] 175)
section
variable (w:Ψ)(s:Int)(p q r:υ)
def amM:(pE w s p q r).heap.size=w.heap.size+3:=by simp[pE]
def amH:Γ w.heap.size w (pE w s p q r):=(((Ϗ _ _).alloc (ϊ _) _).alloc (by simp) _).alloc (by simp;omega) _
def amI:(pE w s p q r).cell? ⟨w.heap.size+1+1,0,ν⟩=φ (Value.func (Fn.func 141) #[Value.agg #[ϝ Ϛ s,p,q,r]] #[]):=by simp[pE,go_sem]
def amJ:(pE w s p q r).cell? ⟨w.heap.size+1+1,1,ν⟩=φ (Value.func (Fn.func 142) #[Value.agg #[ϝ Ϛ s,p,q,r]] #[]):=by simp[pE,go_sem]
def amK:(pE w s p q r).cell? ⟨w.heap.size+1+1,2,ν⟩=φ (Value.func (Fn.func 143) #[Value.agg #[ϝ Ϛ s,p,q,r]] #[]):=by simp[pE,go_sem]
def amL:(pE w s p q r).cell? ⟨w.heap.size+1+1,3,ν⟩=φ (Value.func (Fn.func 144) #[Value.agg #[ϝ Ϛ s,p,q,r]] #[]):=by simp[pE,go_sem]
end
def LS{b:ao}{pv bv tv:υ}{w:Ψ}{B:Nat}(hb:bg w B b pv bv tv)(hB:B<=w.heap.size):
 ύ prog 68 #[η #[ξ κ b.ag,pv,bv,tv]] w λe w'=>e=Ω (ξ κ (dF b))/\Γ w.heap.size w w':=by
 have HB:=ψ hb;obtain⟨A1,c1,e1,-⟩:=id hb.pieces;obtain⟨A2,c2,e2,-⟩:=id hb.aF;obtain⟨A3,c3,e3,-⟩:=id hb.aJ;obtain⟨n1,h1⟩:∃n,n=b.pieces.length:=⟨_,rfl⟩
 obtain⟨n2,h2⟩:∃n,n=b.aF.length:=⟨_,rfl⟩
 obtain⟨n3,h3⟩:∃n,n=b.aJ.length:=⟨_,rfl⟩
 rw[<-h1] at e1;rw[<-h2] at e2;rw[<-h3] at e3
 subst e1;subst e2;subst e3
 clear hb h1 h2 h3;go_enter func68,Tryz.ntmps68;go_wp2;go_loopw [2,5,6,19] (λa f u k wr=>∃i:Nat,i<=4/\k=ξ κ i/\(∀(j:Nat) (x:Int),j<i->(jP b)[j]?=φ x->x=0)/\Γ (w.heap.size+3) (pE w b.ag (ζ A1 n1 c1) (ζ A2 n2 c2) (ζ A3 n3 c3)) wr) (λ_ _ _ k _=>4 - (ϯ k).toNat)
 case atStart=>exact⟨0,ϡ _,rfl,λj _ hj=>by omega,Ϗ _ _⟩
 case round=>
  obtain⟨i,hi,rfl,bt,fX⟩:=hrel;have HH:=ψ (ϐ bt fX);have aI:w.heap.size+3<=wr.heap.size:=by have:=fX.size;rw[amM] at this;exact this
  have pN:=ψ ((amH w b.ag (ζ A1 n1 c1) (ζ A2 n2 c2) (ζ A3 n3 c3)).trans (fX.mono (by omega)))
  have bT:=ψ (HB.e.still (Δ.aK pN.e hB));have Mw:B<=wr.heap.size:=by omega
  clear bt;have done:∀(s:Int),(jP b)[i]?=φ s->s≠0->s=dF b:=λs hs h0=>(sf (f:=λ_ s=>s) hs HH.e.1 h0).symm
  have F0:=ψ done;clear done;have next:∀(s:Int),(jP b)[i]?=φ s->s=0->∀(j:Nat) (x:Int),j<i+1->(jP b)[j]?=φ x->x=0:=λs hs h0 j x hj hx=>by
   rcases Agv.1 hj with h|rfl
   ·exact HH.e.1 j x h hx
   ·rw[hs] at hx;cases hx;exact h0
  have Ge:=ψ next
  clear next
  by_cases al:i<4
  ·match i,al with
   |0,_=>
    have g:=(fX.cell (p:=⟨w.heap.size+1+1,0,ν⟩) (by simp)).trans (amI _ _ _ _ _)
    clear fX;have call:ύ prog 141 #[η #[ξ κ b.ag,ζ A1 n1 c1,ζ A2 n2 c2,ζ A3 n3 c3]] wr λe w'=>e=Ω (ξ κ (if bX b.ag 0 3 then 0 else 1))/\Γ wr.heap.size wr w':=(ag _)
    obtain⟨s,hs⟩:∃s:Int,s=(if bX b.ag 0 3 then 0 else 1):=⟨_,rfl⟩
    rw[<-hs] at call;have cD:(jP b)[0]?=φ s:=by rw[hs];rfl
    have HS:=ψ cD;have aB:=ψ call;clear hs cD call;by_cases h0:s=0
    ·go_wp2_with (first
      | (go_at_call 141;refine aB.e.mono ?_;rintro e w1 ⟨rfl,ae⟩;have aY:=ψ ae;clear ae))
     go_roundw;case rel=>exact⟨0+1,by omega,by go_num,Ge.e s HS.e h0,HH.e.2.trans (aY.e.mono aI)⟩
     case measure=>simp[ϯ]
    ·go_wp2_with (first
      | (go_at_call 141;refine aB.e.mono ?_;rintro e w1 ⟨rfl,ae⟩;have aY:=ψ ae;clear ae))
     go_ret;exact⟨aX (F0.e s HS.e h0),pN.e.trans (aY.e.mono (by omega))⟩
   |1,_=>
    have g:=(fX.cell (p:=⟨w.heap.size+1+1,1,ν⟩) (by simp)).trans (amJ _ _ _ _ _)
    clear fX;have call:ύ prog 142 #[η #[ξ κ b.ag,ζ A1 n1 c1,ζ A2 n2 c2,ζ A3 n3 c3]] wr λe w'=>e=Ω (ξ κ (iw b.pieces))/\Γ wr.heap.size wr w':=(pieces bT.e.pieces Mw)
    obtain⟨s,hs⟩:∃s:Int,s=(iw b.pieces):=⟨_,rfl⟩
    rw[<-hs] at call;have cD:(jP b)[1]?=φ s:=by rw[hs];rfl
    have HS:=ψ cD;have aB:=ψ call;clear hs cD call;by_cases h0:s=0
    ·go_wp2_with (first
      | (go_at_call 142;refine aB.e.mono ?_;rintro e w1 ⟨rfl,ae⟩;have aY:=ψ ae;clear ae))
     go_roundw;case rel=>exact⟨1+1,by omega,by go_num,Ge.e s HS.e h0,HH.e.2.trans (aY.e.mono aI)⟩
     case measure=>simp[ϯ]
    ·go_wp2_with (first
      | (go_at_call 142;refine aB.e.mono ?_;rintro e w1 ⟨rfl,ae⟩;have aY:=ψ ae;clear ae))
     go_ret;exact⟨aX (F0.e s HS.e h0),pN.e.trans (aY.e.mono (by omega))⟩
   |2,_=>
    have g:=(fX.cell (p:=⟨w.heap.size+1+1,2,ν⟩) (by simp)).trans (amK _ _ _ _ _)
    clear fX;have call:ύ prog 143 #[η #[ξ κ b.ag,ζ A1 n1 c1,ζ A2 n2 c2,ζ A3 n3 c3]] wr λe w'=>e=Ω (ξ κ (kC b.aF))/\Γ wr.heap.size wr w':=(aF bT.e.aF Mw)
    obtain⟨s,hs⟩:∃s:Int,s=(kC b.aF):=⟨_,rfl⟩
    rw[<-hs] at call;have cD:(jP b)[2]?=φ s:=by rw[hs];rfl
    have HS:=ψ cD;have aB:=ψ call;clear hs cD call;by_cases h0:s=0
    ·go_wp2_with (first
      | (go_at_call 143;refine aB.e.mono ?_;rintro e w1 ⟨rfl,ae⟩;have aY:=ψ ae;clear ae))
     go_roundw;case rel=>exact⟨2+1,by omega,by go_num,Ge.e s HS.e h0,HH.e.2.trans (aY.e.mono aI)⟩
     case measure=>simp[ϯ]
    ·go_wp2_with (first
      | (go_at_call 143;refine aB.e.mono ?_;rintro e w1 ⟨rfl,ae⟩;have aY:=ψ ae;clear ae))
     go_ret;exact⟨aX (F0.e s HS.e h0),pN.e.trans (aY.e.mono (by omega))⟩
   |3,_=>
    have g:=(fX.cell (p:=⟨w.heap.size+1+1,3,ν⟩) (by simp)).trans (amL _ _ _ _ _)
    clear fX;have call:ύ prog 144 #[η #[ξ κ b.ag,ζ A1 n1 c1,ζ A2 n2 c2,ζ A3 n3 c3]] wr λe w'=>e=Ω (ξ κ (kK b.pieces.length b.aJ))/\Γ wr.heap.size wr w':=(aJ bT.e.pieces bT.e.aJ Mw)
    obtain⟨s,hs⟩:∃s:Int,s=(kK b.pieces.length b.aJ):=⟨_,rfl⟩
    rw[<-hs] at call;have cD:(jP b)[3]?=φ s:=by rw[hs];rfl
    have HS:=ψ cD;have aB:=ψ call;clear hs cD call;by_cases h0:s=0
    ·go_wp2_with (first
      | (go_at_call 144;refine aB.e.mono ?_;rintro e w1 ⟨rfl,ae⟩;have aY:=ψ ae;clear ae))
     go_roundw;case rel=>exact⟨3+1,by omega,by go_num,Ge.e s HS.e h0,HH.e.2.trans (aY.e.mono aI)⟩
     case measure=>simp[ϯ]
    ·go_wp2_with (first
      | (go_at_call 144;refine aB.e.mono ?_;rintro e w1 ⟨rfl,ae⟩;have aY:=ψ ae;clear ae))
     go_ret;exact⟨aX (F0.e s HS.e h0),pN.e.trans (aY.e.mono (by omega))⟩
  ·obtain rfl:i=4:=by omega
   clear fX;go_wp2;go_ret;refine⟨aX (se (f:=λ_ s=>s) (λj x hx=>HH.e.1 j x (by have:=(ϱ.1 hx).1;simpa [jP] using this) hx)).symm,pN.e⟩
end Go.Tw
namespace Go.Tw
variable [Go.Tw.aR]
open Go Go.Proofs Go.RowKit
def po(c d:Cut):Int:=if c.bp≠d.bp then c.bp - d.bp else c.from_ - d.from_
def less{c d:Cut}{w:Ψ}(h1:0<=c.bp)(h2:0<=d.bp)(h3:0<=c.from_)(h4:0<=d.from_)(h5:c.bp<=1000)(h6:d.bp<=1000)(h7:c.from_<=1000)(h8:d.from_<=1000):
 ύ prog 173 #[η #[ξ κ c.bp,ξ κ c.from_],η #[ξ κ d.bp,ξ κ d.from_]] w λe w'=>e=Ω (ξ κ (po c d))/\Γ w.heap.size w w':=by
 by_cases h:c.bp=d.bp
 ·have hb:(c.bp !=d.bp)=χ:=by simp[h]
  have H:=ψ h;clear h;go_enter func173,Tryz.ntmps173;go_wp2;go_ret;exact⟨aX (by unfold po;rw[if_neg (by simp[H.e])]),((Ϗ _ _).alloc (ϊ _) _).alloc (by simp) _⟩
 ·have hb:(c.bp !=d.bp)=θ:=by simp[h]
  have H:=ψ h;clear h;go_enter func173,Tryz.ntmps173;go_wp2;go_ret;exact⟨aX (by unfold po;rw[if_pos H.e]),((Ϗ _ _).alloc (ϊ _) _).alloc (by simp) _⟩
def nv(s:Int)(c d:Cut)(n m:Int):Bool:= !(c.bp==d.bp) || (decide (c.from_+n+s<=d.from_) ||decide (d.from_+m+s<=c.from_))
def apart{s n m:Int}{c d:Cut}{pv bv tv:υ}{w:Ψ}(h1:0<=s/\s<=1000)(h2:0<=n/\n<=1000)(h3:0<=m/\m<=1000)(h4:0<=c.from_/\c.from_<=1000)(h5:0<=d.from_/\d.from_<=1000)
 (hp:∃A n c,pv=ζ A n c)(hb:∃A n c,bv=ζ A n c)(ht:∃A n c,tv=ζ A n c):
 ύ prog 166 #[η #[ξ κ s,pv,bv,tv],η #[ξ κ c.bp,ξ κ c.from_],η #[ξ κ d.bp,ξ κ d.from_],ξ κ n,ξ κ m] w λe w'=>e=Ω (.bool (nv s c d n m))/\Γ w.heap.size w w':=by
 obtain⟨A1,n1,c1,rfl⟩:=hp;obtain⟨A2,n2,c2,rfl⟩:=hb;obtain⟨A3,n3,c3,rfl⟩:=ht;obtain⟨h1,eA⟩:=h1;obtain⟨h2,dW⟩:=h2;obtain⟨h3,rD⟩:=h3;obtain⟨h4,h4'⟩:=h4;obtain⟨h5,GW⟩:=h5;by_cases h:c.bp=d.bp
 ·have hb:(c.bp !=d.bp)=χ:=by simp[h]
  have H:=ψ h;clear h;go_enter func166,Tryz.ntmps166;go_wp2;all_goals go_ret
  all_goals refine⟨b9 ?_,(((Ϗ _ _).alloc (ϊ _) _).alloc (by simp) _).alloc (by simp;omega) _⟩
  all_goals (unfold nv;simp[H.e];try omega)
 ·have hb:(c.bp !=d.bp)=θ:=by simp[h]
  have H:=ψ h;clear h;go_enter func166,Tryz.ntmps166;go_wp2;go_ret;exact⟨b9 (by unfold nv;simp[H.e]),(((Ϗ _ _).alloc (ϊ _) _).alloc (by simp) _).alloc (by simp;omega) _⟩
def VY(n:Int)(w:Ψ):ύ prog 178 (#[ξ κ n]++#[]) w λe w'=>e=Ω (.bool (!bX n 1 40))/\Γ w.heap.size w w':=by
 have e:(#[ξ κ n]++#[]:Array υ)=#[ξ κ n]:=by simp
 rw[e];go_enter func178,Tryz.ntmps178;go_wp2_with (first
  | (go_at_call 134;refine(inside _ _ _ _).mono ?_;rintro e w' ⟨rfl,rfl⟩))
 go_ret;exact⟨b9 rfl,Ϗ _ _⟩
def qL(b:ao)(l:List Int):Int:=if l.length≠b.pieces.length then 2 else if l.any (λn=> !bX n 1 40) then 1 else 0
def ahh{b:ao}{l:List Int}{pv bv tv lv:υ}{w:Ψ}{B:Nat}(hb:bg w B b pv bv tv)(hl:Row w B 1 cH lv l)(hB:B<=w.heap.size):
 ύ prog 127 #[η #[ξ κ b.ag,pv,bv,tv],lv] w λe w'=>e=Ω (ξ κ (qL b l))/\Γ w.heap.size w w':=by
 have HB:=ψ hb;have HL:=ψ hl;obtain⟨A1,n1,c1,rfl,e1,h1,eA,-⟩:=hb.pieces.Φ;obtain⟨A2,n2,c2,rfl,-⟩:=hb.aF.Φ;obtain⟨A3,n3,c3,rfl,-⟩:=hb.aJ.Φ;obtain⟨A,m,c,rfl,e2,h2,dW,-⟩:=hl.Φ;unfold ϗ at eA dW;have E1:=ψ e1;have E2:=ψ e2;clear hb hl e1 e2;by_cases fC:m=n1
 ·have hq:((m:Int) !=(n1:Int))=χ:=by simp[fC]
  have HQ:=ψ fC;clear fC;cases ha:l.any (λn=> !bX n 1 40) with
  |true=>
   go_enter func127,Tryz.ntmps127;go_wp2_with (first
    | (go_at_call 177;refine(SD (λn=> !bX n 1 40) call178 (HL.e.still (Δ.aK ((Ϗ w.heap.size w).alloc (ϊ _) _) hB) λ_ _ h=>h) (by simp;omega) (λW x _ _=>VY x W)).mono ?_;rintro e w1 ⟨rfl,ae⟩))
   go_ret;exact⟨aX (by unfold qL;rw[E1.e,E2.e,if_neg (by simp[HQ.e]),ha];rfl),cU (Ϗ _ _) ae (ϊ _)⟩
  |false=>
   go_enter func127,Tryz.ntmps127;go_wp2_with (first
    | (go_at_call 177;refine(SD (λn=> !bX n 1 40) call178 (HL.e.still (Δ.aK ((Ϗ w.heap.size w).alloc (ϊ _) _) hB) λ_ _ h=>h) (by simp;omega) (λW x _ _=>VY x W)).mono ?_;rintro e w1 ⟨rfl,ae⟩))
   go_ret;exact⟨aX (by unfold qL;rw[E1.e,E2.e,if_neg (by simp[HQ.e]),ha];rfl),cU (Ϗ _ _) ae (ϊ _)⟩
 ·have hq:((m:Int) !=(n1:Int))=θ:=by simp;omega
  have HQ:=ψ fC;clear fC;go_enter func127,Tryz.ntmps127;go_wp2;go_ret;exact⟨aX (by unfold qL;rw[E1.e,E2.e,if_pos HQ.e]),(Ϗ _ _).alloc (ϊ _) _⟩
end Go.Tw
namespace Go.Tw
variable [Go.Tw.aR]
open Go Go.Proofs Go.RowKit
def lW(w:Ψ)(s:Int)(p q r:υ)(k f:Int)(nm:ByteArray)(aH:Int)(kv:υ):Ψ:=
 ((w.alloc (Ϧ #[ξ κ s,p,q,r] 117)).alloc (Ϧ #[ξ κ k,ξ κ f] 56)).alloc (Ϧ #[.string nm,ξ κ aH,kv] 59)
section
variable (w:Ψ)(s:Int)(p q r:υ)(k f:Int)(nm:ByteArray)(aH:Int)(kv:υ)
def agM:(lW w s p q r k f nm aH kv).heap.size=w.heap.size+3:=by simp[lW]
def agL:Γ w.heap.size w (lW w s p q r k f nm aH kv):=(((Ϗ _ _).alloc (ϊ _) _).alloc (by simp) _).alloc (by simp;omega) _
def agG:(lW w s p q r k f nm aH kv).cell? ⟨w.heap.size,1,ν⟩=φ p:=by simp[lW,go_sem]
def agH:(lW w s p q r k f nm aH kv).cell? ⟨w.heap.size+1,1,ν⟩=φ (ξ κ f):=by simp[lW,go_sem]
def agI:(lW w s p q r k f nm aH kv).cell? ⟨w.heap.size+1+1,0,ν⟩=φ (.string nm):=by simp[lW,go_sem]
def agJ:(lW w s p q r k f nm aH kv).cell? ⟨w.heap.size+1+1,1,ν⟩=φ (ξ κ aH):=by simp[lW,go_sem]
def agK:(lW w s p q r k f nm aH kv).cell? ⟨w.heap.size+1+1,2,ν⟩=φ kv:=by simp[lW,go_sem]
end
def tR(x:bR)(bears length:Int)(c:Cut):Bool:=decide (c.from_+length - 1<x.aH) && decide (lh x.cM c.from_ (c.from_+length - 1)<=bears)
def VW{b:ao}{i k:Nat}{p:Piece}{x:bR}{from_ length:Int}{pv bv tv:υ}{w:Ψ}{B:Nat}(hb:bg w B b pv bv tv)(hB:B<=w.heap.size)
 (hp:b.pieces[i]?=φ p)(hx:b.aF[k]?=φ x)(hf:0<=from_/\from_<=1000)(hl:0<=length/\length<=1000):
 ύ prog 165 #[η #[ξ κ b.ag,pv,bv,tv],ξ κ i,ξ κ length,η #[ξ κ k,ξ κ from_]] w λe w'=>e=Ω (.bool (tR x p.bears length ⟨k,from_⟩))/\Γ w.heap.size w w':=by
 have HB:=ψ hb;obtain⟨A1,n1,c1,rfl,e1,h1,eA,r1⟩:=hb.pieces.Φ;obtain⟨A2,n2,c2,rfl,e2,h2,dW,r2⟩:=hb.aF.Φ;obtain⟨A3,n3,c3,rfl,-⟩:=hb.aJ.Φ;unfold ϗ at eA dW;have hi:i<n1:=by have:=(ϱ.1 hp).1;omega
 have hk:k<n2:=by have:=(ϱ.1 hx).1;omega
 obtain⟨ee,p',uQ,rfl,Ac,DV,⟨rfl,UX⟩,-,ff⟩:=r1 i hi;obtain⟨cI,x',jQ,rfl,fV,jz,⟨kv,rfl,UY,dj⟩,-,ef⟩:=r2 k hk;obtain rfl:p'=p:=by rw[DV] at hp;exact ϟ hp
 obtain rfl:x'=x:=by rw[jz] at hx;exact ϟ hx
 obtain⟨A4,n4,c4,rfl,-⟩:=dj.Φ;have st:=Δ.refl (B:=B) w;have g3:=bK ff st Ac 2 rfl;have b0:=cC ef st fV rfl;have b1:=bK ef st fV 0 rfl;have b2:=bK ef st fV 1 rfl;have yV:=ψ dj;obtain⟨hf,Hg⟩:=hf;obtain⟨hl,dC⟩:=hl;clear hb e1 e2 r1 r2 hp hx DV jz ff ef dj st;have q0:(cI.add (k * 3)).block<w.heap.size:=by rw[cq];omega
 have q1:(cI.add (k * 3)).block<=w.heap.size:=by omega
 have q2:(cI.add (k * 3)).block<=w.heap.size+1:=by omega
 have s0:(ee.add (i * 4)).block<w.heap.size:=by rw[cq];omega
 have s1:(ee.add (i * 4)).block<=w.heap.size:=by omega
 have s2:(ee.add (i * 4)).block<=w.heap.size+1:=by omega
 by_cases UE:from_+length - 1<x'.aH
 ·go_enter func165,Tryz.ntmps165
  go_wp2;have HW:=ψ (agL w b.ag (ζ (φ ee) n1 c1) (ζ (φ cI) n2 c2) (ζ A3 n3 c3) k from_ x'.name x'.aH (ζ A4 n4 c4));have k1:=agG w b.ag (ζ (φ ee) n1 c1) (ζ (φ cI) n2 c2) (ζ A3 n3 c3) k from_ x'.name x'.aH (ζ A4 n4 c4);have k2:=agH w b.ag (ζ (φ ee) n1 c1) (ζ (φ cI) n2 c2) (ζ A3 n3 c3) k from_ x'.name x'.aH (ζ A4 n4 c4);have yv:=agI w b.ag (ζ (φ ee) n1 c1) (ζ (φ cI) n2 c2) (ζ A3 n3 c3) k from_ x'.name x'.aH (ζ A4 n4 c4);have yx:=agJ w b.ag (ζ (φ ee) n1 c1) (ζ (φ cI) n2 c2) (ζ A3 n3 c3) k from_ x'.name x'.aH (ζ A4 n4 c4);have OE:=agK w b.ag (ζ (φ ee) n1 c1) (ζ (φ cI) n2 c2) (ζ A3 n3 c3) k from_ x'.name x'.aH (ζ A4 n4 c4);have HS:=ψ (agM w b.ag (ζ (φ ee) n1 c1) (ζ (φ cI) n2 c2) (ζ A3 n3 c3) k from_ x'.name x'.aH (ζ A4 n4 c4));change Code.wp _ _ _ _ (lW w b.ag (ζ (φ ee) n1 c1) (ζ (φ cI) n2 c2) (ζ A3 n3 c3) k from_ x'.name x'.aH (ζ A4 n4 c4));generalize lW w b.ag (ζ (φ ee) n1 c1) (ζ (φ cI) n2 c2) (ζ A3 n3 c3) k from_ x'.name x'.aH (ζ A4 n4 c4)=W3 at HW k1 k2 yv yx OE HS |-
  have k4: W3.cell? ⟨(ee.add (i * 4)).block,(ee.add (i * 4)).off+(2+1),ν⟩=φ (ξ κ p'.bears):=(HW.e.cell (p:=⟨(ee.add (i * 4)).block,(ee.add (i * 4)).off+(2+1),ν⟩) s0).trans g3;have wO:Hid (Γ (w.heap.size+3) W3 W3.drew):=ψ (iY (Ϗ _ _));have YJ:Hid (Row W3.drew B 2 Span.R (ζ A4 n4 c4) x'.cM):=ψ (yV.e.still (Δ.aK (iY HW.e) hB) λ_ _ h=>h)
  have HT:Hid (W3.drew.heap.size=w.heap.size+3):=ψ HS.e;go_region_held3 (λw'=> w'.cell? ⟨w.heap.size,1,ν⟩=φ (ζ (φ ee) n1 c1)/\ w'.cell? ⟨w.heap.size+1,1,ν⟩=φ (ξ κ from_)/\ w'.cell? ⟨w.heap.size+1+1,0,ν⟩=φ (.string x'.name)/\ w'.cell? ⟨w.heap.size+1+1,1,ν⟩=φ (ξ κ x'.aH)/\ w'.cell? ⟨w.heap.size+1+1,2,ν⟩=φ (ζ A4 n4 c4)/\ w'.cell? ⟨(ee.add (i * 4)).block,(ee.add (i * 4)).off+(2+1),ν⟩=φ (ξ κ p'.bears)/\Hid (Γ (w.heap.size+3) W3 w')) (first|exact⟨k1,k2,yv,yx,OE,k4,wO⟩ |exact⟨m1,m2,m30,m31,m32,m4,th⟩)
   (first| (go_at_call 132;refine(met YJ.e (by rw[HT.e];omega)).mono ?_;rintro e w1 ⟨rfl,ae⟩
            have m1:=(ae.cell (p:=⟨w.heap.size,1,ν⟩) (by rw[HT.e];simp)).trans k1
            have m2:=(ae.cell (p:=⟨w.heap.size+1,1,ν⟩) (by rw[HT.e];simp)).trans k2
            have m30:=(ae.cell (p:=⟨w.heap.size+1+1,0,ν⟩) (by rw[HT.e];simp)).trans yv
            have m31:=(ae.cell (p:=⟨w.heap.size+1+1,1,ν⟩) (by rw[HT.e];simp)).trans yx
            have m32:=(ae.cell (p:=⟨w.heap.size+1+1,2,ν⟩) (by rw[HT.e];simp)).trans OE
            have m4:=(ae.cell (p:=⟨(ee.add (i * 4)).block,(ee.add (i * 4)).off+(2+1),ν⟩) (by rw[HT.e];simp;omega)).trans k4
            have th:Hid (Γ (w.heap.size+3) W3 w1):=ψ (iU (ae.mono (by rw[HT.e];omega)))))
  go_wp2;go_ret;refine⟨b9 ?_,HW.e.trans (th.e.mono (by omega))⟩
  simp[tR,UE]
 ·have hd:decide (from_+length - 1<x'.aH)=χ:=by simpa using UE
  go_enter func165,Tryz.ntmps165;go_wp2;go_quiet (fail);go_wp2;go_ret;refine⟨b9 ?_,jq ((((Ϗ _ _).alloc (ϊ _) _).alloc (by simp) _).alloc (by simp;omega) _) _⟩
  simp[tR,hd]
end Go.Tw
namespace Go.Tw
variable [Go.Tw.aR]
open Go Go.Proofs Go.RowKit
def fO(nb:Int)(c:Cut):Int:=if bX c.bp 0 (nb - 1) then if bX c.from_ 0 40 then 0 else 1 else 6
def ez(b:ao)(l:List Cut):Int:=if l.length≠b.pieces.length then 2 else scan (λ_ c=>fO b.aF.length c) [] l
def LX{b:ao}{l:List Cut}{pv bv tv lv:υ}{w:Ψ}{B:Nat}(hb:bg w B b pv bv tv)(hl:Row w B 2 Cut.R lv l)(hB:B<=w.heap.size):
 ύ prog 109 #[η #[ξ κ b.ag,pv,bv,tv],lv] w λe w'=>e=Ω (ξ κ (ez b l))/\Γ w.heap.size w w':=by
 obtain⟨A1,n1,c1,rfl,e1,h1,eA,-⟩:=hb.pieces.Φ;obtain⟨A2,nb,c2,rfl,eb,h2,dW,-⟩:=hb.aF.Φ;obtain⟨A3,n3,c3,rfl,-⟩:=hb.aJ.Φ;obtain⟨A,m,c,rfl,e2,h3,rD,hr⟩:=hl.Φ;unfold ϗ at eA dW rD;have E1:=ψ e1;have EB:=ψ eb;have E2:=ψ e2;have H2:=ψ hr;clear hb hl e1 eb e2 hr;by_cases fC:m=n1
 ·have hq:((m:Int) !=(n1:Int))=χ:=by simp[fC]
  have HQ:=ψ fC;clear fC;have Bz:ez b l=scan (λ_ c=>fO nb c) [] l:=by unfold ez;rw[E1.e,E2.e,EB.e,if_neg (by simp[HQ.e])]
  have SN:=ψ Bz;clear Bz;go_enter func109,Tryz.ntmps109;go_wp2;go_loopw [4,6,7,17] (λr t q k wr=>∃i:Nat,i<=m/\k=ξ κ i/\(∀(j:Nat) (x:Cut),j<i->l[j]?=φ x->fO nb x=0)/\Γ (w.heap.size+1) (w.alloc (Ϧ #[ξ κ b.ag,ζ A1 n1 c1,ζ A2 nb c2,ζ A3 n3 c3] 117)) wr) (λ_ _ _ k _=>m - (ϯ k).toNat)
  case atStart=>exact⟨0,ϡ _,rfl,λj _ hj=>by omega,Ϗ _ _⟩
  case round=>
   obtain⟨i,hi,rfl,bt,hb⟩:=hrel;have HH:=ψ (ϐ bt hb);have dY:=hb.size;have aI:w.heap.size+1<=wr.heap.size:=by simpa using dY
   have tL:w.heap.size<=wr.heap.size:=by omega
   have DZ:w.heap.size<wr.heap.size:=by omega
   have ho: wr.cell? ⟨w.heap.size,2,ν⟩=φ (ζ A2 nb c2):=(hb.cell (p:=⟨w.heap.size,2,ν⟩) (by simp)).trans (by simp[go_sem])
   by_cases al:i<m
   ·obtain⟨ad,x,cs,rfl,aC,hx,rfl,-,au⟩:=H2.e i al
    have st:Δ B w wr:=((Δ.refl w).alloc hB _).trans (Δ.aK hb (by omega))
    have h0:=cC au st aC rfl;have h1:=bK au st aC 0 rfl;have HX:=ψ hx;clear bt hb hx au st dY;have iC:=ψ HH.e.2;have bad:∀s:Int,fO nb x=s->s≠0->s=ez b l:=λs hs h0=>by
     rw[SN.e,sf (f:=λ_ c=>fO nb c) HX.e HH.e.1 (by rw[hs];exact h0),hs]
    have fG:=ψ bad;clear bad;cases ea:bX x.bp 0 (nb - 1) with
    |false=>
     go_wp2_with (first
      | (go_at_call 100;refine(there _ _ (by omega) _ (by omega)).mono ?_;rintro e w' ⟨rfl,rfl⟩;simp only[ea]))
     go_ret;exact⟨aX (fG.e 6 (by unfold fO;rw[ea];rfl) (by omega)),iH (iC.e.trans ((Ϗ _ _).alloc aI _))⟩
    |true=>
     cases ld:bX x.from_ 0 40 with
     |false=>
      go_wp2_with (first
       | (go_at_call 100;refine(there _ _ (by omega) _ (by omega)).mono ?_;rintro e w' ⟨rfl,rfl⟩;simp only[ea])
       | (go_at_call 134;refine(inside _ _ _ _).mono ?_;rintro e w' ⟨rfl,rfl⟩))
      go_ret;exact⟨aX (fG.e 1 (by unfold fO;rw[ea,ld];rfl) (by omega)),iH (iC.e.trans ((Ϗ _ _).alloc aI _))⟩
     |true=>
      go_wp2_with (first
       | (go_at_call 100;refine(there _ _ (by omega) _ (by omega)).mono ?_;rintro e w' ⟨rfl,rfl⟩;simp only[ea])
       | (go_at_call 134;refine(inside _ _ _ _).mono ?_;rintro e w' ⟨rfl,rfl⟩))
      go_roundw;case rel=>exact⟨i+1,by omega,by go_num,λj y hj hy=>by
       rcases Agv.1 hj with h|rfl
       ·exact HH.e.1 j y h hy
       ·rw[HX.e] at hy;cases hy;unfold fO;rw[ea,ld];rfl,iC.e.trans ((Ϗ _ _).alloc aI _)⟩
      case measure=>simp[ϯ];omega
   ·obtain rfl:i=m:=by omega
    go_wp2;go_ret;refine⟨aX ?_,iH HH.e.2⟩
    rw[SN.e,se (f:=λ_ c=>fO nb c) (λj x hj=>HH.e.1 j x (by have:=(ϱ.1 hj).1;have:=E2.e;omega) hj)]
 ·have hq:((m:Int) !=(n1:Int))=θ:=by simp;omega
  have HQ:=ψ fC;clear fC;go_enter func109,Tryz.ntmps109;go_wp2;go_ret;exact⟨aX (by unfold ez;rw[E1.e,E2.e,if_pos HQ.e]),(Ϗ _ _).alloc (ϊ _) _⟩
def an.at(L:an)(i:Nat):Int:=if i=0 then L.a else if i=1 then L.b else L.c
def AW(b:ao)(i:Nat)(n:Int)(c:Cut):Bool:=match b.pieces[i]?,b.aF[c.bp.toNat]? with
 |some p,φ x=>tR x p.bears n c
 |_,_=>χ
def rm(b:ao)(L:an)(l:List Cut)(i:Nat)(c:Cut)(k:Nat):Bool:=match l[k]? with
 |some d=>nv b.ag c d (L.at i) (L.at k)
 |none=>θ
def td(b:ao)(L:an)(l:List Cut)(i:Nat):Bool:=match l[i]? with
 |some c=>AW b i (L.at i) c && (ϸ i).all (rm b L l i c)
 |none=>θ
def fp(b:ao)(L:an)(l:List Cut):Bool:=(ϸ l.length).all (td b L l)
def v8{n:Nat}{f:Nat->Bool}:(ϸ n).all f=θ↔∀i,i<n->f i=θ:=by simp
def Gn{n i:Nat}{f:Nat->Bool}(hi:i<n)(h:f i=χ):(ϸ n).all f=χ:=by
 cases e:(ϸ n).all f with
 |false=>rfl
 |true=>have:=v8.1 e i hi;rw[h] at this;cases this
structure oO(b:ao)(c:Cut):Prop where
 bp:∃k:Nat,c.bp=k/\k<b.aF.length
 from_:0<=c.from_/\c.from_<=40
structure DH(w:Ψ)(s:Int)(p q r:υ)(L:an)(W:Ψ):Prop where
 size:w.heap.size+2<=W.heap.size
 f0: W.cell? ⟨w.heap.size,0,ν⟩=φ (ξ κ s)
 f1: W.cell? ⟨w.heap.size,1,ν⟩=φ p
 f2: W.cell? ⟨w.heap.size,2,ν⟩=φ q
 f3: W.cell? ⟨w.heap.size,3,ν⟩=φ r
 g:∀i,i<3-> W.cell? ⟨w.heap.size+1,i,ν⟩=φ (ξ κ (L.at i))
def DH.below{w:Ψ}{s:Int}{p q r:υ}{L:an}{W W':Ψ}{B:Nat}(h:DH w s p q r L W)(hb:Γ B W W')(hB:w.heap.size+2<=B):DH w s p q r L W':=
 ⟨Ϥ h.size hb.size,(hb.cell (p:=⟨w.heap.size,0,ν⟩) (by simp;omega)).trans h.f0,(hb.cell (p:=⟨w.heap.size,1,ν⟩) (by simp;omega)).trans h.f1,(hb.cell (p:=⟨w.heap.size,2,ν⟩) (by simp;omega)).trans h.f2,
   (hb.cell (p:=⟨w.heap.size,3,ν⟩) (by simp;omega)).trans h.f3,λi hi=>(hb.cell (p:=⟨w.heap.size+1,i,ν⟩) (by simp;omega)).trans (h.g i hi)⟩
def DH.start(w:Ψ)(s:Int)(p q r:υ)(L:an):DH w s p q r L ((w.alloc (Ϧ #[ξ κ s,p,q,r] 117)).alloc (Ϧ #[ξ κ L.a,ξ κ L.b,ξ κ L.c] 128)):=by
 refine⟨by simp,by simp[go_sem],by simp[go_sem],by simp[go_sem],by simp[go_sem],λi hi=>?_⟩
 match i,hi with
 |0,_=>simp[go_sem,an.at]
 |1,_=>simp[go_sem,an.at]
 |2,_=>simp[go_sem,an.at]
def L3{b:ao}{L:an}{l:List Cut}{pv bv tv lv:υ}{w:Ψ}{B:Nat}(hb:bg w B b pv bv tv)(hl:Row w B 2 Cut.R lv l)(hB:B<=w.heap.size)
 (hlen:l.length=b.pieces.length)(ij:b.pieces.length<=3)(dh:∀(i:Nat) (c:Cut),l[i]?=φ c->oO b c)(hL:∀i,0<=L.at i/\L.at i<=1000)(vy:0<=b.ag/\b.ag<=1000):
 ύ prog 110 #[η #[ξ κ b.ag,pv,bv,tv],η #[ξ κ L.a,ξ κ L.b,ξ κ L.c],lv] w λe w'=>e=Ω (.bool (fp b L l))/\Γ w.heap.size w w':=by
 have bT:=ψ hb;obtain⟨A1,n1,c1,rfl,e1,h1,eA,-⟩:=hb.pieces.Φ;obtain⟨A2,nb,c2,rfl,eb,h2,dW,-⟩:=hb.aF.Φ;obtain⟨A3,n3,c3,rfl,-⟩:=hb.aJ.Φ;obtain⟨A,m,c,rfl,e2,h3,rD,hr⟩:=hl.Φ;unfold ϗ at eA dW rD;have QM:m<=3:=by omega
 have E2:=ψ e2;have EN:=ψ hlen;have H2:=ψ hr;have OK:=ψ dh;have HL:=ψ hL;have YX:=ψ vy;clear hb hl e1 eb e2 hr dh hL vy hlen ij;go_enter func110,Tryz.ntmps110;go_wp2;go_loopw [6,7,8,9,10,13,28,29,30] (λr t q s u k x y z wr=>∃i:Nat,i<=m/\k=ξ κ i/\(∀j:Nat,j<i->td b L l j=θ)/\Hid (DH w b.ag (ζ A1 n1 c1) (ζ A2 nb c2) (ζ A3 n3 c3) L wr)/\Γ w.heap.size w wr) (λ_ _ _ _ _ k _ _ _ _=>m - (ϯ k).toNat)
 case atStart=>exact⟨0,ϡ _,rfl,λj hj=>by omega,ψ (DH.start w b.ag _ _ _ L),((Ϗ _ _).alloc (ϊ _) _).alloc (by simp) _⟩
 case round=>
  obtain⟨wo,rfl⟩:∃wo:Ψ,wo=wr:=⟨_,rfl⟩
  obtain⟨i,hi,rfl,bt,xL,hb⟩:=hrel;have HH:=ψ (ϐ bt hb);have aI:w.heap.size+2<=wo.heap.size:=xL.e.size;by_cases al:i<m
  ·obtain⟨ad,x,cs,rfl,aC,hx,rfl,-,au⟩:=H2.e i al
   have st:Δ B w wo:=Δ.aK hb hB;have ok:=OK.e i x hx;obtain⟨bd,fr⟩:=x;obtain⟨k,hk,da⟩:=ok.bp;obtain rfl:bd=(k:Int):=hk;have b7:0<=fr/\fr<=40:=ok.from_;have h0:=cC au st aC rfl;have h1:=bK au st aC 0 rfl;have HX:=ψ hx;have f0:=xL.e.f0;have f1:=xL.e.f1;have f2:=xL.e.f2;have f3:=xL.e.f3;have gi:=xL.e.g i (by omega)
   have a0:w.heap.size<wo.heap.size:=by omega
   have a1:w.heap.size<=wo.heap.size:=by omega
   have a2:w.heap.size+1<wo.heap.size:=by omega
   have a3:w.heap.size+1<=wo.heap.size:=by omega
   have i3:i<3:=by omega
   have i3':(i:Int)<3:=by omega
   have DD:i<=c:=by omega
   clear bt hb hx au ok;go_wp2;refine ua 6 (by kernel_rfl) (by kernel_rfl) ?_
   simp only[Agi,Agj,Agk,Agl];repeat still_step
   refine wpStill_nil ?_
   have hp:∃p,b.pieces[i]?=φ p:=⟨_,Af9 (by have:=E2.e;have:=EN.e;omega)⟩
   obtain⟨p,hp⟩:=hp;have rE:b.aF[k]?=φ (b.aF[k]):=Af9 da
   obtain⟨bx,rE⟩:∃bx,b.aF[k]?=φ bx:=⟨_,rE⟩
   have Nz:AW b i (L.at i) ⟨k,fr⟩=tR bx p.bears (L.at i) ⟨k,fr⟩:=by unfold AW;simp[hp,rE]
   have KN:=ψ Nz;have call:ύ prog 165 #[η #[ξ κ b.ag,ζ A1 n1 c1,ζ A2 nb c2,ζ A3 n3 c3],ξ κ i,ξ κ (L.at i),η #[ξ κ k,ξ κ fr]] (wo.alloc (Ϧ #[ϝ Ϛ ↑k,ϝ Ϛ fr] 56)).drew
    λe w'=>e=Ω (.bool (tR bx p.bears (L.at i) ⟨k,fr⟩))/\Γ (wo.alloc (Ϧ #[ϝ Ϛ ↑k,ϝ Ϛ fr] 56)).drew.heap.size (wo.alloc (Ϧ #[ϝ Ϛ ↑k,ϝ Ϛ fr] 56)).drew w':=
    VW (B:=B) (bT.e.still λq hq=>(Afz wo _ q (by omega)).trans (st q hq)) (by simp;omega) hp rE ⟨b7.1,by omega⟩ (HL.e i)
   have aB:=ψ call;clear call hp rE Nz st;cases Aw:tR bx p.bears (L.at i) ⟨k,fr⟩ with
   |false=>
    go_wp2_with (first
     | (go_at_call 165;refine aB.e.mono ?_;rintro e w1 ⟨rfl,ae⟩;have dO:=ψ (cU HH.e.2 (iU ae) a1);clear ae))
    go_ret;refine⟨b9 ?_,dO.e⟩
    unfold fp;rw[E2.e]
    exact(Gn al (by unfold td;rw[HX.e];simp[KN.e,Aw])).symm
   |true=>
    go_wp2_with (first
     | (go_at_call 165;refine aB.e.mono ?_;rintro e w1 ⟨rfl,ae⟩;have dO:=ψ (cU HH.e.2 (iU ae) a1);have YC:=ψ (xL.e.below (cU (Ϗ (w.heap.size+2) wo) (iU ae) aI) (ϊ _));have zk:=ψ (iU ae);clear ae))
    have aN:wo.heap.size<w1.heap.size:=oE zk.e;have T3: w1.cell? ⟨wo.heap.size,0,ν⟩=φ (ξ κ k):=(zk.e.cell (p:=⟨wo.heap.size,0,ν⟩) (by simp)).trans (by simp[go_sem])
    have ah9: w1.cell? ⟨wo.heap.size,1,ν⟩=φ (ξ κ fr):=(zk.e.cell (p:=⟨wo.heap.size,1,ν⟩) (by simp)).trans (by simp[go_sem])
    have qZ:=ψ (ϐ T3 (ϐ ah9 aN));clear T3 ah9 f0 f1 f2 f3 gi h0 h1 aN;go_loopw [6,9,10,30] (λr s u z W=>∃j:Nat,j<=i/\z=ξ κ j/\(∀q:Nat,q<j->rm b L l i ⟨k,fr⟩ q=θ)/\Hid (DH w b.ag (ζ A1 n1 c1) (ζ A2 nb c2) (ζ A3 n3 c3) L W)/\Hid (W.cell? ⟨wo.heap.size,0,ν⟩=φ (ξ κ k)/\ W.cell? ⟨wo.heap.size,1,ν⟩=φ (ξ κ fr)/\wo.heap.size<W.heap.size)/\Γ w.heap.size w W) (λ_ _ _ z _=>i - (ϯ z).toNat)
    case atStart=>exact⟨0,ϡ _,rfl,λj hj=>by omega,YC,qZ,dO.e⟩
    case round=>
     obtain⟨j,hj,rfl,TU,tC,cX,xG⟩:=hrel;have HJ:=ψ (ϐ TU xG);have afE:w.heap.size+2<=wr.heap.size:=tC.e.size;clear TU;by_cases nE:j<i
     ·obtain⟨Cs,y,bh,kX,adT,hy,rfl,-,Ak⟩:=H2.e j (by omega)
      cases kX;have P2:Δ B w wr:=Δ.aK xG hB;have Wp:=OK.e j y hy;obtain⟨mn,iJ⟩:=y;have my:0<=iJ/\iJ<=40:=Wp.from_;have h0:=cC Ak P2 aC rfl;have h1:=bK Ak P2 aC 0 rfl;have HY:=ψ hy;have f0:=tC.e.f0;have f1:=tC.e.f1;have f2:=tC.e.f2;have f3:=tC.e.f3;have gi:=tC.e.g i i3;have gj:=tC.e.g j (by omega)
      obtain⟨LK,LM,Om⟩:=cX.e;have b0:w.heap.size<wr.heap.size:=by omega
      have b1:w.heap.size<=wr.heap.size:=by omega
      have b2:w.heap.size+1<wr.heap.size:=by omega
      have b3:w.heap.size+1<=wr.heap.size:=by omega
      have b4:wo.heap.size<=wr.heap.size:=by omega
      have j3:(j:Int)<3:=by omega
      clear xG hy Ak Wp P2;go_wp2;refine ua 9 (by kernel_rfl) (by kernel_rfl) ?_
      simp only[Agi,Agj,Agk,Agl];repeat still_step
      refine wpStill_nil ?_
      have Ae:rm b L l i ⟨k,fr⟩ j=nv b.ag ⟨k,fr⟩ ⟨mn,iJ⟩ (L.at i) (L.at j):=by unfold rm;rw[HY.e]
      have EP:=ψ Ae;clear Ae;have call:∀W:Ψ,ύ prog 166 #[η #[ξ κ b.ag,ζ A1 n1 c1,ζ A2 nb c2,ζ A3 n3 c3],η #[ξ κ k,ξ κ fr],η #[ξ κ mn,ξ κ iJ],ξ κ (L.at i),ξ κ (L.at j)] W
            λe w'=>e=Ω (.bool (nv b.ag ⟨k,fr⟩ ⟨mn,iJ⟩ (L.at i) (L.at j)))/\Γ W.heap.size W w':=λW=>
          apart (c:=⟨k,fr⟩) (d:=⟨mn,iJ⟩) YX.e (HL.e i) (HL.e j) ⟨b7.1,by have:=b7.2;show fr<=1000;omega⟩ ⟨my.1,by have:=my.2;show iJ<=1000;omega⟩ ⟨_,_,_,rfl⟩ ⟨_,_,_,rfl⟩ ⟨_,_,_,rfl⟩
      have uv:=ψ call;clear call;cases DK:nv b.ag ⟨k,fr⟩ ⟨mn,iJ⟩ (L.at i) (L.at j) with
      |false=>
       go_wp2_with (first
            | (go_at_call 166;refine(uv.e _).mono ?_;rintro e w2 ⟨rfl,ak⟩;have dI:=ψ (cU HJ.e.2 (iU ak) b1);clear ak))
       go_ret;refine⟨b9 ?_,dI.e⟩
       unfold fp;rw[E2.e]
       refine(Gn al ?_).symm
       unfold td;rw[HX.e]
       simp only[KN.e,Aw,Bool.true_and];exact Gn nE (by rw[EP.e,DK])
      |true=>
       go_wp2_with (first
            | (go_at_call 166;refine(uv.e _).mono ?_;rintro e w2 ⟨rfl,ak⟩;have dI:=ψ (cU HJ.e.2 (iU ak) b1);have wP:=ψ (cU (Ϗ wr.heap.size wr) (iU ak) (ϊ _));clear ak))
       go_roundw;case rel=>exact⟨j+1,by omega,by go_num,λq hq=>by
            rcases Agv.1 hq with h|rfl
            ·exact HJ.e.1 q h
            ·rw[EP.e,DK],ψ (tC.e.below wP.e afE),ψ ⟨(wP.e.cell (p:=⟨wo.heap.size,0,ν⟩) Om).trans LK,(wP.e.cell (p:=⟨wo.heap.size,1,ν⟩) Om).trans LM,Ϡ Om wP.e.size⟩,dI.e⟩
       case measure=>simp[ϯ];omega
     ·obtain rfl:j=i:=by omega
      clear xG;go_wp2;go_roundw;case rel=>exact⟨j+1,by omega,by go_num,λq hq=>by
          rcases Agv.1 hq with h|rfl
          ·exact HH.e.1 q h
          ·unfold td;rw[HX.e];simp only[KN.e,Aw,Bool.true_and];exact v8.2 HJ.e.1,tC,HJ.e.2⟩
      case measure=>simp[ϯ];omega
  ·obtain rfl:i=m:=by omega
   clear hb;go_wp2;go_ret;refine⟨b9 ?_,HH.e.2⟩
   unfold fp;rw[E2.e];exact(v8.2 HH.e.1).symm
def sg(L:an)(l:List Int):Int:=(l.map λk=>L.at k.toNat).sum
def al1(L:an)(l:List Int)(k:Int):sg L (l++ [k])=sg L l+L.at k.toNat:=by simp[sg]
def P5(L:an)(hL:∀i,0<=L.at i/\L.at i<=1000):∀l:List Int,0<=sg L l/\sg L l<=1000 * l.length
 | []=>by simp[sg]
 |k::l=>by
  have:=P5 L hL l;have:=hL k.toNat;simp[sg] at *;omega
def FO(L:an)(t:Tape):Bool:= !bX (sg L t.pieces) t.sum.lo t.sum.hi
def akk{t:Tape}{pv:υ}{L:an}{w:Ψ}{B g:Nat}(pd:Row w B 1 cH pv t.pieces)(hB:B<=w.heap.size)(hg:g<w.heap.size)
 (hc:∀i,i<3-> w.cell? ⟨g,i,ν⟩=φ (ξ κ (L.at i)))(hk:∀k∈t.pieces,0<=k/\k<3)(h3:t.pieces.length<=3)(hL:∀i,0<=L.at i/\L.at i<=1000):
 ύ prog 209 #[η #[pv,ξ κ t.sum.lo,ξ κ t.sum.hi],π (φ ⟨g,0,ν⟩)] w λe w'=>e=Ω (.bool (FO L t))/\Γ w.heap.size w w':=by
 obtain⟨A,n,c,rfl,hl,dX,cX,hr⟩:=pd.Φ;have lQ:n<=3:=by omega
 have nh:=ψ hl;have H2:=ψ hr;have HC:=ψ hc;have HK:=ψ hk;have HL:=ψ hL;have dB:g<=w.heap.size:=by omega
 clear hl hr hc hk hL pd cX h3;go_enter func209,Tryz.ntmps209;go_wp2
 go_loop [4,6,10] (λs q k=>∃i:Nat,i<=n/\k=ξ κ i/\s=ξ κ (sg L (t.pieces.take i))) (λ_ _ k=>n - (ϯ k).toNat)
 case atStart=>exact⟨0,ϡ _,rfl,rfl⟩
 case round=>
  obtain⟨i,hi,rfl,rfl⟩:=hrel;have vA:=(P5 L HL.e (t.pieces.take i)).1;have vz:sg L (t.pieces.take i)<=3000:=by
   have:=(P5 L HL.e (t.pieces.take i)).2;have:(t.pieces.take i).length<=i:=Age _ _;omega
  by_cases al:i<n
  ·obtain⟨ad,x,cs,rfl,aC,hx,rfl,-,au⟩:=H2.e i al
   have Vp:=HK.e x (ϩ hx);obtain⟨j,rfl⟩:=Int.eq_ofNat_of_zero_le Vp.1;have DE:j<3:=by omega
   have Us:(j:Int)<3:=by omega
   have h0:=cC au (Δ.refl (B:=B) w) aC rfl;rw[Agx] at h0;have q0:(ad.add i).block<w.heap.size:=by rw[cq];omega
   have gj:=HC.e j DE;have HX:=ψ hx;have UI:=HL.e j;obtain⟨UI,aot⟩:=UI;clear hx au Vp;go_wp2
   go_round
   case rel=>exact⟨i+1,by omega,by go_num,by rw[oJ HX.e,al1];rfl⟩
   case measure=>simp[ϯ];omega
  ·obtain rfl:i=n:=by omega
   go_wp2_with (first
    | (go_at_call 134;refine(inside _ _ _ _).mono ?_;rintro e w' ⟨rfl,rfl⟩))
   go_ret;refine⟨b9 ?_,(Ϗ _ _).alloc (ϊ _) _⟩
   unfold FO;rw[Agf (Agw nh.e)]
def zz(b:ao):Prop:=∀t∈b.aJ,(∀k∈t.pieces,0<=k/\k<3)/\t.pieces.length<=3
def Pw(L:an)(l:List Tape):Bool:= !(l.any (FO L))
def right{b:ao}{L:an}{pv bv tv:υ}{w:Ψ}{B:Nat}(hb:bg w B b pv bv tv)(hB:B<=w.heap.size)(dh:zz b)(hL:∀i,0<=L.at i/\L.at i<=1000):
 ύ prog 189 #[η #[ξ κ b.ag,pv,bv,tv],η #[ξ κ L.a,ξ κ L.b,ξ κ L.c]] w λe w'=>e=Ω (.bool (Pw L b.aJ))/\Γ w.heap.size w w':=by
 have bT:=ψ hb;obtain⟨A1,n1,c1,rfl,-⟩:=hb.pieces.Φ;obtain⟨A2,nb,c2,rfl,-⟩:=hb.aF.Φ;obtain⟨A3,n3,c3,rfl,-⟩:=hb.aJ.Φ;have OK:=ψ dh;have HL:=ψ hL;have ST:Hid (Δ B w ((w.alloc (Ϧ #[ξ κ b.ag,ζ A1 n1 c1,ζ A2 nb c2,ζ A3 n3 c3] 117)).alloc (Ϧ #[ξ κ L.a,ξ κ L.b,ξ κ L.c] 128))):=ψ (((Δ.refl w).alloc hB _).alloc (by simp;omega) _)
 have HD:=ψ (DH.start w b.ag (ζ A1 n1 c1) (ζ A2 nb c2) (ζ A3 n3 c3) L);clear hb dh hL;have call:ύ prog 208 #[ζ A3 n3 c3,fv 209 #[π (φ ⟨w.heap.size+1,0,ν⟩)]] ((w.alloc (Ϧ #[ξ κ b.ag,ζ A1 n1 c1,ζ A2 nb c2,ζ A3 n3 c3] 117)).alloc (Ϧ #[ξ κ L.a,ξ κ L.b,ξ κ L.c] 128))
  λe w'=>e=Ω (.bool (b.aJ.any (FO L)))/\Γ ((w.alloc (Ϧ #[ξ κ b.ag,ζ A1 n1 c1,ζ A2 nb c2,ζ A3 n3 c3] 117)).alloc (Ϧ #[ξ κ L.a,ξ κ L.b,ξ κ L.c] 128)).heap.size _ w':=
  aaX (FO L) call209 ((bT.e.still ST.e).aJ) (by simp;omega) λW x kv hW dj hx=>app1 (akk (B:=B) (dj.still (Δ.aK hW (by simp;omega)) λ_ _ h=>h)
   (Ϥ (by simp;omega) hW.size) (Ϡ (by simp) hW.size) (λi hi=>(hW.cell (p:=⟨w.heap.size+1,i,ν⟩) (by simp)).trans (HD.e.g i hi)) (OK.e x hx).1 (OK.e x hx).2 HL.e)
 have aB:=ψ call;clear call;go_enter func189,Tryz.ntmps189;go_wp2_with (first
  | (go_at_call 208;refine aB.e.mono ?_;rintro e w1 ⟨rfl,ae⟩))
 go_ret;exact⟨b9 rfl,(((Ϗ _ _).alloc (ϊ _) _).alloc (by simp) _).trans (ae.mono (by simp;omega))⟩
def first{l:List Int}{v:υ}{w:Ψ}{B:Nat}(hv:Row w B 1 cH v l):
 ύ prog 126 #[v] w λe w'=>e=Ω (ξ κ (scan (λ_ s=>s) [] l))/\w=w':=by
 obtain⟨A,n,c,rfl,hl,dX,cX,hr⟩:=hv.Φ;unfold ϗ at cX;have nh:=ψ hl;have H2:=ψ hr;clear hl hr hv;go_enter func126,Tryz.ntmps126;go_wp2
 go_loop [2,4,7] (λr q k=>∃i:Nat,i<=n/\k=ξ κ i/\(∀(j:Nat) (x:Int),j<i->l[j]?=φ x->x=0)) (λ_ _ k=>n - (ϯ k).toNat)
 case atStart=>exact⟨0,ϡ _,rfl,λj _ hj=>by omega⟩
 case round=>
  obtain⟨i,hi,rfl,bt⟩:=hrel;have HA:=ψ bt;clear bt;by_cases al:i<n
  ·obtain⟨ad,x,cs,rfl,aC,hx,rfl,-,au⟩:=H2.e i al
   have h0:=cC au (Δ.refl (B:=B) w) aC rfl;rw[Agx] at h0;have HX:=ψ hx;clear hx au;by_cases vF:x=0
   ·go_wp2
    go_round
    case rel=>exact⟨i+1,by omega,by go_num,λj y hj hy=>by
     rcases Agv.1 hj with h|rfl
     ·exact HA.e j y h hy
     ·rw[HX.e] at hy;cases hy;exact vF⟩
    case measure=>simp[ϯ];omega
   ·go_wp2
    go_ret;exact⟨aX (sf (f:=λ_ s=>s) HX.e HA.e vF).symm,rfl⟩
  ·obtain rfl:i=n:=by omega
   go_wp2;go_ret;exact⟨aX (se (f:=λ_ s=>s) (λj x hx=>HA.e j x (by have:=(ϱ.1 hx).1;have:=nh.e;omega) hx)).symm,rfl⟩
def Zl{P:ϑ}{f:Nat}{a b c:υ}{w:Ψ}{R:Ending->Ψ->Prop}(h:ύ P f #[a,b,c] w R):ύ P f (#[a]++#[b,c]) w R:=by
 have e:(#[a]++#[b,c]:Array υ)=#[a,b,c]:=by simp
 rw[e];exact h
structure Km(b:ao)(l:List Cut):Prop where
 len:l.length=b.pieces.length
 three:b.pieces.length<=3
 kD:∀(i:Nat) (c:Cut),l[i]?=φ c->oO b c
 ag:0<=b.ag/\b.ag<=1000
def an.Ok(L:an):Prop:=∀i,0<=L.at i/\L.at i<=1000
def al4{b:ao}{L:an}{l:List Cut}{pv bv tv lv:υ}{w:Ψ}{B g1 g2:Nat}(hb:bg w B b pv bv tv)(hl:Row w B 2 Cut.R lv l)(hB:B<=w.heap.size)(ok:Km b l)(hL:L.Ok)
 (dB:g1<w.heap.size)(kG:g2<w.heap.size)(f0: w.cell? ⟨g1,0,ν⟩=φ (ξ κ b.ag))(f1: w.cell? ⟨g1,1,ν⟩=φ pv)(f2: w.cell? ⟨g1,2,ν⟩=φ bv)(f3: w.cell? ⟨g1,3,ν⟩=φ tv)
 (f4: w.cell? ⟨g2,0,ν⟩=φ lv):
 ύ prog 169 #[η #[ξ κ L.a,ξ κ L.b,ξ κ L.c],π (φ ⟨g1,0,ν⟩),π (φ ⟨g2,0,ν⟩)] w λe w'=>e=Ω (.bool (!fp b L l))/\Γ w.heap.size w w':=by
 have call:=L3 (w:=w.alloc (Ϧ #[ξ κ L.a,ξ κ L.b,ξ κ L.c] 128)) (B:=B) (hb.still ((Δ.refl w).alloc hB _)) (hl.still ((Δ.refl w).alloc hB _) λ_ _ h=>h) (by simp;omega) ok.len ok.three ok.kD hL ok.ag
 have aB:=ψ call;have vh:g1<=w.heap.size:=by omega
 have aof:g2<=w.heap.size:=by omega
 obtain⟨A1,n1,c1,rfl,-⟩:=hb.pieces.Φ;obtain⟨A2,nb,c2,rfl,-⟩:=hb.aF.Φ;obtain⟨A3,n3,c3,rfl,-⟩:=hb.aJ.Φ;obtain⟨A,n,c,rfl,-⟩:=hl.Φ;clear call hb hl ok hL;go_enter func169,Tryz.ntmps169;go_wp2_with (first
  | (go_at_call 110;refine aB.e.mono ?_;rintro e w1 ⟨rfl,ae⟩))
 go_ret;exact⟨b9 rfl,cU (Ϗ _ _) ae (ϊ _)⟩
def FJ(b:ao)(ajD:List an)(l:List Cut):Bool:= !(ajD.any λL=> !fp b L l)
def XH{b:ao}{ps:List an}{l:List Cut}{pv bv tv sv lv:υ}{w:Ψ}{B:Nat}(hb:bg w B b pv bv tv)(hs:Row w B 3 an.R sv ps)(hl:Row w B 2 Cut.R lv l)(hB:B<=w.heap.size)(ok:Km b l)(hL:∀L∈ps,L.Ok):
 ύ prog 114 #[η #[ξ κ b.ag,pv,bv,tv,sv],lv] w λe w'=>e=Ω (.bool (FJ b ps l))/\Γ w.heap.size w w':=by
 have ST:Hid (Δ B w ((w.alloc (Ϧ #[ξ κ b.ag,pv,bv,tv,sv] 122)).alloc (Ϧ #[lv] 27))):=ψ (((Δ.refl w).alloc hB _).alloc (by simp;omega) _)
 have call:ύ prog 150 #[sv,fv 169 #[π (φ ⟨w.heap.size,0,ν⟩),π (φ ⟨w.heap.size+1,0,ν⟩)]] ((w.alloc (Ϧ #[ξ κ b.ag,pv,bv,tv,sv] 122)).alloc (Ϧ #[lv] 27))
  λe w'=>e=Ω (.bool (ps.any λL=> !fp b L l))/\Γ ((w.alloc (Ϧ #[ξ κ b.ag,pv,bv,tv,sv] 122)).alloc (Ϧ #[lv] 27)).heap.size _ w':=
  aaW (λL=> !fp b L l) call169 (hs.still ST.e λ_ _ h=>h) (by simp;omega) λW x hW hx=>by
   have sW:Δ B w W:=ST.e.trans (Δ.aK hW (by simp;omega))
   have hz:w.heap.size+2<=W.heap.size:=by have:=hW.size;simpa using this
   exact Zl (al4 (B:=B) (hb.still sW) (hl.still sW λ_ _ h=>h) (by omega) ok (hL x hx) (by omega) (by omega)
    ((hW.cell (p:=⟨w.heap.size,0,ν⟩) (by simp;try omega)).trans (by simp[go_sem])) ((hW.cell (p:=⟨w.heap.size,1,ν⟩) (by simp;try omega)).trans (by simp[go_sem])) ((hW.cell (p:=⟨w.heap.size,2,ν⟩) (by simp;try omega)).trans (by simp[go_sem]))
    ((hW.cell (p:=⟨w.heap.size,3,ν⟩) (by simp;try omega)).trans (by simp[go_sem])) ((hW.cell (p:=⟨w.heap.size+1,0,ν⟩) (by simp;try omega)).trans (by simp[go_sem])))
 have aB:=ψ call;obtain⟨A1,n1,c1,rfl,-⟩:=hb.pieces.Φ;obtain⟨A2,nb,c2,rfl,-⟩:=hb.aF.Φ;obtain⟨A3,n3,c3,rfl,-⟩:=hb.aJ.Φ;obtain⟨A4,n4,c4,rfl,-⟩:=hs.Φ;obtain⟨A,n,c,rfl,-⟩:=hl.Φ;clear call hb hs hl ok hL;go_enter func114,Tryz.ntmps114;go_wp2_with (first
  | (go_at_call 150;refine aB.e.mono ?_;rintro e w1 ⟨rfl,ae⟩))
 go_ret;exact⟨b9 rfl,(((Ϗ _ _).alloc (ϊ _) _).alloc (by simp) _).trans (ae.mono (by simp;omega))⟩
end Go.Tw
namespace Go.Tw
variable [Go.Tw.aR]
open Go Go.Proofs Go.RowKit
def Bk(w:Ψ)(g:Nat)(t:ό)(cs:Array υ):Prop:=w.heap[g]?=φ (.cells cs t (0,0))
section
variable {w w':Ψ}{g:Nat}{t:ό}{cs:Array υ}
def Bk.lt(h:Bk w g t cs):g<w.heap.size:=(Ϟ.1 h).1
def Bk.cell(h:Bk w g t cs)(i:Nat): w.cell? ⟨g,i,ν⟩=cs[i]?:=cell_of_row w g i cs t (0,0) h
def Bk.frozen(h:Bk w g t cs)(i:Nat): w.frozen? ⟨g,i,ν⟩=χ:=by
 have h':w.heap[g]?=φ (.cells cs t (0,0)):=h;simp[World.frozen?,h']
def Bk.alloc(h:Bk w g t cs)(o:Obj):Bk (w.alloc o) g t cs:=(Below.heap_alloc w o g h.lt).trans h
def Bk.new(w:Ψ)(t:ό)(cs:Array υ):Bk (w.alloc (.cells cs t)) w.heap.size t cs:=heap_alloc_new w _
def Bk.cG{w:Ψ}{g:Nat}(h:g=w.heap.size)(t:ό)(cs:Array υ):Bk (w.alloc (.cells cs t)) g t cs:=by subst h;exact Bk.new w t cs
def Bk.cu(h:Bk w g t cs){p:Addr}(hp:g≠p.block)(u:υ):Bk (w.setCell p u) g t cs:=(Afu w p u g hp).trans h
def Bk.set(h:Bk w g t cs)(i:Nat)(u:υ):Bk (w.setCell ⟨g,i,ν⟩ u) g t (cs.setIfInBounds i u):=by
 have h':w.heap[g]?=φ (.cells cs t (0,0)):=h;show(w.setCell ⟨g,i,ν⟩ u).heap[g]?=_;simp[World.setCell,Array.getElem?_modify,h']
def Bk.below{B:Nat}(h:Bk w g t cs)(hb:Γ B w w')(hg:g<B):Bk w' g t cs:=(hb.block g hg).trans h
end
def an.cs(L:an):Array υ:=#[ξ κ L.a,ξ κ L.b,ξ κ L.c]
def mU(M x:an)(i:Nat):an:=⟨if 0<i then(if M.a<x.a then x.a else M.a) else M.a,if 1<i then(if M.b<x.b then x.b else M.b) else M.b,if 2<i then(if M.c<x.c then x.c else M.c) else M.c⟩
def cz(l:List an):an:=l.foldl (λM x=>mU M x 3) ⟨0,0,0⟩
def aev(a b:Int):max a b=if a<b then b else a:=by
 rw[Int.max_def];split<;>split<;>omega
def TF(l:List an)(x:an):cz (l++ [x])=mU (cz l) x 3:=by simp[cz]
def TC{s:Int}{ps:List an}{pv bv tv sv:υ}{w:Ψ}{B:Nat}(hs:Row w B 3 an.R sv ps)(hB:B<=w.heap.size)(hp:∃A n c,pv=ζ A n c)(hb:∃A n c,bv=ζ A n c)(ht:∃A n c,tv=ζ A n c):
 ύ prog 115 #[η #[ξ κ s,pv,bv,tv,sv]] w λe w'=>e=Ω (.agg (cz ps).cs)/\Γ w.heap.size w w':=by
 obtain⟨A1,n1,c1,rfl⟩:=hp;obtain⟨A2,n2,c2,rfl⟩:=hb;obtain⟨A3,n3,c3,rfl⟩:=ht;obtain⟨A,n,c,rfl,hl,dX,cX,hr⟩:=hs.Φ;unfold ϗ at cX;have nh:=ψ hl;have H2:=ψ hr;clear hl hr hs;go_enter func115,Tryz.ntmps115;go_wp2;go_loopw [5,6,7,11,16] (λa b d k z wr=>∃i:Nat,i<=n/\k=ξ κ i/\Hid (Bk wr (w.heap.size+1+1) 128 (cz (ps.take i)).cs)/\Hid (Bk wr (w.heap.size+1) 128 #[ξ κ 0,ξ κ 0,ξ κ 0])/\Γ w.heap.size w wr) (λ_ _ _ k _ _=>n - (ϯ k).toNat)
 case atStart=>exact⟨0,ϡ _,rfl,ψ (Bk.cG (by simp) _ _),ψ ((Bk.cG (by simp) _ _).alloc _),(((Ϗ _ _).alloc (ϊ _) _).alloc (by simp) _).alloc (by simp;omega) _⟩
 case round=>
  obtain⟨wo,rfl⟩:∃wo:Ψ,wo=wr:=⟨_,rfl⟩
  obtain⟨i,hi,rfl,hk,cP,hb⟩:=hrel;have HB:=ψ hb;have hz:w.heap.size+1+1<wo.heap.size:=hk.e.lt;by_cases al:i<n
  ·obtain⟨ad,x,cs,rfl,aC,hx,rfl,-,au⟩:=H2.e i al
   have st:Δ B w wo:=Δ.aK hb hB;have h0:=cC au st aC rfl;have h1:=bK au st aC 0 rfl;have h2:=bK au st aC 1 rfl;have HX:=ψ hx;clear hb hx au st;go_wp2;go_loopw [6,7,16] (λa b z W=>∃j:Nat,j<=3/\z=ξ κ j/\Hid (Bk W (w.heap.size+1+1) 128 (mU (cz (ps.take i)) x j).cs)/\Hid (Bk W (w.heap.size+1) 128 #[ξ κ 0,ξ κ 0,ξ κ 0])/\Γ w.heap.size w W) (λ_ _ z _=>3 - (ϯ z).toNat)
   case atStart=>exact⟨0,by omega,rfl,ψ (by simpa [mU] using hk.e.alloc _),ψ (cP.e.alloc _),HB.e.trans ((Ϗ _ _).alloc (by omega) _)⟩
   case round=>
    obtain⟨j,hj,rfl,hq,tI,xG⟩:=hrel;have pN:=ψ xG;clear xG;obtain⟨M,hM⟩:∃M,M=cz (ps.take i):=⟨_,rfl⟩
    rw[<-hM] at hq;have HM:=ψ hM;clear hM;match j,hj with
    |0,_=>
     have g0: wr.cell? ⟨w.heap.size+1+1,0,ν⟩=φ (ξ κ M.a):=(hq.e.cell 0).trans (by simp[an.cs,mU])
     have fz:=hq.e.frozen 0;have i0:∀w:Ψ,(Afl 128 (η #[ξ κ x.a,ξ κ x.b,ξ κ x.c]) (ξ κ 0)).run prog w=.ok (ξ κ x.a) w:=λw=>by simp[Afl,go_sem]
     go_wp2;have cZ:=hq.e.set 0 (ξ κ (if M.a<x.a then x.a else M.a))
     have Cc:=ψ cZ;clear cZ;go_roundw;case rel=>exact⟨0+1,by omega,by go_num,ψ (by rw[<-HM.e];first|simpa [an.cs,mU] using Cc.e| (rw[aev];simpa [an.cs,mU] using Cc.e)),ψ (tI.e.cu (by simp) _),pN.e.setCell (by simp;omega) _⟩
     case measure=>simp[ϯ]
    |1,_=>
     have g0: wr.cell? ⟨w.heap.size+1+1,1,ν⟩=φ (ξ κ M.b):=(hq.e.cell 1).trans (by simp[an.cs,mU])
     have fz:=hq.e.frozen 1;have i0:∀w:Ψ,(Afl 128 (η #[ξ κ x.a,ξ κ x.b,ξ κ x.c]) (ξ κ 1)).run prog w=.ok (ξ κ x.b) w:=λw=>by simp[Afl,go_sem]
     go_wp2;have cZ:=hq.e.set 1 (ξ κ (if M.b<x.b then x.b else M.b))
     have Cc:=ψ cZ;clear cZ;go_roundw;case rel=>exact⟨1+1,by omega,by go_num,ψ (by rw[<-HM.e];first|simpa [an.cs,mU] using Cc.e| (rw[aev];simpa [an.cs,mU] using Cc.e)),ψ (tI.e.cu (by simp) _),pN.e.setCell (by simp;omega) _⟩
     case measure=>simp[ϯ]
    |2,_=>
     have g0: wr.cell? ⟨w.heap.size+1+1,2,ν⟩=φ (ξ κ M.c):=(hq.e.cell 2).trans (by simp[an.cs,mU])
     have fz:=hq.e.frozen 2;have i0:∀w:Ψ,(Afl 128 (η #[ξ κ x.a,ξ κ x.b,ξ κ x.c]) (ξ κ 2)).run prog w=.ok (ξ κ x.c) w:=λw=>by simp[Afl,go_sem]
     go_wp2;have cZ:=hq.e.set 2 (ξ κ (if M.c<x.c then x.c else M.c))
     have Cc:=ψ cZ;clear cZ;go_roundw;case rel=>exact⟨2+1,by omega,by go_num,ψ (by rw[<-HM.e];first|simpa [an.cs,mU] using Cc.e| (rw[aev];simpa [an.cs,mU] using Cc.e)),ψ (tI.e.cu (by simp) _),pN.e.setCell (by simp;omega) _⟩
     case measure=>simp[ϯ]
    |3,_=>
     go_wp2;go_roundw;case rel=>exact⟨i+1,by omega,by go_num,ψ (by rw[oJ HX.e,TF,<-HM.e];exact hq.e),tI,pN.e⟩
     case measure=>simp[ϯ];omega
  ·obtain rfl:i=n:=by omega
   have e0:=(hk.e.cell 0);have e1:=(hk.e.cell 1);have e2:=(hk.e.cell 2);rw[Agf (Agw nh.e)] at e0 e1 e2;generalize hG:cz ps=G at e0 e1 e2 |-
   replace e0: wo.cell? ⟨w.heap.size+1+1,0,ν⟩=φ (ξ κ G.a):=e0;replace e1: wo.cell? ⟨w.heap.size+1+1,1,ν⟩=φ (ξ κ G.b):=e1;replace e2: wo.cell? ⟨w.heap.size+1+1,2,ν⟩=φ (ξ κ G.c):=e2;have q0: wo.cell? ⟨w.heap.size+1,0,ν⟩=φ (ξ κ 0):=(cP.e.cell 0);have q1: wo.cell? ⟨w.heap.size+1,1,ν⟩=φ (ξ κ 0):=(cP.e.cell 1);have q2: wo.cell? ⟨w.heap.size+1,2,ν⟩=φ (ξ κ 0):=(cP.e.cell 2);have z0:=cP.e.frozen 0;have z1:=cP.e.frozen 1;have z2:=cP.e.frozen 2;clear hb;go_wp2;exact bodyPost_ret (v:=.agg G.cs) (by simp[results,Tryz.results115,go_sem,q0,q1,q2,an.cs]) rfl ⟨by rw[<-hG],((HB.e.setCell (by simp) _).setCell (by simp) _).setCell (by simp) _⟩
end Go.Tw
namespace Go.Tw
variable [Go.Tw.aR]
open Go
def Fu{α:Type}{f:List α->α->Int}:∀(l dw:List α),scan f dw l=0->∀x∈l,∃Zt,f Zt x=0
 | [],_,_,x,h=>by cases h
 |a::l,dw,h,x,hx=>by
  unfold scan at h;by_cases h0:f dw a≠0
  ·rw[if_pos h0] at h;exact absurd h h0
  ·rw[if_neg h0] at h
   rcases ϫ.1 hx with rfl|hx
   ·exact⟨dw,by simpa using h0⟩
   ·exact Fu l _ h x hx
def alA{a b lo hi m:Int}(h:mO a b lo hi m=θ):lo<=a/\a<=b/\b<=hi/\b - a<m:=by
 simp only[mO,Bool.and_eq_true,decide_eq_true_eq] at h;exact⟨h.1.1.1,h.1.1.2,h.1.2,h.2⟩
def WH{np:Int}:∀(l:List Int) (p:Int),eE np (φ p) l=0->(∀k∈l,0<=k/\k<np)/\(l=[]\/(l.length:Int)<=np - 1 - p)
 | [],_,_=>⟨λk h=>(by cases h),.inl rfl⟩
 |a::l,p,h=>by
  unfold eE at h;by_cases hi:bX a 0 (np - 1)=θ
  ·rw[if_pos hi] at h
   have hr:=nJ hi;by_cases ha:a<=p
   ·rw[if_pos ha] at h;omega
   ·rw[if_neg ha] at h
    obtain⟨h1,h2⟩:=WH l a h;refine⟨λk hk=>?_,.inr ?_⟩
    ·rcases ϫ.1 hk with rfl|hk
     ·omega
     ·exact h1 k hk
    ·rcases h2 with rfl|h2
     ·simp;omega
     ·simp;omega
  ·rw[if_neg hi] at h;omega
def akl{np:Int}{l:List Int}(hn:0<=np)(h:eE np ν l=0):(∀k∈l,0<=k/\k<np)/\(l.length:Int)<=np:=by
 cases l with
 |nil=>exact⟨λk h=>(by cases h),by simpa using hn⟩
 |cons a l=>
  unfold eE at h;by_cases hi:bX a 0 (np - 1)=θ
  ·rw[if_pos hi] at h
   have hr:=nJ hi;obtain⟨h1,h2⟩:=WH l a h;refine⟨λk hk=>?_,?_⟩
   ·rcases ϫ.1 hk with rfl|hk
    ·omega
    ·exact h1 k hk
   ·rcases h2 with rfl|h2
    ·simp;omega
    ·simp;omega
  ·rw[if_neg hi] at h;omega
structure Rm(p:Piece):Prop where
 lo:1<=p.len.lo
 le:p.len.lo<=p.len.hi
 hi:p.len.hi<=40
 wide:p.len.hi - p.len.lo<3
 bears:0<=p.bears/\p.bears<=2
structure QF(x:bR):Prop where
 aH:1<=x.aH/\x.aH<=40
 cM:x.cM.length<=3
structure Valid(b:ao):Prop where
 ag:0<=b.ag/\b.ag<=3
 np:1<=b.pieces.length/\b.pieces.length<=3
 piece:∀p∈b.pieces,Rm p
 nb:b.aF.length<=3
 bp:∀x∈b.aF,QF x
 nt:b.aJ.length<=4
 tape:∀t∈b.aJ,(∀k∈t.pieces,0<=k/\k<b.pieces.length)/\t.pieces.length<=b.pieces.length
def ajF{dw:List Piece}{p:Piece}(h:kJ dw p=0):Rm p:=by
 unfold kJ at h;split at h
 ·split at h
  ·omega
  ·split at h
   ·rename_i hs
    split at h
    ·rename_i hi
     have h1:=alA hs;have h2:=nJ hi;exact⟨h1.1,h1.2.1,h1.2.2.1,h1.2.2.2,h2⟩
    ·omega
   ·omega
 ·omega
def ZJ{dw:List bR}{x:bR}(h:gJ dw x=0):QF x:=by
 unfold gJ at h;split at h
 ·split at h
  ·omega
  ·split at h
   ·rename_i hi
    split at h
    ·omega
    ·exact⟨nJ hi,by omega⟩
   ·omega
 ·omega
def iy{b:ao}(h:dF b=0):Valid b:=by
 have hz:=Fu (f:=λ_ s=>s) (jP b) [] h
 obtain⟨_,h1⟩:=hz (if bX b.ag 0 3 then 0 else 1) (by simp[jP])
 obtain⟨_,h2⟩:=hz (iw b.pieces) (by simp[jP])
 obtain⟨_,h3⟩:=hz (kC b.aF) (by simp[jP])
 obtain⟨_,h4⟩:=hz (kK b.pieces.length b.aJ) (by simp[jP])
 clear hz h;have hs:bX b.ag 0 3=θ:=by
  cases e:bX b.ag 0 3 with
  |true=>rfl
  |false=>rw[e] at h1;simp at h1
 have kH:bX b.pieces.length 1 3=θ:=by
  cases e:bX b.pieces.length 1 3 with
  |true=>rfl
  |false=>unfold iw at h2;rw[e] at h2;simp at h2
 have hn:=nJ kH;unfold iw at h2;rw[kH,if_pos rfl] at h2;unfold kC at h3;split at h3
 ·omega
 unfold kK at h4;split at h4
 ·omega
 refine⟨nJ hs,by omega,λp hp=>?_,by omega,λx hx=>?_,by omega,λt ht=>?_⟩
 ·obtain⟨dw,h⟩:=Fu _ _ h2 p hp;exact ajF h
 ·obtain⟨dw,h⟩:=Fu _ _ h3 x hx;exact ZJ h
 ·obtain⟨dw,h⟩:=Fu _ _ h4 t ht
  simp only[kh] at h;split at h
  ·omega
  ·split at h
   ·contradiction
   ·rename_i h0
    have:=akl (np:=b.pieces.length) (by omega) (by simpa using h0)
    exact⟨this.1,by omega⟩
def Valid.amb{b:ao}(h:Valid b):zz b:=λt ht=>⟨λk hk=>by have:=(h.tape t ht).1 k hk;have:=h.np;omega,by have:=(h.tape t ht).2;have:=h.np;omega⟩
end Go.Tw
namespace Go.Tw
variable [Go.Tw.aR]
open Go Go.Proofs
def U{t:ό}{d:Option TypeDesc}(h:ϋ.underlying t=d):Tw.prog.underlying t=d:=(Jh t).trans h
def A{t:ό}{b:Bool}(h:∀w:Ψ,(isAgg t).run ϋ w=.ok b w):∀w:Ψ,(isAgg t).run Tw.prog w=.ok b w:=λw=>(amn t w).trans (h w)
def Z{t:ό}{b:Nat}(h:∀w:Ψ,(sizeOf t).run ϋ w=.ok b w):∀w:Ψ,(sizeOf t).run Tw.prog w=.ok b w:=λw=>(amo t w).trans (h w)
def V{t:ό}{b:υ}(h:∀w:Ψ,(zeroValue t).run ϋ w=.ok b w):∀w:Ψ,(zeroValue t).run Tw.prog w=.ok b w:=λw=>(Qb t w).trans (h w)
end Go.Tw
namespace Go.Proofs
variable [Go.Tw.aR]
open Go.Shelf
def Sh.agT:Go.Shelf.Ren:=⟨λ|122=>181|215=>203|n=>n,λ|3=>3|4=>4|n=>n,λ|n=>n⟩
def Sh.agS:Go.Proofs.Lays.n122 Tw.prog Sh.agT:={
 mixed:=by kernel_rfl
 f122:=Tw.func181.trans (congrArg φ (by kernel_rfl))
 f215:=Tw.func203.trans (congrArg φ (by kernel_rfl))
 t3:=Tw.U Tryz.underlying3
 a3:=Tw.A Tryz.isAgg3
 z3:=Tw.Z Tryz.sizeOf3
 v3:=Tw.V Tryz.zeroValue3
 t4:=Tw.U Tryz.underlying4
 a4:=Tw.A Tryz.isAgg4
 z4:=Tw.Z Tryz.sizeOf4
 v4:=Tw.V Tryz.zeroValue4}
open Go.RowKit in
def Sh.cmp_Compare_int(x y:Int)(w:Ψ):
 ύ Tw.prog 181 #[ξ κ x,ξ κ y] w λe w'=>e=Ω (ξ κ (Lib.compareInt x y))/\w'=w:=Any.cmp_Compare_int Sh.agS x y w
def Sh.agU:Go.Shelf.Ren:=⟨λ|189=>101|125=>164|257=>163|128=>199|129=>200|294=>190|295=>191|296=>192|297=>193|298=>194|299=>195|216=>196|300=>197|301=>198|328=>210|329=>211|330=>212|331=>213|332=>214|215=>203|343=>217|n=>n,λ|28=>33|3=>3|46=>194|0=>0|51=>220|53=>222|4=>4|183=>213|182=>212|131=>87|5=>5|9=>9|218=>234|222=>238|228=>242|229=>62|n=>n,λ|n=>n⟩
def Sh.VS:Go.Proofs.Lays.n189 Tw.prog Sh.agU:={
 mixed:=by kernel_rfl
 f125:=Tw.func164.trans (congrArg φ (by kernel_rfl))
 f128:=Tw.func199.trans (congrArg φ (by kernel_rfl))
 f129:=Tw.func200.trans (congrArg φ (by kernel_rfl))
 f189:=Tw.func101.trans (congrArg φ (by kernel_rfl))
 f215:=Tw.func203.trans (congrArg φ (by kernel_rfl))
 f216:=Tw.func196.trans (congrArg φ (by kernel_rfl))
 f257:=Tw.func163.trans (congrArg φ (by kernel_rfl))
 f294:=Tw.func190.trans (congrArg φ (by kernel_rfl))
 f295:=Tw.func191.trans (congrArg φ (by kernel_rfl))
 f296:=Tw.func192.trans (congrArg φ (by kernel_rfl))
 f297:=Tw.func193.trans (congrArg φ (by kernel_rfl))
 f298:=Tw.func194.trans (congrArg φ (by kernel_rfl))
 f299:=Tw.func195.trans (congrArg φ (by kernel_rfl))
 f300:=Tw.func197.trans (congrArg φ (by kernel_rfl))
 f301:=Tw.func198.trans (congrArg φ (by kernel_rfl))
 f328:=Tw.func210.trans (congrArg φ (by kernel_rfl))
 f329:=Tw.func211.trans (congrArg φ (by kernel_rfl))
 f330:=Tw.func212.trans (congrArg φ (by kernel_rfl))
 f331:=Tw.func213.trans (congrArg φ (by kernel_rfl))
 f332:=Tw.func214.trans (congrArg φ (by kernel_rfl))
 f343:=Tw.func217.trans (congrArg φ (by kernel_rfl))
 t0:=Tw.U Tryz.underlying0
 a0:=Tw.A Tryz.isAgg0
 z0:=Tw.Z Tryz.sizeOf0
 v0:=Tw.V Tryz.zeroValue0
 t3:=Tw.U Tryz.underlying3
 a3:=Tw.A Tryz.isAgg3
 z3:=Tw.Z Tryz.sizeOf3
 v3:=Tw.V Tryz.zeroValue3
 t4:=Tw.U Tryz.underlying4
 a4:=Tw.A Tryz.isAgg4
 z4:=Tw.Z Tryz.sizeOf4
 v4:=Tw.V Tryz.zeroValue4
 t5:=Tw.U Tryz.underlying5
 a5:=Tw.A Tryz.isAgg5
 z5:=Tw.Z Tryz.sizeOf5
 v5:=Tw.V Tryz.zeroValue5
 t9:=Tw.U Tryz.underlying9
 a9:=Tw.A Tryz.isAgg9
 z9:=Tw.Z Tryz.sizeOf9
 v9:=Tw.V Tryz.zeroValue9
 t28:=Tw.U Tryz.underlying33
 a28:=Tw.A Tryz.isAgg33
 z28:=Tw.Z Tryz.sizeOf33
 v28:=Tw.V Tryz.zeroValue33
 t46:=Tw.U Tryz.underlying194
 a46:=Tw.A Tryz.isAgg194
 z46:=Tw.Z Tryz.sizeOf194
 v46:=Tw.V Tryz.zeroValue194
 t51:=Tw.U Tryz.underlying220
 a51:=Tw.A Tryz.isAgg220
 z51:=Tw.Z Tryz.sizeOf220
 v51:=Tw.V Tryz.zeroValue220
 t53:=Tw.U Tryz.underlying222
 a53:=Tw.A Tryz.isAgg222
 z53:=Tw.Z Tryz.sizeOf222
 v53:=Tw.V Tryz.zeroValue222
 t131:=Tw.U Tryz.underlying87
 a131:=Tw.A Tryz.isAgg87
 z131:=Tw.Z Tryz.sizeOf87
 v131:=Tw.V Tryz.zeroValue87
 t182:=Tw.U Tryz.underlying212
 a182:=Tw.A Tryz.isAgg212
 z182:=Tw.Z Tryz.sizeOf212
 v182:=Tw.V Tryz.zeroValue212
 t183:=Tw.U Tryz.underlying213
 a183:=Tw.A Tryz.isAgg213
 z183:=Tw.Z Tryz.sizeOf213
 v183:=Tw.V Tryz.zeroValue213
 t218:=Tw.U Tryz.underlying234
 a218:=Tw.A Tryz.isAgg234
 z218:=Tw.Z Tryz.sizeOf234
 v218:=Tw.V Tryz.zeroValue234
 t222:=Tw.U Tryz.underlying238
 a222:=Tw.A Tryz.isAgg238
 z222:=Tw.Z Tryz.sizeOf238
 v222:=Tw.V Tryz.zeroValue238
 t228:=Tw.U Tryz.underlying242
 a228:=Tw.A Tryz.isAgg242
 z228:=Tw.Z Tryz.sizeOf242
 v228:=Tw.V Tryz.zeroValue242
 t229:=Tw.U Tryz.underlying62
 a229:=Tw.A Tryz.isAgg62
 z229:=Tw.Z Tryz.sizeOf62
 v229:=Tw.V Tryz.zeroValue62}
open Go.Sort Go.RowKit in
def Sh.slices_Sort_int(blk off cap:Nat)(zs:List Int)(w:Ψ)(hH:Holds (ξ κ) w blk off zs.toArray)(aiD:blk<w.heap.size)(aI:zs.length<4611686018427387904):
 ύ Tw.prog 101 #[ζ (φ ⟨blk,off,ν⟩) zs.length cap] w λe w'=>
  e=Ω (μ #[])/\∃n os,w'=grow (putRow (ξ κ) (Sort.ahead w n) blk off (zs.mergeSort λx y=>decide (x<=y)).toArray) os:=Any.slices_Sort_int Sh.VS blk off cap zs w hH aiD aI
def Sh.agV:Go.Shelf.Ren:=⟨λ|20=>102|n=>n,λ|22=>33|3=>3|4=>4|0=>0|n=>n,λ|n=>n⟩
def Sh.VT:Go.Proofs.Lays2.n20 Tw.prog Sh.agV:={
 mixed:=by kernel_rfl
 f20:=Tw.func102.trans (congrArg φ (by kernel_rfl))
 t0:=Tw.U Tryz.underlying0
 a0:=Tw.A Tryz.isAgg0
 z0:=Tw.Z Tryz.sizeOf0
 v0:=Tw.V Tryz.zeroValue0
 t3:=Tw.U Tryz.underlying3
 a3:=Tw.A Tryz.isAgg3
 z3:=Tw.Z Tryz.sizeOf3
 v3:=Tw.V Tryz.zeroValue3
 t4:=Tw.U Tryz.underlying4
 a4:=Tw.A Tryz.isAgg4
 z4:=Tw.Z Tryz.sizeOf4
 v4:=Tw.V Tryz.zeroValue4
 t22:=Tw.U Tryz.underlying33
 a22:=Tw.A Tryz.isAgg33
 z22:=Tw.Z Tryz.sizeOf33
 v22:=Tw.V Tryz.zeroValue33
 i3:=by kernel_rfl}
open Go.RowKit Go.Lib Go.Sort in
def Sh.slices_Compact_int(blk off cap:Nat)(zs:List Int)(w:Ψ)(hH:Holds (ξ κ) w blk off zs.toArray)(aI:zs.length<=9223372036854775807)(M6:zs.length<=cap):
 ύ Tw.prog 102 #[ζ (φ ⟨blk,off,ν⟩) zs.length cap] w λe w'=>e=Ω (ζ (φ ⟨blk,off,ν⟩) (Afm zs).length cap)/\∃q,w'=putRow (ξ κ) (Sort.ahead w q) blk off (Afm zs++List.replicate (zs.length - (Afm zs).length) 0).toArray:=Any.slices_Compact_int Sh.VT blk off cap zs w hH aI M6
open Go.RowKit Go.Lib Go.Sort in
def Sh.slices_Compact_int_empty(a:Option Addr)(cap:Nat)(w:Ψ):
 ύ Tw.prog 102 #[ζ a 0 cap] w λe w'=>e=Ω (ζ a 0 cap)/\w'=w:=Any.slices_Compact_int_empty Sh.VT a cap w
open Go.RowKit Go.Sort in
def Sh.slices_Sort_int_none(p:Option Addr)(cap:Nat)(w:Ψ):
 ύ Tw.prog 101 #[ζ p 0 cap] w λe w'=>e=Ω (μ #[])/\w'=w:=Any.slices_Sort_int_none Sh.VS p cap w
end Go.Proofs
namespace Go.Tw
variable [Go.Tw.aR]
open Go Go.Proofs Go.RowKit Go.Sort Go.Lib
def Zv{B:Nat}{w0 w:Ψ}{os:Array Obj}(h:Γ B w0 w)(hB:B<=w.heap.size):Γ B w0 (Sort.grow w os):=
 ⟨h.os,h.tape,h.output,by have:=h.size;simp[Sort.grow];omega,λk hk=>by rw[<-h.block k hk];exact heap_grow_old w os (by omega)⟩
def aju{w:Ψ}{base:Nat}{e:ό}{sz n:Nat}{v:υ}{xs:List υ}{os:Array Obj}(h:w.ownsRow base e sz v n xs):(Sort.grow w os).ownsRow base e sz v n xs:=by
 refine⟨h.1,?_⟩
 rcases h.2 with h0| ⟨g,cap,cur,h1,h2,h3,h4⟩
 ·exact .inl h0
 ·exact .inr ⟨g,cap,cur,h1,h2,(heap_grow_old w os (Ϟ.1 h3).1).trans h3,h4⟩
def ga(l:List Int):List Int:=l.mergeSort λx y=>decide (x<=y)
def PW{base n:Nat}{v:υ}{zs:List Int}{w:Ψ}(h:w.ownsRow base 3 1 v n (zs.map (ξ κ)))(hn:n<=100000)(hb:base<=w.heap.size):
 ύ prog 101 #[v] w λe w'=>e=Ω (μ #[])/\w'.ownsRow base 3 1 v n ((ga zs).map (ξ κ))/\Γ base w w':=by
 by_cases hv:v=ζ ν 0 0
 ·subst hv
  have h0:n=0/\zs=[]:=by
   rcases h.2 with⟨_,e⟩ | ⟨g,cap,cur,e,_⟩
   ·have:=h.1;simp at this;cases zs with
    |nil=>simp at this;exact⟨by omega,rfl⟩
    |cons=>simp_all
   ·cases e
  obtain⟨rfl,rfl⟩:=h0;refine(Sh.slices_Sort_int_none ν 0 w).mono ?_
  rintro e w' ⟨rfl,rfl⟩;exact⟨rfl,by simpa [ga] using h,Ϗ _ _⟩
 ·obtain⟨g,cap,rfl,jU,al,dX,kZ,hl,hH⟩:=holds_of_ownsRow h hv
  subst hl;refine(Sh.slices_Sort_int g 0 cap zs w hH al (by omega)).mono ?_
  rintro e w' ⟨rfl,q,os,rfl⟩;have hs:(ga zs).length=zs.length:=by simp[ga]
  refine⟨rfl,aju ?_,Zv (below_putRow (Ϗ _ _) jU) (by simp;exact hb)⟩
  have:=ownsRow_putRow (q:=q) (k:=zs.length) (ys:=ga zs) h hs (ϊ _);rwa[Agf (by omega)] at this
def aeE(zs:List Int):(Afm zs).length<=zs.length:=by
 unfold Afm compactUpTo;rw[List.length_map];exact Ϥ (Agd _ _) (by simp)
def Sz{base n:Nat}{v:υ}{zs:List Int}{w:Ψ}(h:w.ownsRow base 3 1 v n (zs.map (ξ κ)))(hn:n<=100000):
 ύ prog 102 #[v] w λe w'=>∃u,e=Ω u/\w'.ownsRow base 3 1 u (Afm zs).length ((Afm zs).map (ξ κ))/\Γ base w w':=by
 by_cases hv:v=ζ ν 0 0
 ·subst hv
  have h0:n=0/\zs=[]:=by
   rcases h.2 with⟨_,e⟩ | ⟨g,cap,cur,e,_⟩
   ·have:=h.1;simp at this;cases zs with
    |nil=>simp at this;exact⟨by omega,rfl⟩
    |cons=>simp_all
   ·cases e
  obtain⟨rfl,rfl⟩:=h0;refine(Sh.slices_Compact_int_empty ν 0 w).mono ?_
  rintro e w' ⟨rfl,rfl⟩;exact⟨_,rfl,h,Ϗ _ _⟩
 ·obtain⟨g,cap,rfl,jU,al,dX,kZ,hl,hH⟩:=holds_of_ownsRow h hv
  subst hl;refine(Sh.slices_Compact_int g 0 cap zs w hH (by omega) dX).mono ?_
  rintro e w' ⟨rfl,q,rfl⟩;have hk:(Afm zs).length<=zs.length:=aeE zs;refine⟨_,rfl,?_,below_putRow (Ϗ _ _) jU⟩
  have:=ownsRow_putRow (q:=q) (k:=(Afm zs).length) (ys:=Afm zs++List.replicate (zs.length - (Afm zs).length) 0) h (by simp;omega) hk
  simpa using this
end Go.Tw
namespace Go.Tw
variable [Go.Tw.aR]
open Go Go.Proofs Go.RowKit
def jG(l:List Cut):List Int:=Afm (ga (l.map (·.bp)))
def ei{w:Ψ}{base:Nat}{e:ό}{sz n:Nat}{v:υ}{xs:List υ}(h:w.ownsRow base e sz v n xs)(k:Nat)(hk:v.ownBlock=φ k):base<=k:=by
 rcases h.2 with⟨rfl,_⟩ | ⟨g,cap,cur,rfl,jU,_⟩
 ·simp[Value.ownBlock] at hk
 ·simp[Value.ownBlock] at hk;omega
def Oo:(prog.info? 3).map (λi=>(i.zero,i.size,i.bytes))=φ (φ (ξ κ 0),1,8):=by
 rw[pB];kernel_rfl
def taken{l:List Cut}{v:υ}{w:Ψ}{B:Nat}(hv:Row w B 2 Cut.R v l)(hB:B<=w.heap.size)(xv:l.length<=1000):
 ύ prog 235 #[v] w λe w'=>∃u,e=Ω u/\w'.ownsRow w.heap.size 3 1 u (jG l).length ((jG l).map (ξ κ))/\Γ w.heap.size w w':=by
 obtain⟨i0,cR,cT,aN,ba⟩:=info_parts Oo;obtain⟨A,n,c,rfl,hl,dX,cX,hr⟩:=hv.Φ;have hn:n<=1000:=by omega
 unfold ϗ at cX;have nh:=ψ hl;have H2:=ψ hr;have HI:=ψ (ϐ cR (ϐ cT (ϐ aN ba)));clear hl hr hv xv cR cT aN ba;go_enter func235,Tryz.ntmps235;go_wp2;go_loopw [3,5,8] (λo u k wr=>∃i:Nat,i<=n/\k=ξ κ i/\wr.ownsRow w.heap.size 3 1 o i ((l.take i).map λc=>ξ κ c.bp)/\Γ w.heap.size w wr) (λ_ _ k _=>n - (ϙ k).toNat)
 case atStart=>exact⟨0,ϡ _,rfl,⟨by simp,.inl ⟨rfl,rfl⟩⟩,Ϗ _ _⟩
 case round=>
  obtain⟨i,hi,rfl,aG,hb⟩:=hrel;have HO:=ψ aG;have HB:=ψ hb;have aI:=hb.size;by_cases al:i<n
  ·obtain⟨ad,x,cs,rfl,aC,hx,rfl,-,au⟩:=H2.e i al
   have st:Δ B w wr:=Δ.aK hb hB;have h0:=cC au st aC rfl;have h1:=bK au st aC 0 rfl;have HX:=ψ hx;clear hb hx au st aG;go_wp2_with (first
    | (at_builtin
       refine wpList_append_own _ rfl (.tmp 12) (.tmp 15) 33 rfl w.heap.size 3 i0 (ξ κ 0) 1 8 (U Tryz.underlying33) HI.e.1 HI.e.2.1 HI.e.2.2.1 HI.e.2.2.2 rfl (by decide) _ i _ rfl ((HO.e.alloc _).alloc _) ⟨wr.heap.size+1,0,ν⟩ 1 1 [ξ κ x.bp] rfl rfl ?c1 ?c2 ?c3 ?c4 ?c5 ?_
       case c1=>(intro j u hu;match j,hu with|0,hu=>(simp at hu;subst hu;simp[go_sem,Addr.add]))
       case c2=>simp[Value.oneCell']
       case c3=>(simp only[ϗ];omega)
       case c4=>omega
       case c5=>(simp;omega)
       intro v' w1 cK dT _;have gW:=ψ cK;have gV:=ψ dT;clear cK dT))
   go_roundw;case rel=>exact⟨i+1,by omega,by go_num,by rw[oJ HX.e,List.map_append];exact gW.e,
    ((HB.e.trans ((Ϗ _ _).alloc aI _)).trans ((Ϗ _ _).alloc (by simp;omega) _)).grown gV.e (by simp;omega) (λk hk=>ei HO.e k hk)⟩
   case measure=>simp[ϙ];omega
  ·obtain rfl:i=n:=by omega
   have vq:((l.take i).map λc=>ξ κ c.bp)=(l.map (·.bp)).map (ξ κ):=by
    rw[Agf (Agw nh.e),List.map_map];rfl
   have rf:Hid (wr.ownsRow w.heap.size 3 1 u3 i ((l.map (·.bp)).map (ξ κ))):=ψ (vq▸HO.e)
   clear hb aG vq HO;go_wp2_with (first
    | (go_at_call 101;refine(PW rf.e (by omega) aI).mono ?_;rintro e w1 ⟨rfl,cK,ae⟩;have uC:=ψ cK;have fw:=ψ ae;clear cK ae)
    | (go_at_call 102;refine(Sz uC.e (by omega)).mono ?_;rintro e w2 ⟨u,rfl,vX,ak⟩;have wQ:=ψ vX;have jK:=ψ ak;clear vX ak))
   go_ret;exact⟨_,rfl,wQ.e,HB.e.trans (fw.e.trans jK.e)⟩
def nothing{s:Int}{A1 A2 A3:Option Addr}{n1 c1 n2 c2 n3 c3:Nat}(w:Ψ):
 ύ prog 107 #[η #[ξ κ s,ζ A1 n1 c1,ζ A2 n2 c2,ζ A3 n3 c3]] w λe w'=>e=Ω (ξ κ 0)/\Γ w.heap.size w w':=by
 go_enter func107,Tryz.ntmps107;go_wp2;go_ret;exact⟨aX rfl,(Ϗ _ _).alloc (ϊ _) _⟩
end Go.Tw
namespace Go.Tw
variable [Go.Tw.aR]
open Go Go.Proofs Go.RowKit
def ze(f:FuncId):Afk.fn f=True:=rfl
def K0:Afk.depth=ν:=rfl
attribute [local go_sem] ze K0 Oper.semAt_some
def an.set(L:an)(i:Nat)(k:Int):an:=if i=0 then {L with a:=k} else if i=1 then {L with b:=k} else {L with c:=k}
def mR(x:Span):List Int:=(ϸ (x.hi - x.lo+1).toNat).map λ(j:Nat)=>x.lo+j
def eu(b:ao):Nat->Nat->an->List an
 |0,_,n=>if Pw n b.aJ then [n] else []
 |f+1,i,n=>match b.pieces[i]? with
  |some p=>(mR p.len).flatMap λk=>eu b f (i+1) (n.set i k)
  |none=> []
def aD(b:ao):List an:=eu b b.pieces.length 0 ⟨0,0,0⟩
def an.vs(L:an):List υ:=[ξ κ L.a,ξ κ L.b,ξ κ L.c]
structure AI(w:Ψ)(b:ao)(pv bv tv:υ)(rec:Loop)(n:an)(out:List an)(W:Ψ):Prop where
 p:Bk W (w.heap.size+4) 117 #[ξ κ b.ag,pv,bv,tv]
 y:Bk W (w.heap.size+5) 182 #[.func (.yield (w.heap.size+3)) #[] #[]]
 n:Bk W (w.heap.size+6) 128 n.cs
 x:Bk W (w.heap.size+7) 158 #[.func (.func 188) #[] #[π (φ ⟨w.heap.size+4,0,ν⟩),π (φ ⟨w.heap.size+6,0,ν⟩),π (φ ⟨w.heap.size+5,0,ν⟩),π (φ ⟨w.heap.size+7,0,ν⟩)]]
 o:∃v,Bk W (w.heap.size+1) 115 #[v]/\W.ownsRow (w.heap.size+8) 128 3 v out.length (out.flatMap an.vs)
 d:W.heap[w.heap.size+2]?=φ (.deferred (φ []))
 l:W.heap[w.heap.size+3]?=φ (.loop rec)
 below:Γ w.heap.size w W
def qO{B:Nat}{w w':Ψ}{base:Nat}{e:ό}{sz n:Nat}{v:υ}{xs:List υ}(h:w.ownsRow base e sz v n xs)(hb:Γ B w w')(hB:w.heap.size<=B):w'.ownsRow base e sz v n xs:=by
 refine⟨h.1,?_⟩
 rcases h.2 with h0| ⟨g,cap,cur,h1,h2,h3,h4⟩
 ·exact .inl h0
 ·exact .inr ⟨g,cap,cur,h1,h2,(hb.block g (Ϡ (Ϟ.1 h3).1 hB)).trans h3,h4⟩
def AI.later{w:Ψ}{b:ao}{pv bv tv:υ}{rec:Loop}{n:an}{out:List an}{W W':Ψ}(h:AI w b pv bv tv rec n out W)(hb:Γ W.heap.size W W'):AI w b pv bv tv rec n out W':=by
 have h1:=h.x.lt;refine⟨h.p.below hb (by omega),h.y.below hb (by omega),h.n.below hb (by omega),h.x.below hb (by omega),?_,(hb.block _ (by omega)).trans h.d,(hb.block _ (by omega)).trans h.l,h.below.trans (hb.mono (by omega))⟩
 obtain⟨v,v1,v2⟩:=h.o;exact⟨v,v1.below hb (by omega),qO v2 hb (ϊ _)⟩
def Lg(w:Ψ)(b:ao)(pv bv tv:υ)(rec:Loop):Prop:=∀(m:Nat) (n:an) (out:List an) (W:Ψ),out.length<1000->AI w b pv bv tv rec n out W->
 YieldAt Afk m prog (w.heap.size+3) #[.agg n.cs] W λe W'=>e=Ω (.bool θ)/\AI w b pv bv tv rec n (out++ [n]) W'
def aiW{w:Ψ}{b:ao}{pv bv tv:υ}{rec:Loop}{B:Nat}(hB:B<=w.heap.size)(ai:bg w B b pv bv tv)(dh:zz b)(hY:Lg w b pv bv tv rec){n:an}(hL:n.Ok){out:List an}{W:Ψ}
 (h:AI w b pv bv tv rec n out W)(hK:out.length+(eu b 0 b.pieces.length n).length<=1000)(m:Nat):
 CallsIn Afk m prog 188 #[ξ κ b.pieces.length,π (φ ⟨w.heap.size+4,0,ν⟩),π (φ ⟨w.heap.size+6,0,ν⟩),π (φ ⟨w.heap.size+5,0,ν⟩),π (φ ⟨w.heap.size+7,0,ν⟩)] W
  λe W'=>e=Ω (.bool θ)/\AI w b pv bv tv rec n (out++eu b 0 b.pieces.length n) W':=by
 have HK:=ψ hK;clear hK;have HY:=ψ hY;have HI:=ψ h;have Yv:b.pieces.length<=9223372036854775807:=by
  obtain⟨A1,n1,c1,rfl,e1,h1,eA,-⟩:=ai.pieces.Φ;unfold ϗ at eA;omega
 obtain⟨A1,n1,c1,rfl,e1,h1,eA,-⟩:=ai.pieces.Φ;have p0:=h.p.cell 0;have p1:=h.p.cell 1;have p2:=h.p.cell 2;have p3:=h.p.cell 3;have y0:=h.y.cell 0;have n0: W.cell? ⟨w.heap.size+6,0,ν⟩=φ (ξ κ n.a):=h.n.cell 0;have n1': W.cell? ⟨w.heap.size+6,1,ν⟩=φ (ξ κ n.b):=h.n.cell 1;have n2: W.cell? ⟨w.heap.size+6,2,ν⟩=φ (ξ κ n.c):=h.n.cell 2;have call:=right (w:=W) (B:=B) (L:=n) (ai.still (Δ.aK h.below hB)) (by have:=h.below.size;omega) dh hL
 have aB:=ψ call;clear hY h ai call;rw[e1] at Yv |-
 have E1:=ψ e1;clear e1;unfold ϗ at eA;cases NZ:Pw n b.aJ with
 |false=>
  refine callsIn_of_wp func188 rfl trivial ?_
  simp only[Tryz.ntmps188,Agn,Af5,Ago,Ag0,Ag1,Aeq,Aer,Agp,Agq,Agr,Ags]
  gi_wp2_with (first
   | (gi_at_call 189;refine(callsIn_wide.2 aB.e).mono ?_;rintro e w1 ⟨rfl,ae⟩))
  go_ret;exact⟨b9 rfl,by simpa [eu,NZ] using HI.e.later (ae.mono (ϊ _))⟩
 |true=>
  refine callsIn_of_wp func188 rfl trivial ?_
  simp only[Tryz.ntmps188,Agn,Af5,Ago,Ag0,Ag1,Aeq,Aer,Agp,Agq,Agr,Ags]
  gi_wp2_with (first
   | (gi_at_call 189;refine(callsIn_wide.2 aB.e).mono ?_;rintro e w1 ⟨rfl,ae⟩
      have MX:=ψ (HI.e.later ae);obtain⟨f1,t1,a1,b1,jA,oq⟩:=HY.e (m - 1) n out w1 (by have:=HK.e;simp[eu,NZ] at this;omega) MX.e
      have Lw:=ψ oq;have n0: w1.cell? ⟨w.heap.size+6,0,ν⟩=φ (ξ κ n.a):=MX.e.n.cell 0;have n1': w1.cell? ⟨w.heap.size+6,1,ν⟩=φ (ξ κ n.b):=MX.e.n.cell 1;have n2: w1.cell? ⟨w.heap.size+6,2,ν⟩=φ (ξ κ n.c):=MX.e.n.cell 2;have y0: w1.cell? ⟨w.heap.size+5,0,ν⟩=φ (.func (.yield (w.heap.size+3)) #[] #[]):=MX.e.y.cell 0;have hyy:Sem.run prog (Instr.yield (w.heap.size+3) #[η #[ξ κ n.a,ξ κ n.b,ξ κ n.c]]) w1=.ok (.round (w.heap.size+3) f1 t1 a1 b1) w1:=jA;clear jA oq))
  refine Lw.e.mono ?_
  rintro e W' ⟨rfl,h2⟩;have H2:=ψ h2;clear h2
  gi_wp2
  go_ret;exact⟨b9 rfl,by simpa [eu,NZ] using H2.e⟩
def R7{b:ao}{f i:Nat}{n:an}{p:Piece}(h:b.pieces[i]?=φ p):eu b (f+1) i n=(mR p.len).flatMap λk=>eu b f (i+1) (n.set i k):=by
 conv=>lhs;unfold eu
 rw[h]
def acL{α β:Type}{f:α->List β}{l:List α}{j:Nat}{x:α}(h:l[j]?=φ x):((l.take j).flatMap f).length+(f x).length<=(l.flatMap f).length:=by
 have e:l=l.take j++x::l.drop (j+1):=by
  obtain⟨hj,rfl⟩:=ϱ.1 h
  rw[List.getElem_cons_drop,List.take_append_drop]
 conv=>rhs;rw[e]
 simp only[Agt,List.flatMap_cons,Af6];omega
def xk(i f:Nat)(n m:an):Prop:=∀q,q<3->(q<i\/i+f<=q)->n.at q=m.at q
def an.acv{n m:an}(h:∀q,q<3->n.at q=m.at q):n=m:=by
 have h0:=h 0 (by omega)
 have h1:=h 1 (by omega)
 have h2:=h 2 (by omega)
 cases n;cases m
 simp[an.at] at h0 h1 h2;simp[h0,h1,h2]
def an.at_set{n:an}{i q:Nat}{k:Int}(hi:i<3)(hq:q<3):(n.set i k).at q=if q=i then k else n.at q:=by
 match i,hi,q,hq with
 |0,_,0,_=>simp[an.set,an.at]
 |0,_,1,_=>simp[an.set,an.at]
 |0,_,2,_=>simp[an.set,an.at]
 |1,_,0,_=>simp[an.set,an.at]
 |1,_,1,_=>simp[an.set,an.at]
 |1,_,2,_=>simp[an.set,an.at]
 |2,_,0,_=>simp[an.set,an.at]
 |2,_,1,_=>simp[an.set,an.at]
 |2,_,2,_=>simp[an.set,an.at]
def an.Zq{n:an}{q:Nat}(hq:2<=q):n.at q=n.c:=by unfold an.at;rw[if_neg (by omega),if_neg (by omega)]
def an.Ok.set{n:an}(h:n.Ok){i:Nat}{k:Int}(hi:i<3)(h0:0<=k)(h1:k<=1000):(n.set i k).Ok:=by
 intro q;by_cases hq:q<3
 ·rw[an.at_set hi hq];split
  ·exact⟨h0,h1⟩
  ·exact h q
 ·rw[an.Zq (by omega)]
  have:(n.set i k).c=(n.set i k).at 2:=rfl;rw[this,an.at_set hi (by omega)];split
  ·exact⟨h0,h1⟩
  ·exact h 2
def an.aa5{n:an}{i:Nat}{k:Int}(hi:i<3):n.cs.setIfInBounds i (ξ κ k)=(n.set i k).cs:=by
 match i,hi with
 |0,_=>rfl
 |1,_=>rfl
 |2,_=>rfl
def an.uR{n:an}{i:Nat}(hi:i<3):n.cs[i]?=φ (ξ κ (n.at i)):=by
 match i,hi with
 |0,_=>rfl
 |1,_=>rfl
 |2,_=>rfl
def RV{b:ao}:∀(f i:Nat) (n m:an),i+f<=3->xk i f n m->eu b f i n=eu b f i m
 |0,i,n,m,hi,h=>by
  have:n=m:=an.acv λq hq=>h q hq (by omega)
  rw[this]
 |f+1,i,n,m,hi,h=>by
  unfold eu;cases b.pieces[i]? with
  |none=>rfl
  |some p=>
   simp only;congr 1;funext k;refine RV f (i+1) _ _ (by omega) λq hq pe=>?_
   rw[an.at_set (by omega) hq,an.at_set (by omega) hq]
   split
   ·rfl
   ·exact h q hq (by omega)
def AI.aln{w:Ψ}{b:ao}{pv bv tv:υ}{rec:Loop}{n:an}{out:List an}{W:Ψ}(h:AI w b pv bv tv rec n out W){i:Nat}(hi:i<3)(k:Int):AI w b pv bv tv rec (n.set i k) out (W.setCell ⟨w.heap.size+6,i,ν⟩ (ξ κ k)):=by
 have h1:=h.x.lt;refine⟨h.p.cu (by simp) _,h.y.cu (by simp) _,by rw[<-an.aa5 hi];exact h.n.set i _,h.x.cu (by simp) _,?_,(Afu _ _ _ _ (by simp)).trans h.d,(Afu _ _ _ _ (by simp)).trans h.l,h.below.setCell (by simp) _⟩
 obtain⟨v,v1,v2⟩:=h.o;refine⟨v,v1.cu (by simp) _,v2.1,?_⟩
 rcases v2.2 with h0| ⟨g,cap,cur,h1,h2,h3,h4⟩
 ·exact .inl h0
 ·exact .inr ⟨g,cap,cur,h1,h2,(Afu _ _ _ _ (by simp;omega)).trans h3,h4⟩
def PZ(x:Span):(mR x).length=(x.hi - x.lo+1).toNat:=by simp[mR]
def Xq{x:Span}{j:Nat}(h:x.lo+j<=x.hi):(mR x)[j]?=φ (x.lo+j):=by
 unfold mR;rw[List.getElem?_map,List.getElem?_range (by omega)]
 rfl
def aiX{w:Ψ}{b:ao}{pv bv tv:υ}{rec:Loop}{B:Nat}(hB:B<=w.heap.size)(ai:bg w B b pv bv tv)(nI:∀p∈b.pieces,0<=p.len.lo/\p.len.hi<=1000){f i:Nat}(eK:i+(f+1)=b.pieces.length)(h3:b.pieces.length<=3)
 (ih:∀(n:an) (out:List an) (W:Ψ) (m:Nat),n.Ok->out.length+(eu b f (i+1) n).length<=1000->AI w b pv bv tv rec n out W->
   CallsIn Afk m prog 188 #[ξ κ (i+1:Int),π (φ ⟨w.heap.size+4,0,ν⟩),π (φ ⟨w.heap.size+6,0,ν⟩),π (φ ⟨w.heap.size+5,0,ν⟩),π (φ ⟨w.heap.size+7,0,ν⟩)] W
    λe W'=>e=Ω (.bool θ)/\∃n',n'.Ok/\xk (i+1) f n' n/\AI w b pv bv tv rec n' (out++eu b f (i+1) n) W')
 {n:an}(hL:n.Ok){out:List an}(hK:out.length+(eu b (f+1) i n).length<=1000){W:Ψ}(h:AI w b pv bv tv rec n out W)(m:Nat):
 CallsIn Afk m prog 188 #[ξ κ i,π (φ ⟨w.heap.size+4,0,ν⟩),π (φ ⟨w.heap.size+6,0,ν⟩),π (φ ⟨w.heap.size+5,0,ν⟩),π (φ ⟨w.heap.size+7,0,ν⟩)] W
  λe W'=>e=Ω (.bool θ)/\∃n',n'.Ok/\xk i (f+1) n' n/\AI w b pv bv tv rec n' (out++eu b (f+1) i n) W':=by
 have HI:=ψ h;have HK:=ψ hK;clear hK;obtain⟨A1,n1,c1,rfl,e1,hn,hc,hr⟩:=ai.pieces.Φ;have fZ:i<3:=by omega
 have dL:i<n1:=by omega
 obtain⟨ad,p,cs,rfl,aC,hp,⟨rfl,dH⟩,-,au⟩:=hr i dL;have DW:=nI p (ϩ hp);have aoH:0<=p.len.lo:=DW.1;have aoI:p.len.hi<=1000:=DW.2;have st:Δ B w W:=Δ.aK h.below hB;have q1: W.cell? ⟨(ad.add (i * 4)).block,(ad.add (i * 4)).off+1,ν⟩=φ (ξ κ p.len.lo):=bK au st aC 0 rfl;have q2: W.cell? ⟨(ad.add (i * 4)).block,(ad.add (i * 4)).off+2,ν⟩=φ (ξ κ p.len.hi):=bK au st aC 1 rfl;have HC:=ψ au;have HAD:(ad.add (i * 4)).block<w.heap.size:=by rw[cq];omega
 have p1: W.cell? ⟨w.heap.size+4,1,ν⟩=φ (ζ (φ ad) n1 c1):=h.p.cell 1;have qy:((i:Int)==(n1:Int))=χ:=by simp;omega
 have HE:=ψ e1;have HP:=ψ hp;have YE:=ψ eK;have YF:=ψ ih;unfold ϗ at hc;clear ai h hr nI hp au st dH ih e1 eK DW;refine callsIn_of_wp func188 rfl trivial ?_
 simp only[Tryz.ntmps188,Agn,Af5,Ago,Ag0,Ag1,Aeq,Aer,Agp,Agq,Agr,Ags]
 gi_wp2
 gi_loopw [7] (λk wr=>∃(j:Nat) (n':an),j<=(mR p.len).length/\k=ξ κ (p.len.lo+j)/\n'.Ok/\xk i (f+1) n' n/\Hid (AI w b (ζ (φ ad) n1 c1) bv tv rec n' (out++((mR p.len).take j).flatMap λk=>eu b f (i+1) (n.set i k)) wr)) (λk _=>(p.len.hi+1 - ϙ k).toNat)
 case atStart=>exact⟨0,n,ϡ _,by simp,hL,λ_ _ _=>rfl,by simpa using HI⟩
 case round=>
  obtain⟨j,n',hj,rfl,TP,Ad,hI⟩:=hrel;have st:Δ B w wr:=Δ.aK hI.e.below hB;have q1: wr.cell? ⟨(ad.add (i * 4)).block,(ad.add (i * 4)).off+1,ν⟩=φ (ξ κ p.len.lo):=bK HC.e st aC 0 rfl;have q2: wr.cell? ⟨(ad.add (i * 4)).block,(ad.add (i * 4)).off+2,ν⟩=φ (ξ κ p.len.hi):=bK HC.e st aC 1 rfl;have p1: wr.cell? ⟨w.heap.size+4,1,ν⟩=φ (ζ (φ ad) n1 c1):=hI.e.p.cell 1;have Ks:=ψ Ad;have HJ:Hid (j<=(mR p.len).length):=ψ hj;clear st Ad hj;by_cases al:p.len.lo+j<=p.len.hi
  ·have g6: wr.cell? ⟨w.heap.size+6,i,ν⟩=φ (ξ κ (n'.at i)):=(hI.e.n.cell i).trans (an.uR fZ)
   have z6: wr.frozen? ⟨w.heap.size+6,i,ν⟩=χ:=hI.e.n.frozen i;have x7: wr.cell? ⟨w.heap.size+7,0,ν⟩=φ (.func (.func 188) #[] #[π (φ ⟨w.heap.size+4,0,ν⟩),π (φ ⟨w.heap.size+6,0,ν⟩),π (φ ⟨w.heap.size+5,0,ν⟩),π (φ ⟨w.heap.size+7,0,ν⟩)]):=hI.e.x.cell 0;have HS:=ψ (hI.e.aln fZ (p.len.lo+j));have ik:eu b f (i+1) (n'.set i (p.len.lo+j))=eu b f (i+1) (n.set i (p.len.lo+j)):=by
    refine RV _ _ _ _ (by have:=YE.e;omega) λq hq pe=>?_
    rw[an.at_set fZ hq,an.at_set fZ hq];split
    ·rfl
    ·exact Ks.e q hq (by omega)
   have Rc:=ψ ik;clear ik;have Uc:(out++((mR p.len).take j).flatMap λk=>eu b f (i+1) (n.set i k)).length+(eu b f (i+1) (n'.set i (p.len.lo+j))).length<=1000:=by
    have h1:=HK.e;rw[R7 HP.e] at h1;have h2:=acL (f:=λk=>eu b f (i+1) (n.set i k)) (Xq al)
    rw[Rc.e,Af6];omega
   have aB:=ψ (λm=>YF.e _ _ _ m (TP.set fZ (k:=p.len.lo+j) (by omega) (by omega)) Uc HS.e)
   clear Uc
   gi_wp2_with (first
    | (gi_at_call 188;refine(aB.e _).mono ?_;rintro e w1 ⟨rfl,n2,nB,G5,xz⟩;have KC:=ψ xz;have Yw:=ψ G5;clear xz G5))
   have hlen:j<(mR p.len).length:=by rw[PZ];omega
   have hj1:(mR p.len)[j]?=φ (p.len.lo+j):=Xq al;refine⟨⟨j+1,n2,hlen,by go_num,nB,λq hq pe=>?_,?_⟩,by simp[ϙ];omega⟩
   ·rw[Yw.e q hq (by omega),an.at_set fZ hq]
    split
    ·omega
    ·exact Ks.e q hq (by omega)
   ·rw[oJ hj1,Agt,List.flatMap_singleton,<-List.append_assoc]
    rw[<-Rc.e];exact KC
  ·gi_wp2
   go_ret;refine⟨b9 rfl,n',TP,Ks.e,?_⟩
   rw[R7 HP.e];have:=hI.e;rwa[Agf (by rw[PZ];omega)] at this
def Wg{w:Ψ}{b:ao}{pv bv tv:υ}{rec:Loop}{B:Nat}(hB:B<=w.heap.size)(ai:bg w B b pv bv tv)(dh:zz b)(nI:∀p∈b.pieces,0<=p.len.lo/\p.len.hi<=1000)(h3:b.pieces.length<=3)(hY:Lg w b pv bv tv rec):
 ∀(f i:Nat) (n:an) (out:List an) (W:Ψ) (m:Nat),i+f=b.pieces.length->n.Ok->out.length+(eu b f i n).length<=1000->AI w b pv bv tv rec n out W->
  CallsIn Afk m prog 188 #[ξ κ i,π (φ ⟨w.heap.size+4,0,ν⟩),π (φ ⟨w.heap.size+6,0,ν⟩),π (φ ⟨w.heap.size+5,0,ν⟩),π (φ ⟨w.heap.size+7,0,ν⟩)] W
    λe W'=>e=Ω (.bool θ)/\∃n',n'.Ok/\xk i f n' n/\AI w b pv bv tv rec n' (out++eu b f i n) W'
 |0,i,n,out,W,m,hi,hL,hK,h=>by
  obtain rfl:i=b.pieces.length:=by omega
  exact(aiW hB ai dh hY hL h hK m).mono λe W' ⟨h1,h2⟩=>⟨h1,n,hL,λ_ _ _=>rfl,h2⟩
 |f+1,i,n,out,W,m,hi,hL,hK,h=>
  aiX hB ai nI hi h3 (λn out W m hL hK h=>Wg hB ai dh nI h3 hY f (i+1) n out W m (by omega) hL hK h) hL hK h m
end Go.Tw
end
