import Derived.Test.YtfifdjajcogccaaGreatDoorZ00
import Derived.Conc.CrowdComm
import Derived.Test.YtfifdjajcogccaaGreatDoorProg
import Derived.Deep.RegionHeld3
import Derived.Deep.AppendLies
import Derived.Lib.Hide
import Derived.WalkSpells
import Derived.StillTailTactics
import Derived.Shelf.Small.Bits
import Derived.Shelf.Small.Wraps
import Derived.Shelf.Sort.Plain
import Derived.Shelf.Slices.Clone
import Derived.Shelf.Slices.SearchI
import Derived.Shelf.Slices.Cells
import Derived.Shelf.Slices.In.SortNone
import Derived.Shelf.SlicesE.Clone
import Derived.Lib.OwnBridge
set_option linter.all false
set_option maxHeartbeats 0
set_option maxRecDepth 100000
open And renaming intro -> Ϗ
open Array renaming getElem?_append_right -> Aek, getElem?_eq_some_iff -> Ϝ, getElem?_eq_getElem -> ā, getElem?_setIfInBounds_ne -> Ě, getElem?_map -> Ē, getElem?_eq_none -> ę, size_setIfInBounds -> Ĕ, empty_append -> Aem, append_empty -> ç, size_push -> Ÿ, getElem?_setIfInBounds -> Ü, getElem?_mapIdx -> Aeo, ext_getElem? -> ţ
open Bool renaming and_eq_true -> Ä
open Classical renaming byContradiction -> ä
open Go renaming Goroutine -> ϐ, Trace -> ε, Program -> ϗ, stepG -> ϙ, partners -> Ġ, TypeId -> ώ, wpAnyH -> Ć, NoPanic -> Ť, yielded -> À, maxLen -> ϕ, Calls -> ύ
open Go.AllReadyH renaming cons -> Aex, nil -> Aey
open Go.Conc renaming touchAt -> Ý, touch_of -> ĕ, getElem?_append_cases -> Ă, touchAt_of -> ġ, scase -> ć, served -> ϩ, QuitsIn -> ĩ, rcase -> é, recvd -> ý, parked -> Ú, woken -> Ĉ, getElem?_append_old -> Afa, lt_size_of_getElem? -> Afb, offersAt -> ť, offersAt_of_not_blocked -> Ģ, offersAt_parked_recv -> Afe, offersAt_parked_send' -> Aff, offersAt_parked_recv' -> Afg, offersAt_parked_send -> Ź, getElem?_stand -> Ŋ, offersAt_ph -> ŋ, partners_nil -> Afk, crowd -> ϫ, crowd_waits -> Afm, stepG_same -> Afn
open Go.Instr renaming index -> ģ
open Go.IntKind renaming i64 -> Ϛ
open Go.Lib renaming compact -> Ī
open Go.MemAct renaming ofEvent -> ğ, touch? -> Ō
open Go.MemOp renaming ofEvents -> Į
open Go.Obj renaming cells -> Ϧ
open Go.Proofs.Tryz renaming prog -> ϋ
open Go.Region renaming ready -> ϯ, noSelect -> Afv, wanted -> ϸ
open Go.RowKit renaming intOf -> ϭ
open Go.RowKit.Below renaming refl -> ό
open Go.Sem renaming run_bind -> Afz, run_pure -> Af0
open Go.Trace renaming g? -> Û
open Go.Value renaming int -> Ϟ
open Go.World renaming cell?_alloc_lt -> ð, cell?_alloc_mark -> Ļ
open List renaming mem_toArray -> ê, mem_singleton -> Ô, mem_cons -> Ϡ, not_mem_nil -> Á, length_singleton -> ź, mem_append -> ĉ, range -> ϣ, getElem?_eq_getElem -> Ñ, getElem?_eq_some_iff -> Ϫ, findIdx?_eq_some_iff_getElem -> Age, findIdx?_eq_none_iff -> Agf, length_filter_le -> Agg, length_take_le -> ō, take_of_length_le -> Õ, mem_of_getElem? -> ϡ, drop_of_length_le -> Agk, take_succ_cons -> ñ, take_zero -> þ, drop_succ_cons -> õ, drop_zero -> ö
open Nat renaming lt_of_lt_of_le -> Ϣ, le_refl -> ϊ, le_trans -> Ϥ, zero_le -> ϛ, lt_succ_iff_lt_or_eq -> Ϯ, le_of_eq -> ò, mul_one -> Ì, lt_of_le_of_lt -> Agt, le_of_lt -> ÿ
open Ne renaming symm -> Θ
open Option renaming map_some -> ó, map_eq_some_iff -> ď
open Option.some renaming inj -> ϟ
open Bool renaming true -> D, false -> U
open Go renaming Value -> z, undef -> L, World -> N
open Go.Ending renaming returned -> Ω
open Go.IntKind renaming i64 -> I
open Go.Lib renaming hid -> K
open Go.RowKit renaming Below -> Γ, Below -> Γ
open Go.Value renaming slice -> E, pointer -> π, tuple -> μ, agg -> η, int -> Y
open Option renaming some -> J, none -> H
variable{α:Type}{lb:Array z}{main:Bool}{nm FX:ByteArray}{p ad:Go.Addr}{fn:Go.Func}{x y:Go.Goroutine}{x1 x2 x3 x4:Go.MemOp}{o:Go.Obj}{P:Go.Program}{M:Go.Sim.ay}{u:Go.Trace}{t:Go.TypeId}{a s lo hi:Int}{l zs:List Int}{aD:List Nat}{xs:List z}{B i k f n ψ b c r g m c' cap Ψ:Nat}{w aR w' w1 wr v0 W:N}{v pv bv tv υ lv z' sv:z}
noncomputable section
namespace Go.Sim
open Go Go.Conc
def sC(l:Loc)(b:Nat):Prop:=l=.obj b\/∃c:Addr,l=.cell c/\c.block=b
structure mB where
 M:ay
 g:ϐ
 w:N
structure WT(cL cN:Nat)(w:N)(t:ε)(act:Nat->Option mB):Prop where
 keep:∀g j,act g=J j->bR j.M j.w w
 nD:∀g g' j j',g≠g'->act g=J j->act g'=J j'->∀b,j.M.O b->¬j'.M.has b
 low:∀g j,act g=J j->∀b,j.M.has b->b<w.heap.size/\b≠cL/\b≠cN
 tl:∀op∈t,op.act.low w.heap.size
 nd:qf t
 clean:∀said,¬Race said t
 perm:∀g j,act g=J j->∀k a,Ý t k=J a->∀b,sC a.loc b->(j.M.O b\/(j.M.R b/\a.write=D))->Knows t g k
 hL:cL<w.heap.size
 hN:cN<w.heap.size
def ft(act:Nat->Option mB)(g:Nat)(x:Option mB):Nat->Option mB:=λi=>if i=g then x else act i
def fY(act:Nat->Option mB)(g:Nat)(x:Option mB):ft act g x g=x:=by simp[ft]
def ak(act:Nat->Option mB)(x:Option mB)(h:i≠g):ft act g x i=act i:=by simp[ft,h]
def QQ{e:Event}(h:yP M e){x:Touch}(hx:(ğ e).touch? =J x):∃b,sC x.loc b/\M.has b/\(x.write=D->M.O b)/\x.kind=.plain:=by
 obtain⟨loc,wr,sy⟩:=e;rcases h with⟨b,e1,e2,e3,e4⟩ |e1| ⟨f,e1⟩
 ·simp only at e1 e2 e4;subst e2;rcases e1 with e1| ⟨c,e1,e5⟩
  ·subst e1;cases wr<;>(simp[ğ,Ō] at hx;subst hx)
   ·exact⟨b,.inl rfl,e3,by simp,rfl⟩
   ·exact⟨b,.inl rfl,e3,λ_=>e4 rfl,rfl⟩
  ·subst e1;cases wr<;>(simp[ğ,Ō] at hx;subst hx)
   ·exact⟨b,.inr ⟨c,rfl,e5⟩,e3,by simp,rfl⟩
   ·exact⟨b,.inr ⟨c,rfl,e5⟩,e3,λ_=>e4 rfl,rfl⟩
 ·simp only at e1;subst e1;cases wr<;>cases sy<;>simp[ğ,Ō] at hx
 ·simp only at e1;subst e1;cases wr<;>cases sy<;>simp[ğ,Ō] at hx
def PE{l:Loc}{b':Nat}(h:sC l b)(k:sC l b'):b=b':=by
 rcases h with h| ⟨c,h,e⟩<;>rcases k with k| ⟨c',k,e'⟩
 ·rw[h] at k;exact Loc.obj.inj k
 ·rw[h] at k;cases k
 ·rw[h] at k;cases k
 ·rw[h] at k;cases k;exact e.symm.trans e'
def QR{t:ε}(h:∀op∈t,op.act.low B){a:Touch}(ha:Ý t k=J a)(hb:sC a.loc b):b<B:=by
 obtain⟨op,ag,cH⟩:=ĕ ha;have hl:=h op (mem_of_getElem? ag);obtain⟨g,fn,pos,act⟩:=op;simp only at cH hl;cases act with
 |access e=>
  simp only[Ō,Option.some.injEq] at cH;subst cH;rcases hb with hb| ⟨c,hb,e5⟩
  ·simp only at hb;rw[MemAct.low,hb] at hl;exact hl
  ·simp only at hb;rw[MemAct.low,hb] at hl;rw[<-e5];exact hl
 |mark m=>
  cases m<;>simp[Ō] at cH
  ·subst cH;rcases hb with hb| ⟨c,hb,e5⟩
   ·cases hb
   ·simp only[Loc.cell.injEq] at hb;subst hb;rw[<-e5];exact hl
  ·subst cH;rcases hb with hb| ⟨c,hb,e5⟩
   ·cases hb
   ·simp only[Loc.cell.injEq] at hb;subst hb;rw[<-e5];exact hl
 |_=>simp[Ō] at cH
section
variable {cL cN:Nat}{w:N}{t:ε}{act:Nat->Option mB}
def WT.at(h:WT cL cN w t act)(d:Nat):WT cL cN (w.at d) t act:=
 ⟨λg j e=>(h.keep g j e).trans (AA _ _ _),h.nD,h.low,h.tl,h.nd,h.clean,h.perm,h.hL,h.hN⟩
def WT.own(h:WT cL cN w t act){j:mB}(hg:act g=J j){es:Array Event}(hd:eZ j.M w w' es)(fn:FuncId)(pos:String):
 WT cL cN w' (t++Į g fn pos es) (ft act g (J ⟨j.M.grow w w',x,w'⟩)):=by
 have VL:∀b,(j.M.grow w w').has b->b<w'.heap.size/\b≠cL/\b≠cN:=by
  intro b hb;have old:j.M.has b->b<w'.heap.size/\b≠cL/\b≠cN:=λhb=>by have:=h.low g j hg b hb;exact⟨Ϣ this.1 hd.size,this.2⟩
  rcases hb with(hb|hb) |hb
  ·exact old (.inl hb)
  ·have:=h.hL;have:=h.hN
   exact⟨hb.2,by omega,by omega⟩
  ·exact old (.inr hb)
 have JA:∀op∈Į g fn pos es,∃e∈es,op={g,fn,pos,act:=.ofEvent e}:=λop ag=>Go.Conc.mem_ofEvents ag;have split:∀ {k a},Ý (t++Į g fn pos es) k=J a->(k<t.size/\Ý t k=J a)\/∃e∈es,∃b,sC a.loc b/\(j.M.grow w w').has b/\(a.write=D->(j.M.grow w w').O b)/\Knows (t++Į g fn pos es) g k:=by
  intro k a ha;obtain⟨op,ag,cH⟩:=ĕ ha;rcases Ă ag with⟨hi,bL⟩ | ⟨_,dW⟩
  ·exact .inl ⟨hi,by rw[ġ bL];exact cH⟩
  ·obtain⟨e,he,rfl⟩:=JA op dW;obtain⟨b,b1,b2,b3,_⟩:=QQ (hd.ev e he) cH;exact .inr ⟨e,he,b,b1,b2,b3,knows_own ag⟩
 refine⟨λi ji hi=>?_,λi i' ji Ph aw hi bG b hb dv=>?_,λi ji hi b hb=>?_,λop ag=>?_,h.nd.app (PY hd.ev),λsaid=>?_,λi ji hi k a ha b hb hc=>?_,Ϣ h.hL hd.size,Ϣ h.hN hd.size⟩
 ·by_cases nL:i=g
  ·subst nL;rw[fY] at hi;cases hi;exact bR.refl _ _
  ·rw[ak _ _ nL] at hi;refine(h.keep i ji hi).trans ⟨hd.size,λb hb=>hd.kept b (h.low i ji hi b hb).1 λhO=>h.nD g i j ji (Θ nL) hg hi b hO hb,hd.tape,hd.os,hd.e⟩
 ·by_cases nL:i=g
  ·subst nL;rw[fY] at hi;cases hi;rw[ak _ _ (Θ aw)] at bG;rcases hb with hb|hb
   ·exact h.nD i i' j Ph aw hg bG b hb dv
   ·have:=(h.low i' Ph bG b dv).1;omega
  ·rw[ak _ _ nL] at hi;by_cases Vn:i'=g
   ·subst Vn;rw[fY] at bG;cases bG;rcases dv with(dv|dv) |dv
    ·exact h.nD i i' ji j aw hi hg b hb (.inl dv)
    ·have:=(h.low i ji hi b (.inl hb)).1;omega
    ·exact h.nD i i' ji j aw hi hg b hb (.inr dv)
   ·rw[ak _ _ Vn] at bG;exact h.nD i i' ji Ph aw hi bG b hb dv
 ·by_cases nL:i=g
  ·subst nL;rw[fY] at hi;cases hi;exact VL b hb
  ·rw[ak _ _ nL] at hi;have:=h.low i ji hi b hb;exact⟨Ϣ this.1 hd.size,this.2⟩
 ·rcases Array.mem_append.1 ag with ag|ag
  ·exact MemAct.low_mono hd.size (h.tl op ag)
  ·obtain⟨e,he,rfl⟩:=JA op ag;exact(MT (B:=w'.heap.size) (hd.ev e he) λb hb=>(VL b hb).1).2.2.2
 ·refine noRace_append (h.clean said) (λop ag=>by obtain⟨e,_,rfl⟩:=JA op ag;rfl) λk a ha op ag b hb hc=>?_;obtain⟨e,he,rfl⟩:=JA op ag;obtain⟨c,c1,c2,c3,c4⟩:=QQ (hd.ev e he) hb;have ca:sC a.loc c:=by rw[hc.1];exact c1
  have ao:=QR h.tl ha ca;by_cases dk:b.write=D
  ·rcases c3 dk with hO|hO
   ·exact h.perm g j hg k a ha c ca (.inl hO)
   ·omega
  ·have vc:a.write=D:=hc.2.2.1.resolve_right dk;rcases c2 with(hO|hO) |hR
   ·exact h.perm g j hg k a ha c ca (.inl hO)
   ·omega
   ·exact h.perm g j hg k a ha c ca (.inr ⟨hR,vc⟩)
 ·by_cases nL:i=g
  ·subst nL;rw[fY] at hi;cases hi;rcases split ha with⟨_,xf⟩ | ⟨e,he,c,c1,c2,c3,c4⟩
   ·have ao:=QR h.tl xf hb;refine(h.perm i j hg k a xf b hb ?_).app _;rcases hc with(hc|hc) |hc
    ·exact .inl hc
    ·omega
    ·exact .inr hc
   ·exact c4
  ·rw[ak _ _ nL] at hi;rcases split ha with⟨_,xf⟩ | ⟨e,he,c,c1,c2,c3,c4⟩
   ·exact(h.perm i ji hi k a xf b hb hc).app _
   ·exfalso;obtain rfl:=PE hb c1;have qx:=h.low i ji hi b (hc.imp id (·.1))
    rcases hc with hc| ⟨hc,vc⟩
    ·rcases c2 with(c2|c2) |c2
     ·exact h.nD i g ji j nL hi hg b hc (.inl c2)
     ·omega
     ·exact h.nD i g ji j nL hi hg b hc (.inr c2)
    ·rcases c3 vc with c3|c3
     ·exact h.nD g i j ji (Θ nL) hg hi b c3 (.inr hc)
     ·omega
def WT.mute(h:WT cL cN w t act)(hu:∀op∈u,op.act.touch? =H/\op.act.low w.heap.size/\op.act≠ .mark .disable/\op.act≠ .mark .enable)(V:w'.heap.size=w.heap.size)
 (hk:∀b,b≠cL->b≠cN->w'.heap[b]?=w.heap[b]?)(ht:w'.tape=w.tape)(ho:w'.os=w.os)(hp:w'.output=w.output):WT cL cN w' (t++u) act:=by
 have old:∀ {k a},Ý (t++u) k=J a->Ý t k=J a:=by
  intro k a ha;obtain⟨op,ag,cH⟩:=ĕ ha;rcases Ă ag with⟨_,bL⟩ | ⟨_,dW⟩
  ·rw[ġ bL];exact cH
  ·rw[(hu op dW).1] at cH;cases cH
 refine⟨λg j e=>(h.keep g j e).trans ⟨by rw[V];exact ϊ _,λb hb=>hk b (h.low g j e b hb).2.1 (h.low g j e b hb).2.2,ht,ho,hp⟩,h.nD,λg j e b hb=>by rw[V];exact h.low g j e b hb,λop ag=>?_,h.nd.app λop ag=>(hu op ag).2.2,λsaid=>?_,λg j e k a ha b hb hc=>(h.perm g j e k a (old ha) b hb hc).app u,by rw[V];exact h.hL,by rw[V];exact h.hN⟩
 ·rw[V];rcases Array.mem_append.1 ag with ag|ag
  ·exact h.tl op ag
  ·exact(hu op ag).2.1
 ·
  have key:∀(l:List MemOp) (s:ε),(∀op∈l,op.act.touch? =H)->¬Race said s->¬Race said (s++l.toArray):=by
   intro l;induction l with
   |nil=>intro s _ T;simpa using T
   |cons x l ih=>
    intro s hl T;have e:s++(x::l).toArray=(s++#[x])++l.toArray:=by apply Array.ext';simp
    rw[e];refine ih _ (λop ag=>hl op (by simp[ag])) (noRace_append (g:=x.g) T (by simp) λk a ha op ag b hb hc=>?_);simp only[ê,Ô] at ag;subst ag;rw[hl op (by simp)] at hb;cases hb
  have:=key u.toList t (λop ag=>(hu op (by simpa using ag)).1) (h.clean said);simpa using this
def WT.drop(h:WT cL cN w t act)(g:Nat):WT cL cN w t (ft act g H):=by
 have back:∀ {i j},ft act g H i=J j->act i=J j:=by
  intro i j hi;by_cases e:i=g
  ·subst e;rw[fY] at hi;cases hi
  ·rwa[ak _ _ e] at hi
 exact⟨λi j e=>h.keep i j (back e),λi i' j j' aw e e'=>h.nD i i' j j' aw (back e) (back e'),λi j e=>h.low i j (back e),h.tl,h.nd,h.clean,λi j e=>h.perm i j (back e),h.hL,h.hN⟩
def WT.again(h:WT cL cN w t act){j:mB}(hg:act g=J j)(x:ϐ):WT cL cN w t (ft act g (J ⟨j.M,x,w⟩)):=by
 have back:∀ {i j'},ft act g (J ⟨j.M,x,w⟩) i=J j'->∃WW,act i=J WW/\j'.M=WW.M:=by
  intro i j' hi;by_cases e:i=g
  ·subst e;rw[fY] at hi;cases hi;exact⟨j,hg,rfl⟩
  ·rw[ak _ _ e] at hi;exact⟨j',hi,rfl⟩
 refine⟨λi j' hi=>?_,λi i' j1 j2 aw e e'=>?_,λi j' hi=>?_,h.tl,h.nd,h.clean,λi j' hi=>?_,h.hL,h.hN⟩
 ·by_cases e:i=g
  ·subst e;rw[fY] at hi;cases hi;exact bR.refl _ _
  ·rw[ak _ _ e] at hi;exact h.keep i j' hi
 ·obtain⟨a,a1,a2⟩:=back e;obtain⟨b,b1,b2⟩:=back e';rw[a2,b2];exact h.nD i i' a b aw a1 b1
 ·obtain⟨a,a1,a2⟩:=back hi;rw[a2];exact h.low i a a1
 ·obtain⟨a,a1,a2⟩:=back hi;rw[a2];exact h.perm i a a1
def ay.shared(M:ay):ay:=⟨λ_=>False,M.has⟩
def WT.spawn(h:WT cL cN w t act){j:mB}(h0:act 0=J j)(hc:act c=H)(jS:c≠0){x y:MemOp}(hx:x.g=0/\x.act=.go c)(hy:y.g=c/\y.act=.start)(g' child:ϐ):
 WT cL cN w (t++#[x,y]) (ft (ft act 0 (J ⟨j.M.shared,g',w⟩)) c (J ⟨j.M.shared,child,w⟩)):=by
 have hm:=h.mute (u:=#[x,y]) (w':=w) (λop ag=>by
  simp only[ê,Ϡ,Á,or_false] at ag;rcases ag with rfl|rfl
  ·rw[hx.2];exact⟨rfl,trivial,by simp,by simp⟩
  ·rw[hy.2];exact⟨rfl,trivial,by simp,by simp⟩) rfl (λ_ _ _=>rfl) rfl rfl rfl
 have back:∀ {i j'},ft (ft act 0 (J ⟨j.M.shared,g',w⟩)) c (J ⟨j.M.shared,child,w⟩) i=J j'->((i=0\/i=c)/\j'.M=j.M.shared/\j'.w=w)\/(i≠0/\i≠c/\act i=J j'):=by
  intro i j' hi;by_cases e:i=c
  ·subst e;rw[fY] at hi;cases hi;exact .inl ⟨.inr rfl,rfl,rfl⟩
  ·rw[ak _ _ e] at hi;by_cases e0:i=0
   ·subst e0;rw[fY] at hi;cases hi;exact .inl ⟨.inl rfl,rfl,rfl⟩
   ·rw[ak _ _ e0] at hi;exact .inr ⟨e0,e,hi⟩
 have old:∀ {k a},Ý (t++#[x,y]) k=J a->Ý t k=J a:=by
  intro k a ha;obtain⟨op,ag,cH⟩:=ĕ ha;rcases Ă ag with⟨_,bL⟩ | ⟨_,dW⟩
  ·rw[ġ bL];exact cH
  ·simp only[ê,Ϡ,Á,or_false] at dW;rcases dW with rfl|rfl
   ·rw[hx.2] at cH;cases cH
   ·rw[hy.2] at cH;cases cH
 refine⟨λi j' hi=>?_,λi i' j1 j2 aw e e' b hb dv=>?_,λi j' hi b hb=>?_,hm.tl,hm.nd,hm.clean,λi j' hi k a ha b hb vf=>?_,h.hL,h.hN⟩
 ·rcases back hi with⟨_,a2,a3⟩ | ⟨_,_,a3⟩
  ·rw[a2,a3];exact bR.refl _ _
  ·exact h.keep i j' a3
 ·rcases back e with⟨_,a2,_⟩ | ⟨a1,_,a3⟩
  ·rw[a2] at hb;exact hb.elim
  ·rcases back e' with⟨_,b2,_⟩ | ⟨_,_,b3⟩
   ·rw[b2] at dv;exact h.nD i 0 j1 j a1 a3 h0 b hb (dv.resolve_left id)
   ·exact h.nD i i' j1 j2 aw a3 b3 b hb dv
 ·rcases back hi with⟨_,a2,_⟩ | ⟨_,_,a3⟩
  ·rw[a2] at hb;exact h.low 0 j h0 b (hb.resolve_left id)
  ·exact h.low i j' a3 b hb
 ·rcases back hi with⟨a1,a2,_⟩ | ⟨_,_,a3⟩
  ·rw[a2] at vf;rcases vf with vf| ⟨vf,vc⟩
   ·exact vf.elim
   ·have hk:Knows t 0 k:=by
      rcases vf with hO|hR
      ·exact h.perm 0 j h0 k a (old ha) b hb (.inl hO)
      ·exact h.perm 0 j h0 k a (old ha) b hb (.inr ⟨hR,vc⟩)
    rcases a1 with rfl|rfl
    ·exact hk.app _
    ·exact Go.ConcN.fork_knows hx hy (F0 h.nd 0) (F0 h.nd _) hk
  ·exact(h.perm i j' a3 k a (old ha) b hb vf).app _
end
def uM(t:ε)(g h:Nat):Prop:=∀k a,Ý t k=J a-> t.g? k=J g->Knows t h k
def uM.app{t u:ε}{g h:Nat}(k:uM t g h)(hu:∀op∈u,op.g=g-> op.act.touch? =H):uM (t++u) g h:=by
 intro i a ha hg;obtain⟨op,ag,cH⟩:=ĕ ha;rcases Ă ag with⟨hi,bL⟩ | ⟨_,dW⟩
 ·refine(k i a (by rw[ġ bL];exact cH) ?_).app u;simpa [Û,ag,bL] using hg
 ·have e:op.g=g:=by simpa [Û,ag] using hg
  rw[hu op dW e] at cH;cases cH
def uM.self(t:ε)(g:Nat):uM t g g:=by
 intro i a ha hg;obtain⟨op,ag,_⟩:=ĕ ha;have e:op.g=g:=by simpa [Û,ag] using hg
 have:=knows_own ag;rwa[e] at this
def ahb{t:ε}(hn:qf t){a s:Nat}(h1:x1.g=a/\x1.act=.send c s)(h2:x2.g=b/\x2.act=.recv c r cap)(h3:x3.g=a/\x3.act=.sendDone c s)(h4:x4.g=b/\x4.act=.recvDone c s)
 (h:Knows t a k):Knows (t++#[x1,x2,x3,x4]) b k:=by
 have e1:(t++#[x1,x2,x3,x4])[t.size]?=J x1:=by rw[Aek (ϊ _)];simp
 have e4:(t++#[x1,x2,x3,x4])[t.size+3]?=J x4:=by rw[Aek (by omega)];simp
 have VU:qf (t++#[x1,x2,x3,x4]):=hn.app λop ag=>by
  simp only[ê,Ϡ,Á,or_false] at ag;rcases ag with rfl|rfl|rfl|rfl
  ·rw[h1.2];simp
  ·rw[h2.2];simp
  ·rw[h3.2];simp
  ·rw[h4.2];simp
 have q1:HappensBefore (t++#[x1,x2,x3,x4]) k t.size:=h.hb_new (ϊ _) e1 h1.1;exact⟨t.size+3,x4,e4,h4.1,.inr (q1.trans (.single (.inr ⟨.handOver (c:=c) (k:=s) (by rw[act?_of e1,h1.2]) (by rw[act?_of e4,h4.2]),Jz VU e1,Jz VU e4⟩)))⟩
end Go.Sim
namespace Go.Sim
open Go Go.Conc
open Go.ConcN (sumTo upd sumTo_upd upd_ne upd_same sumTo_congr)
inductive Tree:Type
 |leaf:Tree
 |node (f:N->Tree):Tree
def Tree.lt(a b:Tree):Prop:=∃f w,b=.node f/\a=f w
def Tree.acc(a:Tree):Acc Tree.lt a:=by
 induction a with
 |leaf=>exact⟨_,λy ⟨f,w,e,_⟩=>by cases e⟩
 |node f ih=>exact⟨_,λy ⟨f',w,e,e'⟩=>by cases e;rw[e'];exact ih w⟩
def Br(n:Nat)(f' f:Nat->Tree):Prop:=∃i,i<n/\Tree.lt (f' i) (f i)/\∀j,j≠i->f' j=f j
def YQ(n:Nat):∀f:Nat->Tree,Acc (Br n) f:=by
 induction n with
 |zero=>exactλf=>⟨_,λy ⟨i,hi,_⟩=>by omega⟩
 |succ n ih=>
  have key:∀x:Tree,Acc Tree.lt x->∀f:Nat->Tree,f n=x->Acc (Br (n+1)) f:=by
   intro x hx;induction hx with
   |intro x _ ihx=>
    intro f hf;have inner:∀f:Nat->Tree,Acc (Br n) f->f n=x->Acc (Br (n+1)) f:=by
     intro f ha;induction ha with
     |intro f _ ihf=>
      intro hf;refine⟨_,λf' ⟨i,hi,ao,ho⟩=>?_⟩;by_cases dc:i=n
      ·subst dc;exact ihx (f' i) (by rw[<-hf];exact ao) f' rfl
      ·exact ihf f' ⟨i,by omega,ao,ho⟩ ((ho n (λe=>dc e.symm)).trans hf)
    exact inner f (ih f) hf
  exactλf=>key (f n) (Tree.acc _) f rfl
inductive oD(P:ϗ)(main:Bool)(Stop:ay->ϐ->N->Prop):Tree->ay->ϐ->N->Prop
 |stop {hr:Tree} {M:ay} {g:ϐ} {w:N} (h:∀aa,bR M w aa->Stop M g aa):oD P main Stop hr M g w
 |step {f:N->Tree} {M:ay} {g:ϐ} {w:N} (run:g.status=.running) (nx:N->ϐ×N×Array Event)
   (h:∀aa,bR M w aa->ϙ P main g aa=.go (nx aa).1 (nx aa).2.1 (nx aa).2.2/\eZ M aa (nx aa).2.1 (nx aa).2.2)
   (V:∀aa,bR M w aa->oD P main Stop (f aa) (M.grow aa (nx aa).2.1) (nx aa).1 (nx aa).2.1):oD P main Stop (.node f) M g w
def Walk.tree{Stop:ay->ϐ->N->Prop}{g:ϐ}(h:Walk P main Stop M g w):∃hr,oD P main Stop hr M g w:=by
 induction h with
 |stop h=>exact⟨.leaf,.stop h⟩
 | @step M g w run nx h _ ih=>
   have ex:∀aa,∃hr,bR M w aa->oD P main Stop hr (M.grow aa (nx aa).2.1) (nx aa).1 (nx aa).2.1:=by
    intro aa;by_cases k:bR M w aa
    ·obtain⟨hr,hT⟩:=ih aa k;exact⟨hr,λ_=>hT⟩
    ·exact⟨.leaf,λx=>absurd x k⟩
   exact⟨.node λaa=>Classical.choose (ex aa),.step run nx h λaa k=>Classical.choose_spec (ex aa) k⟩
def oD.sK{Stop:ay->ϐ->N->Prop}{hr:Tree}{g:ϐ}(h:oD P main Stop hr M g w):
 (∀aa,bR M w aa->Stop M g aa)\/(g.status=.running/\∀aa,bR M w aa->∃T' g' w' es,Tree.lt T' hr/\ϙ P main g aa=.go g' w' es/\eZ M aa w' es/\oD P main Stop T' (M.grow aa w') g' w'):=by
 cases h with
 |stop h=>exact .inl h
 |step run nx h V=>exact .inr ⟨run,λaa k=>⟨_,_,_,_,⟨_,aa,rfl,rfl⟩,(h aa k).1,(h aa k).2,V aa k⟩⟩
structure Pm where
 P:ϗ
 n:Nat
 N0:Nat
 cL:Nat
 cN:Nat
 cX:Nat->Bool
 val:Nat->z
 End:List Nat->ay->ϐ->N->Prop
def GC(X:Pm)(c:Nat)(v:z)(Next:ay->ϐ->N->Prop)(M:ay)(g:ϐ)(w:N):Prop:=
 g.status=.running/\g.offers=H/\(∃υ,ϙ X.P U g w=.comm g #[ć c v υ] D .send w #[])/\Next M (ϩ g L) w
def W2(X:Pm):ay->ϐ->N->Prop:=GC X X.cL (.bool D) (λ_ g _=>∃k,ĩ X.P k g)
def W1(X:Pm)(i:Nat)(M:ay)(g:ϐ)(w:N):Prop:=
 (X.cX i=D/\GC X X.cN (X.val i) (λM g w=>Walk X.P U (W2 X) M g w) M g w)\/(X.cX i=U/\W2 X M g w)
def AtClose(X:Pm)(_:ay)(g:ϐ)(w:N):Prop:=
 g.status=.running/\mayWake X.P g=D/\∀s r,w.heap[X.cN]?=J (.chan 0 #[] U s r U)->
  ∃cz k,ϙ X.P U g w=.go cz (w.shut X.cN s r U) #[⟨.obj X.cN,U,D⟩,⟨.obj X.cN,D,D⟩]/\ĩ X.P k cz
def rC(X:Pm):Nat->ay->ϐ->N->Prop
 |0=>AtClose X
 |r+1=>λM g w=>g.status=.running/\g.offers=H/\(∃υ,ϙ X.P U g w=.comm g #[é X.cL υ] D (.recv U) w #[])/\Walk X.P U (rC X r) M (ϩ g (ý U (.bool D) D)) w
def oB(X:Pm):Nat->List Nat->ay->ϐ->N->Prop
 |0,aD=>λM g w=>g.status=.running/\g.offers=H/\∃υ,ϙ X.P D g w=.comm g #[é X.cN υ] D (.recv D) w #[]/\X.End aD M (ϩ g (ý D υ U)) w
 |f+1,aD=>λM g w=>g.status=.running/\g.offers=H/\∃υ,ϙ X.P D g w=.comm g #[é X.cN υ] D (.recv D) w #[]/\X.End aD M (ϩ g (ý D υ U)) w/\
   ∀i,i<X.n->X.cX i=D->i ∉ aD->Walk X.P D (oB X f (aD++ [i])) M (ϩ g (ý D (X.val i) D)) w
def oB.at{X:Pm}{g:ϐ}(h:oB X f aD M g w):g.status=.running/\g.offers=H/\∃υ,ϙ X.P D g w=.comm g #[é X.cN υ] D (.recv D) w #[]/\X.End aD M (ϩ g (ý D υ U)) w:=by
 cases f with
 |zero=>exact h
 |succ f=>obtain⟨a,b,υ,c,d,_⟩:=h;exact⟨a,b,υ,c,d⟩
def StopA(X:Pm):Nat->ay->ϐ->N->Prop
 |0=>λM g w=>g.status=.running/\∃cz child,ϙ X.P D g w=.spawn cz child w #[]/\cz.status=.running/\child.status=.running/\Walk X.P U (rC X X.n) M.shared child w/\Walk X.P D (oB X X.n []) M.shared cz w
 |r+1=>λM g w=>g.status=.running/\∃cz child,ϙ X.P D g w=.spawn cz child w #[]/\cz.status=.running/\child.status=.running/\Walk X.P U (W1 X (X.n - (r+1))) M.shared child w/\Walk X.P D (StopA X r) M.shared cz w
inductive WS where
 |no|lj|jD|jj|jg|quit
 deriving DecidableEq
def WS.wt:WS->Nat
 | .no=>6| .lj=>5| .jD=>4| .jj=>3| .jg=>2| .quit=>0
def WS.il:WS->Bool
 | .jj| .jg| .quit=>D
 |_=>U
def WS.q(s:WS):Nat:=if s=.quit then 1 else 0
inductive MP where
 |spawn|walk(f:Nat)(aD:List Nat) |dp(f:Nat)(aD:List Nat)
inductive CP where
 |no|walk(r:Nat) |dp(r:Nat) |quit
def MP.wt(n:Nat):MP->Nat
 | .spawn=>2 * n+3| .walk f _=>2 * f+2| .dp f _=>2 * f+1
def CP.wt(n:Nat):CP->Nat
 | .no=>2 * n+8| .walk r=>2 * r+5| .dp r=>2 * r+4| .quit=>0
structure Gh where
 j:Nat
 st:Nat->WS
 mp:MP
 cp:CP
 act:Nat->Option mB
 q:Nat->Nat
 tr:Nat->Tree
def Gh.mu(X:Pm)(G:Gh):Nat:=G.mp.wt X.n+G.cp.wt X.n+sumTo X.n (λi=>(G.st i).wt)
def rB(x y:ϐ):Prop:=x.frame=y.frame/\x.callers=y.callers/\x.dying=y.dying/\x.status=.running
def gD(X:Pm)(G:Gh)(x:ϐ):Prop:=
 match G.mp with
 | .spawn=>∃M aR,G.act 0=J ⟨M,x,aR⟩/\x.status=.running/\oD X.P D (StopA X (X.n - G.j)) (G.tr 0) M x aR
 | .walk f aD=>∃M aR y,G.act 0=J ⟨M,y,aR⟩/\rB x y/\oD X.P D (oB X f aD) (G.tr 0) M y aR
 | .dp f aD=>∃M aR y υ,G.act 0=J ⟨M,y,aR⟩/\x=Ú y #[é X.cN υ] (.recv D)/\∀aa,bR M aR aa->oB X f aD M y aa
def WSit(X:Pm)(G:Gh)(i:Nat)(x:ϐ):Prop:=
 match G.st i with
 | .no=>False
 | .lj=>∃M aR,G.act (X.N0+i)=J ⟨M,x,aR⟩/\x.status=.running/\oD X.P U (W1 X i) (G.tr (X.N0+i)) M x aR
 | .jD=>∃M aR y υ,G.act (X.N0+i)=J ⟨M,y,aR⟩/\x=Ú y #[ć X.cN (X.val i) υ] .send/\X.cX i=D/\Walk X.P U (W2 X) M (ϩ y L) aR
 | .jj=>∃M aR,G.act (X.N0+i)=J ⟨M,x,aR⟩/\x.status=.running/\oD X.P U (W2 X) (G.tr (X.N0+i)) M x aR
 | .jg=>∃M aR y υ,G.act (X.N0+i)=J ⟨M,y,aR⟩/\x=Ú y #[ć X.cL (.bool D) υ] .send/\∃k,ĩ X.P k (ϩ y L)
 | .quit=>G.act (X.N0+i)=H/\ĩ X.P (G.q (X.N0+i)) x
def CSit(X:Pm)(G:Gh)(x:ϐ):Prop:=
 match G.cp with
 | .no=>False
 | .walk r=>∃M aR,G.act (X.N0+X.n)=J ⟨M,x,aR⟩/\x.status=.running/\oD X.P U (rC X r) (G.tr (X.N0+X.n)) M x aR
 | .dp r=>∃r' M aR y υ,r=r'+1/\G.act (X.N0+X.n)=J ⟨M,y,aR⟩/\x=Ú y #[é X.cL υ] (.recv U)/\Walk X.P U (rC X r') M (ϩ y (ý U (.bool D) D)) aR
 | .quit=>G.act (X.N0+X.n)=H/\ĩ X.P (G.q (X.N0+X.n)) x
def Gh.closed(G:Gh):Bool:=match G.cp with
 | .quit=>D
 |_=>U
def CP.ik:CP->Bool
 | .no=>D
 |_=>U
def oq(X:Pm)(G:Gh):Prop:=
 match G.cp with
 | .no=>sumTo X.n (λi=>(G.st i).q)=0
 | .walk r| .dp r=>r+sumTo X.n (λi=>(G.st i).q)=X.n
 | .quit=>sumTo X.n (λi=>(G.st i).q)=X.n
def ou(X:Pm)(G:Gh):Prop:=
 match G.mp with
 | .spawn=>∀i,i<X.n->X.cX i=D->(G.st i).il=U
 | .walk f aD| .dp f aD=>aD.Nodup/\f+aD.length=X.n/\∀i,i∈aD↔(i<X.n/\X.cX i=D/\(G.st i).il=D)
structure Base(wb w:N):Prop where
 size:wb.heap.size<=w.heap.size
 tape:w.tape=wb.tape
 os:w.os=wb.os
 e:w.output=wb.output
structure FI(X:Pm)(wb:N)(gs:Array ϐ)(w:N)(t:ε)(G:Gh):Prop where
 size:gs.size=X.N0+G.j+(if G.cp.ik then 0 else 1)
 n0:0<X.N0
 jn:G.j<=X.n
 jc:G.cp.ik=U->G.j=X.n
 mc:(∃f aD,G.mp=.walk f aD\/G.mp=.dp f aD)↔G.cp.ik=U
 vU:∀i,i<X.n->(G.st i=.no↔G.j<=i)
 main:∃x,gs[0]?=J x/\gD X G x
 wk:∀i,i<G.j->∃x,gs[X.N0+i]?=J x/\WSit X G i x
 cl:G.cp.ik=U->∃x,gs[X.N0+X.n]?=J x/\CSit X G x
 old:∀g x,0<g->g<X.N0->gs[g]?=J x->ĩ X.P (G.q g) x
 oX:∀g,0<g->g<X.N0->G.act g=H
 nG:∀g,gs.size<=g->G.act g=H
 cnt:oq X G
 aD:ou X G
 nV:(∃f aD,G.mp=.dp f aD)->∀i,i<X.n->G.st i≠ .jD
 yj:(∃r,G.cp=.dp r)->∀i,i<X.n->G.st i≠ .jg
 AN:(∃f aD,G.mp=.dp f aD)->G.closed=U
 wt:WT X.cL X.cN w t G.act
 lU:∃s,w.heap[X.cL]?=J (.chan 0 #[] U s s U)
 lX:∃s,w.heap[X.cN]?=J (.chan 0 #[] G.closed s s U)
 neq:X.cL≠X.cN
 base:Base wb w
 yk:∀k a,Ý t k=J a->a.loc.isMemory=D->∀g,t.g? k=J g->g<X.N0->Knows t 0 k
 uW:∀k g,t.g? k=J g->g<gs.size
 kq:∀i,i<X.n->G.st i=.quit->uM t (X.N0+i) (X.N0+X.n)
 AM:G.closed=U->∀k a,Ý t k=J a->a.loc≠ .obj X.cN
 DW:G.closed=D->∃c υ,t[c]?=J υ/\υ.act=.close X.cN/\υ.g=X.N0+X.n/\∀k a,Ý t k=J a->∀g,t.g? k=J g->X.N0<=g->Before t k c
def YZ(st:Nat->WS):∀n,sumTo n (λi=>(st i).q)<=n
 |0=>ϊ _
 |n+1=>by
  have:=YZ st n;simp only[sumTo];have:(st n).q<=1:=by unfold WS.q;split<;>omega
  omega
def QN(st:Nat->WS):∀n,sumTo n (λi=>(st i).q)=n->∀i,i<n->st i=.quit
 |0,_,i,hi=>by omega
 |n+1,h,i,hi=>by
  have h1:=YZ st n;have h2:(st n).q<=1:=by unfold WS.q;split<;>omega
  simp only[sumTo] at h;by_cases e:i=n
  ·subst e;have:(st i).q=1:=(by omega);unfold WS.q at this;split at this
   ·assumption
   ·omega
  ·exact QN st n (by omega) i (by omega)
def apF(st:Nat->WS)(n:Nat)(h:sumTo n (λi=>(st i).q)<n):∃i,i<n/\st i≠ .quit:=by
 apply ä;intro hn;have eT:∀i,i<n->st i=.quit:=λi hi=>ä λhq=>hn ⟨i,hi,hq⟩
 have:sumTo n (λi=>(st i).q)=n:=by
  have key:∀m,m<=n->sumTo m (λi=>(st i).q)=m:=by
   intro m;induction m with
   |zero=>intro _;rfl
   |succ m ih=>intro hm;simp only[sumTo];rw[ih (by omega),eT m (by omega)];simp[WS.q]
  exact key n (ϊ _)
 omega
section
variable {X:Pm}{wb:N}{gs:Array ϐ}{w:N}{t:ε}{G:Gh}
def CP.adV{G:Gh}(h:G.closed=D):G.cp.ik=U:=by unfold Gh.closed at h;unfold CP.ik;cases hc:G.cp<;>rw[hc] at h<;>simp_all
def FI.aae(h:FI X wb gs w t G)(hc:G.closed=D):∀i,i<X.n->G.st i=.quit:=by
 have hq:=h.cnt;unfold oq at hq;unfold Gh.closed at hc;cases e:G.cp with
 |quit=>rw[e] at hq;exact QN _ _ hq
 |_=>rw[e] at hc;cases hc
def FI.tX(h:FI X wb gs w t G)(hk:k<gs.size):k=0\/(0<k/\k<X.N0)\/(∃i,i<G.j/\k=X.N0+i)\/(k=X.N0+X.n/\G.cp.ik=U):=by
 have V:=h.size;by_cases h0:k=0
 ·exact .inl h0
 by_cases h1:k<X.N0
 ·exact .inr (.inl ⟨by omega,h1⟩)
 by_cases h2:k<X.N0+G.j
 ·exact .inr (.inr (.inl ⟨k - X.N0,by omega,by omega⟩))
 ·right;right;right;by_cases hc:G.cp.ik=D
  ·rw[hc] at V;simp at V;omega
  ·have hc:G.cp.ik=U:=by simpa using hc
   rw[hc] at V;have:=h.jc hc;simp at V;exact⟨by omega,hc⟩
def FI.Xr(h:FI X wb gs w t G)(hi:i<X.n)(V:G.st i≠ .no):i<G.j:=by apply ä;intro hn;exact V ((h.vU i hi).2 (by omega))
def FI.kinds(h:FI X wb gs w t G)(hy:gs[k]?=J y):
 y.status=.running\/(∃n,ĩ X.P n y)\/(∃g υ,G.closed=U/\y=Ú g #[é X.cN υ] (.recv D))\/(∃g υ,y=Ú g #[é X.cL υ] (.recv U))\/
  (∃g v υ,k≠0/\G.closed=U/\y=Ú g #[ć X.cN v υ] .send)\/∃g v υ,k≠0/\y=Ú g #[ć X.cL v υ] .send:=by
 rcases h.tX (Ϝ.1 hy).1 with rfl| ⟨h1,h2⟩ | ⟨i,hi,rfl⟩ | ⟨rfl,hc⟩
 ·obtain⟨x,hx,V⟩:=h.main;rw[hy] at hx;obtain rfl:=ϟ hx;unfold gD at V;cases e:G.mp with
  |spawn=>rw[e] at V;obtain⟨M,aR,_,T,_⟩:=V;exact .inl T
  |walk f aD=>rw[e] at V;obtain⟨M,aR,y',_,T,_⟩:=V;exact .inl T.2.2.2
  |dp f aD=>rw[e] at V;obtain⟨M,aR,y',υ,_,T,_⟩:=V;exact .inr (.inr (.inl ⟨y',υ,h.AN ⟨f,aD,e⟩,T⟩))
 ·exact .inr (.inl ⟨_,h.old k y h1 h2 hy⟩)
 ·obtain⟨x,hx,V⟩:=h.wk i hi;rw[hy] at hx;obtain rfl:=ϟ hx;have iA:X.N0+i≠0:=by have:=h.n0;omega
  have eV:∀s,G.st i=s->s≠ .quit->G.closed=U:=by
   intro s e V;apply ä;intro hc;have:=h.aae (by simpa using hc) i (by have:=h.jn;omega)
   exact V (e.symm.trans this)
  unfold WSit at V;cases e:G.st i with
  |no=>rw[e] at V;exact V.elim
  |lj=>rw[e] at V;obtain⟨M,aR,_,T,_⟩:=V;exact .inl T
  |jD=>rw[e] at V;obtain⟨M,aR,y',υ,_,T,_⟩:=V;exact .inr (.inr (.inr (.inr (.inl ⟨y',_,υ,iA,eV _ e (by simp),T⟩))))
  |jj=>rw[e] at V;obtain⟨M,aR,_,T,_⟩:=V;exact .inl T
  |jg=>rw[e] at V;obtain⟨M,aR,y',υ,_,T,_⟩:=V;exact .inr (.inr (.inr (.inr (.inr ⟨y',_,υ,iA,T⟩))))
  |quit=>rw[e] at V;exact .inr (.inl ⟨_,V.2⟩)
 ·obtain⟨x,hx,V⟩:=h.cl hc;rw[hy] at hx;obtain rfl:=ϟ hx;unfold CSit at V;cases e:G.cp with
  |no=>rw[e] at V;exact V.elim
  |walk r=>rw[e] at V;obtain⟨M,aR,_,T,_⟩:=V;exact .inl T
  |dp r=>rw[e] at V;obtain⟨r',M,aR,y',υ,_,_,T,_⟩:=V;exact .inr (.inr (.inr (.inl ⟨y',υ,T⟩)))
  |quit=>rw[e] at V;exact .inr (.inl ⟨_,V.2⟩)
def FI.awake(h:FI X wb gs w t G):∀g∈gs,Conc.awake g:=by
 intro y hy;obtain⟨k,hk,rfl⟩:=Array.mem_iff_getElem.1 hy;rcases h.kinds (k:=k) (ā hk) with e| ⟨n,e⟩ | ⟨g,υ,_,e⟩ | ⟨g,υ,e⟩ | ⟨g,v,υ,_,_,e⟩ | ⟨g,v,υ,_,e⟩
 ·exact awake_of (.inl e)
 ·exact awake_of (e.status.elim .inl λx=>.inr (.inr x))
 all_goals rw[e];exact awake_of (.inr (.inl rfl))
def FI.woken(h:FI X wb gs w t G){k:Nat}{y:ϐ}(hy:gs[k]?=J y){x x':ϐ}{w':N}(hL:∃s,w'.heap[X.cL]?=J (.chan 0 #[] U s s U))
 (hN:G.closed=U->∃s,w'.heap[X.cN]?=J (.chan 0 #[] U s s U)):Ĉ X.P x x' w' y=y:=by
 obtain⟨s,hL⟩:=hL;rcases h.kinds hy with e| ⟨n,e⟩ | ⟨g,υ,hc,e⟩ | ⟨g,υ,e⟩ | ⟨g,v,υ,_,hc,e⟩ | ⟨g,v,υ,_,e⟩
 ·exact woken_run e
 ·exact woken_quits e
 ·obtain⟨s',hN⟩:=hN hc;rw[e];exact woken_recv_open _ _ hN
 ·rw[e];exact woken_recv_open _ _ hL
 ·obtain⟨s',hN⟩:=hN hc;rw[e];exact woken_send_open _ _ hN
 ·rw[e];exact woken_send_open _ _ hL
def FI.ao6(h:FI X wb gs w t G):∃(k:Nat) (y:ϐ),gs[k]?=J y/\y.status=.running:=by
 obtain⟨x,hx,V⟩:=h.main;unfold gD at V;cases e:G.mp with
 |spawn=>rw[e] at V;obtain⟨M,aR,_,T,_⟩:=V;exact⟨0,x,hx,T⟩
 |walk f aD=>rw[e] at V;obtain⟨M,aR,y',_,T,_⟩:=V;exact⟨0,x,hx,T.2.2.2⟩
 |dp f aD=>
  have eV:=h.AN ⟨f,aD,e⟩;have br:=h.mc.1 ⟨f,aD,.inr e⟩;obtain⟨y,hy,hc⟩:=h.cl br;have dA:=h.cnt;unfold CSit at hc;unfold oq at dA;cases ec:G.cp with
  |no=>rw[ec] at br;cases br
  |quit=>unfold Gh.closed at eV;rw[ec] at eV;cases eV
  |walk r=>rw[ec] at hc;obtain⟨M,aR,_,T,_⟩:=hc;exact⟨_,y,hy,T⟩
  |dp r=>
   rw[ec] at hc dA;obtain⟨r',M,aR,y',υ,X2,_⟩:=hc;simp only at dA;obtain⟨i,hi,hq⟩:=apF G.st X.n (by omega);have hj:=h.jc br;obtain⟨x2,Cw,dN⟩:=h.wk i (by omega);unfold WSit at dN;cases es:G.st i with
   |no=>rw[es] at dN;exact dN.elim
   |lj=>rw[es] at dN;obtain⟨M,aR,_,T,_⟩:=dN;exact⟨_,x2,Cw,T⟩
   |jj=>rw[es] at dN;obtain⟨M,aR,_,T,_⟩:=dN;exact⟨_,x2,Cw,T⟩
   |jD=>exact absurd es (h.nV ⟨f,aD,e⟩ i hi)|jg=>exact absurd es (h.yj ⟨r,ec⟩ i hi)|quit=>exact absurd es hq
def FI.at(h:FI X wb gs w t G)(d:Nat):FI X wb gs (w.at d) t G:=
 ⟨h.size,h.n0,h.jn,h.jc,h.mc,h.vU,h.main,h.wk,h.cl,h.old,h.oX,h.nG,h.cnt,h.aD,h.nV,h.yj,h.AN,h.wt.at d,h.lU,h.lX,h.neq,⟨h.base.size,h.base.tape,h.base.os,h.base.e⟩,h.yk,h.uW,h.kq,h.AM,h.DW⟩
def Uy(h:FI X wb gs w t G){x':ϐ}(hL:∃s,w'.heap[X.cL]?=J (.chan 0 #[] U s s U))
 (hN:G.closed=U->∃s,w'.heap[X.cN]?=J (.chan 0 #[] U s s U))(aw:i≠k):((gs.map (Ĉ X.P x x' w')).setIfInBounds k x')[i]?=gs[i]?:=by
 rw[Ě (Θ aw),Ē];cases e:gs[i]? with
 |none=>rfl
 |some y=>rw[ó,h.woken e hL hN]
def Na{f:ϐ->ϐ}(hk:k<gs.size)(x':ϐ):((gs.map f).setIfInBounds k x')[k]?=J x':=by simp[hk]
def Sr(X:Pm)(G:Gh)(k:Nat)(x:ϐ):Prop:=
 (k=0/\gD X G x)\/(∃i,i<G.j/\k=X.N0+i/\WSit X G i x)\/(k=X.N0+X.n/\G.cp.ik=U/\CSit X G x)
def FI.own(h:FI X wb gs w t G){k:Nat}{x g':ϐ}{j:mB}{w':N}{es:Array Event}(hk:gs[k]?=J x)(pE:G.act k=J j)(hd:eZ j.M w w' es)(T':Tree)(fn:FuncId)(pos:String)
 (rZ:Sr X {G with act:=ft G.act k (J ⟨j.M.grow w w',g',w'⟩),tr:=upd G.tr k T'} k g'):
 FI X wb ((gs.map (Ĉ X.P x g' w')).setIfInBounds k g') w' (t++Į k fn pos es) {G with act:=ft G.act k (J ⟨j.M.grow w w',g',w'⟩),tr:=upd G.tr k T'}:=by
 have ao:k<gs.size:=(Ϝ.1 hk).1;have Ix:∃s,w'.heap[X.cL]?=J (.chan 0 #[] U s s U):=by obtain⟨s,e⟩:=h.lU;exact⟨s,by rw[hd.kept X.cL h.wt.hL λhO=>(h.wt.low k j pE _ (.inl hO)).2.1 rfl];exact e⟩
 have zN:∃s,w'.heap[X.cN]?=J (.chan 0 #[] G.closed s s U):=by obtain⟨s,e⟩:=h.lX;exact⟨s,by rw[hd.kept X.cN h.wt.hN λhO=>(h.wt.low k j pE _ (.inl hO)).2.2 rfl];exact e⟩
 have NQ:G.closed=U->∃s,w'.heap[X.cN]?=J (.chan 0 #[] U s s U):=λe=>by rw[e] at zN;exact zN
 have uV:∀ {i},i≠k->((gs.map (Ĉ X.P x g' w')).setIfInBounds k g')[i]?=gs[i]?:=λaw=>Uy h Ix NQ aw;have zv:((gs.map (Ĉ X.P x g' w')).setIfInBounds k g')[k]?=J g':=Na ao g';have aN:((gs.map (Ĉ X.P x g' w')).setIfInBounds k g').size=gs.size:=by simp
 have Ol:¬ (0<k/\k<X.N0):=λ⟨a,b⟩=>by rw[h.oX k a b] at pE;cases pE
 have V7:∀i,i<X.n->G.st i=.quit->X.N0+i≠k:=by intro i hi hq e;obtain⟨y,_,V⟩:=h.wk i (h.Xr hi (by rw[hq];simp));unfold WSit at V;rw[hq] at V;rw[<-e,V.1] at pE;cases pE
 have ops:∀op∈Į k fn pos es,∃e∈es,op={g:=k,fn,pos,act:=.ofEvent e}:=λop ag=>Go.Conc.mem_ofEvents ag;have QT:∀ {i a},Ý (t++Į k fn pos es) i=J a->(i<t.size/\Ý t i=J a/\(t++Į k fn pos es).g? i= t.g? i)\/((t++Į k fn pos es).g? i=J k/\∃b,sC a.loc b/\(j.M.grow w w').has b/\Knows (t++Į k fn pos es) k i):=by
  intro i a ha;obtain⟨op,ag,cH⟩:=ĕ ha;rcases Ă ag with⟨hi,bL⟩ | ⟨_,dW⟩
  ·exact .inl ⟨hi,by rw[ġ bL];exact cH,by simp[Û,ag,bL]⟩
  ·obtain⟨e,he,rfl⟩:=ops op dW;obtain⟨b,b1,b2,_,_⟩:=QQ (hd.ev e he) cH;exact .inr ⟨by simp[Û,ag],b,b1,b2,knows_own ag⟩
 have iU:∀b,(j.M.grow w w').has b->b≠X.cN:=by
  intro b hb;rcases hb with(hb|hb) |hb
  ·exact(h.wt.low k j pE b (.inl hb)).2.2
  ·have:=h.wt.hN;omega
  ·exact(h.wt.low k j pE b (.inr hb)).2.2
 refine⟨aN.trans h.size,h.n0,h.jn,h.jc,h.mc,h.vU,?_,λi hi=>?_,λhc=>?_,λg y h1 h2 hy=>?_,λg h1 h2=>?_,λg hg=>?_,h.cnt,h.aD,h.nV,h.yj,h.AN,h.wt.own pE hd fn pos,Ix,zN,h.neq,
  ⟨Ϥ h.base.size hd.size,hd.tape.trans h.base.tape,hd.os.trans h.base.os,hd.e.trans h.base.e⟩,λi a ha hm g hg iV=>?_,λi g hg=>?_,λi hi hq=>?_,λhc i a ha=>?_,λhc=>?_⟩
 ·by_cases e:k=0
  ·subst e;rcases rZ with⟨_,V⟩ | ⟨i,_,e,_⟩ | ⟨e,_⟩
   ·exact⟨g',zv,V⟩
   ·have:=h.n0;omega
   ·have:=h.n0;omega
  ·obtain⟨y,hy,V⟩:=h.main;refine⟨y,by rw[uV (Θ e)];exact hy,?_⟩;simp only[gD,ak _ _ (Θ e),upd_ne _ _ (Θ e)];exact V
 ·by_cases e:k=X.N0+i
  ·subst e;rcases rZ with⟨e,_⟩ | ⟨i',_,e,V⟩ | ⟨e,hc,_⟩
   ·have:=h.n0;omega
   ·obtain rfl:i'=i:=by omega
    exact⟨g',zv,V⟩
   ·have:=h.jn;have xC:i<G.j:=hi;omega
  ·obtain⟨y,hy,V⟩:=h.wk i hi;refine⟨y,by rw[uV (Θ e)];exact hy,?_⟩;simp only[WSit,ak _ _ (Θ e),upd_ne _ _ (Θ e)];exact V
 ·by_cases e:k=X.N0+X.n
  ·subst e;rcases rZ with⟨e,_⟩ | ⟨i',bG,e,V⟩ | ⟨_,_,V⟩
   ·have:=h.n0;omega
   ·have:=h.jn;simp only at bG;omega
   ·exact⟨g',zv,V⟩
  ·obtain⟨y,hy,V⟩:=h.cl hc;refine⟨y,by rw[uV (Θ e)];exact hy,?_⟩;simp only[CSit,ak _ _ (Θ e),upd_ne _ _ (Θ e)];exact V
 ·have e:g≠k:=λe=>Ol ⟨by omega,by omega⟩;rw[uV e] at hy;exact h.old g y h1 h2 hy
 ·have e:g≠k:=λe=>Ol ⟨by omega,by omega⟩;simp only[ak _ _ e];exact h.oX g h1 h2
 ·rw[aN] at hg;simp only[ak _ _ (show g≠k by omega)];exact h.nG g hg
 ·rcases QT ha with⟨_,h1,h2⟩ | ⟨h1,_,_,_,h2⟩
  ·rw[h2] at hg;exact(h.yk i a h1 hm g hg iV).app _
  ·rw[h1] at hg;obtain rfl:=ϟ hg;obtain rfl:k=0:=by
    apply ä;intro h0;exact Ol ⟨by omega,iV⟩
   exact h2
 ·rw[aN];unfold Û at hg;obtain⟨op,ag,e⟩:=ď.1 hg;rcases Ă ag with⟨_,bL⟩ | ⟨_,dW⟩
  ·exact h.uW i g (by simp[Û,bL,e])
  ·obtain⟨_,_,rfl⟩:=ops op dW;simp only at e;omega
 ·refine(h.kq i hi hq).app λop ag e=>?_;obtain⟨_,_,rfl⟩:=ops op ag;exact absurd e.symm (V7 i hi hq)
 ·rcases QT ha with⟨_,h1,_⟩ | ⟨_,b,h1,h2,_⟩
  ·exact h.AM hc i a h1
  ·intro e;have:sC a.loc X.cN:=.inl e;obtain rfl:=PE h1 this;exact iU _ h2 rfl
 ·obtain⟨c,υ,c1,c2,c3,c4⟩:=h.DW hc;refine⟨c,υ,by rw[Afa (Afb c1)];exact c1,c2,c3,λi a ha g hg ky=>?_⟩;rcases QT ha with⟨_,h1,h2⟩ | ⟨h1,_⟩
  ·rw[h2] at hg;exact(c4 i a h1 g hg ky).app _
  ·exfalso;rw[h1] at hg;obtain rfl:=ϟ hg;rcases h.tX ao with e|e| ⟨i',bG,e⟩ | ⟨e,hn⟩
   ·have:=h.n0;omega
   ·omega
   ·exact V7 i' (by have:=h.jn;omega) (h.aae hc i' (by have:=h.jn;omega)) e.symm
   ·obtain⟨y,_,V⟩:=h.cl hn;unfold CSit at V;unfold Gh.closed at hc;cases ec:G.cp with
    |quit=>rw[ec] at V;rw[e,V.1] at pE;cases pE
    |_=>rw[ec] at hc;cases hc
def FI.anb(h:FI X wb gs w t G){g':ϐ}(hk:gs[k]?=J x)(rZ:(0<k/\k<X.N0)\/(∃i,i<G.j/\k=X.N0+i/\G.st i=.quit)\/(k=X.N0+X.n/\G.closed=D))(hq:ĩ X.P m g'):
 FI X wb ((gs.map (Ĉ X.P x g' w)).setIfInBounds k g') w t {G with q:=upd G.q k m}:=by
 have ao:k<gs.size:=(Ϝ.1 hk).1;have NQ:G.closed=U->∃s,w.heap[X.cN]?=J (.chan 0 #[] U s s U):=λe=>by have:=h.lX;rw[e] at this;exact this
 have uV:∀ {i},i≠k->((gs.map (Ĉ X.P x g' w)).setIfInBounds k g')[i]?=gs[i]?:=λaw=>Uy h h.lU NQ aw;have zv:((gs.map (Ĉ X.P x g' w)).setIfInBounds k g')[k]?=J g':=Na ao g';have aN:((gs.map (Ĉ X.P x g' w)).setIfInBounds k g').size=gs.size:=by simp
 have kV:=h.n0;have sU:=h.jn;have iA:k≠0:=by rcases rZ with e| ⟨i,_,e,_⟩ | ⟨e,_⟩<;>omega
 refine⟨aN.trans h.size,h.n0,h.jn,h.jc,h.mc,h.vU,?_,λi hi=>?_,λhc=>?_,λg y h1 h2 hy=>?_,h.oX,λg hg=>h.nG g (by rw[aN] at hg;exact hg),h.cnt,h.aD,h.nV,h.yj,h.AN,h.wt,h.lU,h.lX,h.neq,h.base,h.yk,λi g hg=>by rw[aN];exact h.uW i g hg,h.kq,h.AM,h.DW⟩
 ·obtain⟨y,hy,V⟩:=h.main;exact⟨y,by rw[uV (Θ iA)];exact hy,V⟩
 ·by_cases e:k=X.N0+i
  ·subst e;rcases rZ with e| ⟨i',_,e,eW⟩ | ⟨e,_⟩
   ·omega
   ·obtain rfl:i'=i:=by omega
    refine⟨g',zv,?_⟩;obtain⟨y,_,V⟩:=h.wk i' hi;unfold WSit at V |-;simp only;rw[eW] at V |-;exact⟨V.1,by simp only[upd_same];exact hq⟩
   ·have xC:i<G.j:=hi;omega
  ·obtain⟨y,hy,V⟩:=h.wk i hi;refine⟨y,by rw[uV (Θ e)];exact hy,?_⟩;simp only[WSit,upd_ne _ _ (Θ e)];exact V
 ·by_cases e:k=X.N0+X.n
  ·subst e;rcases rZ with e| ⟨i',bG,e,_⟩ | ⟨_,gJ⟩
   ·omega
   ·have xC:i'<G.j:=bG;omega
   ·refine⟨g',zv,?_⟩;obtain⟨y,_,V⟩:=h.cl hc;unfold Gh.closed at gJ;cases ec:G.cp with
    |quit=>
     unfold CSit at V |-;simp only;rw[ec] at V;exact⟨V.1,by simp only[upd_same];exact hq⟩
    |_=>rw[ec] at gJ;cases gJ
  ·obtain⟨y,hy,V⟩:=h.cl hc;refine⟨y,by rw[uV (Θ e)];exact hy,?_⟩;simp only[CSit,upd_ne _ _ (Θ e)];exact V
 ·by_cases e:g=k
  ·subst e;rw[zv] at hy;obtain rfl:=ϟ hy;simp only[upd_same];exact hq
  ·rw[uV e] at hy;simp only[upd_ne _ _ e];exact h.old g y h1 h2 hy
end
def CN:∀(n:Nat) (l:List Nat),l.Nodup->(∀x∈l,x<n)->l.length<=n
 |0,l,_,h=>by
  cases l with
  |nil=>exact ϊ _|cons a l=>exact absurd (h a (by simp)) (by omega)
 |n+1,l,hn,h=>by
  by_cases hm:n∈l
  ·have h1:=CN n (l.erase n) (hn.erase n) λx hx=>by
    have h2:=(List.Nodup.mem_erase_iff hn).1 hx;have:=h x h2.2;have:=h2.1;omega
   rw[List.length_erase_of_mem hm] at h1;omega
  ·have:=CN n l hn λx hx=>by
    have h2:=h x hx;have:x≠n:=λe=>hm (e▸hx)
    omega
   omega
def pS{a b:ϐ}{c c':Array CommCase}{s s':CommShape}(h:Ú a c s=Ú b c' s'):c=c'/\s=s'/\∀v,ϩ a v=ϩ b v:=by obtain⟨f1,k1,s1,d1,o1⟩:=a;obtain⟨f2,k2,s2,d2,o2⟩:=b;simp only[Ú,Goroutine.mk.injEq,Option.some.injEq,Prod.mk.injEq] at h;obtain⟨h1,h2,_,h4,h5,h6⟩:=h;subst h1 h2 h4;exact⟨h5,h6,λv=>rfl⟩
def vw{a b:ϐ}{c:Array CommCase}{s:CommShape}(h:Ú a c s=b)(hb:b.status=.running):False:=by rw[<-h] at hb;cases hb
def JZ{v':z}(h:#[ć c v υ]=#[ć c' v' z']):c=c'/\v=v':=by simp[ć] at h;exact⟨h.1,h.2.1⟩
def ane(h:#[é c υ]=#[é c' z']):c=c':=by simp[é] at h;exact h.1
def yh(h:#[ć c v υ]=#[é c' z']):False:=by simp[ć,é] at h
section
variable {X:Pm}{wb:N}{gs:Array ϐ}{w:N}{t:ε}{G:Gh}
def FI.Md(h:FI X wb gs w t G){g:ϐ}{sh:CommShape}(hk:gs[k]?=J (Ú g #[ć X.cN v υ] sh)):
 ∃i M aR y,i<G.j/\k=X.N0+i/\G.st i=.jD/\v=X.val i/\sh=.send/\X.cX i=D/\G.act k=J ⟨M,y,aR⟩/\(∀v,ϩ g v=ϩ y v)/\Walk X.P U (W2 X) M (ϩ y L) aR:=by
 have aw:=h.neq;rcases h.tX (Ϝ.1 hk).1 with rfl| ⟨h1,h2⟩ | ⟨i,hi,rfl⟩ | ⟨rfl,hc⟩
 ·obtain⟨x,hx,V⟩:=h.main;rw[hk] at hx;have hx:=(ϟ hx);unfold gD at V;cases e:G.mp with
  |spawn=>rw[e] at V;obtain⟨M,aR,_,T,_⟩:=V;exact(vw hx T).elim
  |walk f aD=>rw[e] at V;obtain⟨M,aR,y',_,T,_⟩:=V;exact(vw hx T.2.2.2).elim
  |dp f aD=>rw[e] at V;obtain⟨M,aR,y',z',_,T,_⟩:=V;rw[T] at hx;exact(yh (pS hx).1).elim
 ·have:=h.old k _ h1 h2 hk;exact(this.status.elim (λe=>by cases e) λe=>by cases e)
 ·obtain⟨x,hx,V⟩:=h.wk i hi;rw[hk] at hx;have hx:=(ϟ hx);unfold WSit at V;cases e:G.st i with
  |no=>rw[e] at V;exact V.elim
  |lj=>rw[e] at V;obtain⟨M,aR,_,T,_⟩:=V;exact(vw hx T).elim
  |jj=>rw[e] at V;obtain⟨M,aR,_,T,_⟩:=V;exact(vw hx T).elim
  |jD=>rw[e] at V;obtain⟨M,aR,y',z',ha,T,hn,hw⟩:=V;rw[T] at hx;obtain⟨e1,e2,e3⟩:=pS hx;exact⟨i,M,aR,y',hi,rfl,e,(JZ e1).2,e2,hn,ha,e3,hw⟩
  |jg=>rw[e] at V;obtain⟨M,aR,y',z',ha,T,hw⟩:=V;rw[T] at hx;exact absurd (JZ (pS hx).1).1 (Θ aw)
  |quit=>rw[e] at V;rw[<-hx] at V;exact(V.2.status.elim (λe=>by cases e) λe=>by cases e)
 ·obtain⟨x,hx,V⟩:=h.cl hc;rw[hk] at hx;have hx:=(ϟ hx);unfold CSit at V;cases e:G.cp with
  |no=>rw[e] at V;exact V.elim
  |walk r=>rw[e] at V;obtain⟨M,aR,_,T,_⟩:=V;exact(vw hx T).elim
  |dp r=>rw[e] at V;obtain⟨r',M,aR,y',z',_,_,T,_⟩:=V;rw[T] at hx;exact(yh (pS hx).1).elim
  |quit=>rw[e] at V;rw[<-hx] at V;exact(V.2.status.elim (λe=>by cases e) λe=>by cases e)
def FI.SJ(h:FI X wb gs w t G){g:ϐ}{sh:CommShape}(hk:gs[k]?=J (Ú g #[ć X.cL v υ] sh)):
 ∃i M aR y,i<G.j/\k=X.N0+i/\G.st i=.jg/\v=.bool D/\sh=.send/\G.act k=J ⟨M,y,aR⟩/\(∀v,ϩ g v=ϩ y v)/\∃m,ĩ X.P m (ϩ y L):=by
 have aw:=h.neq;rcases h.tX (Ϝ.1 hk).1 with rfl| ⟨h1,h2⟩ | ⟨i,hi,rfl⟩ | ⟨rfl,hc⟩
 ·obtain⟨x,hx,V⟩:=h.main;rw[hk] at hx;have hx:=(ϟ hx);unfold gD at V;cases e:G.mp with
  |spawn=>rw[e] at V;obtain⟨M,aR,_,T,_⟩:=V;exact(vw hx T).elim
  |walk f aD=>rw[e] at V;obtain⟨M,aR,y',_,T,_⟩:=V;exact(vw hx T.2.2.2).elim
  |dp f aD=>rw[e] at V;obtain⟨M,aR,y',z',_,T,_⟩:=V;rw[T] at hx;exact(yh (pS hx).1).elim
 ·have:=h.old k _ h1 h2 hk;exact(this.status.elim (λe=>by cases e) λe=>by cases e)
 ·obtain⟨x,hx,V⟩:=h.wk i hi;rw[hk] at hx;have hx:=(ϟ hx);unfold WSit at V;cases e:G.st i with
  |no=>rw[e] at V;exact V.elim
  |lj=>rw[e] at V;obtain⟨M,aR,_,T,_⟩:=V;exact(vw hx T).elim
  |jj=>rw[e] at V;obtain⟨M,aR,_,T,_⟩:=V;exact(vw hx T).elim
  |jD=>rw[e] at V;obtain⟨M,aR,y',z',ha,T,hn,hw⟩:=V;rw[T] at hx;exact absurd (JZ (pS hx).1).1 aw
  |jg=>rw[e] at V;obtain⟨M,aR,y',z',ha,T,hw⟩:=V;rw[T] at hx;obtain⟨e1,e2,e3⟩:=pS hx;exact⟨i,M,aR,y',hi,rfl,e,(JZ e1).2,e2,ha,e3,hw⟩
  |quit=>rw[e] at V;rw[<-hx] at V;exact(V.2.status.elim (λe=>by cases e) λe=>by cases e)
 ·obtain⟨x,hx,V⟩:=h.cl hc;rw[hk] at hx;have hx:=(ϟ hx);unfold CSit at V;cases e:G.cp with
  |no=>rw[e] at V;exact V.elim
  |walk r=>rw[e] at V;obtain⟨M,aR,_,T,_⟩:=V;exact(vw hx T).elim
  |dp r=>rw[e] at V;obtain⟨r',M,aR,y',z',_,_,T,_⟩:=V;rw[T] at hx;exact(yh (pS hx).1).elim
  |quit=>rw[e] at V;rw[<-hx] at V;exact(V.2.status.elim (λe=>by cases e) λe=>by cases e)
def XM(h:FI X wb gs w t G)(hy:gs[k]?=J y)(aw:ť y X.cN U≠ []):k=0/\∃f aD,G.mp=.dp f aD:=by
 have rU:=h.neq;rcases h.tX (Ϝ.1 hy).1 with rfl| ⟨h1,h2⟩ | ⟨i,hi,rfl⟩ | ⟨rfl,hc⟩
 ·refine⟨rfl,?_⟩;obtain⟨x,hx,V⟩:=h.main;rw[hy] at hx;obtain rfl:=ϟ hx;unfold gD at V;cases e:G.mp with
  |spawn=>rw[e] at V;obtain⟨M,aR,_,T,_⟩:=V;exact absurd (Ģ (by rw[T];simp) _ _) aw
  |walk f aD=>rw[e] at V;obtain⟨M,aR,y',_,T,_⟩:=V;exact absurd (Ģ (by rw[T.2.2.2];simp) _ _) aw
  |dp f aD=>exact⟨f,aD,rfl⟩
 ·have:=h.old k _ h1 h2 hy;exact absurd (Ģ (by rcases this.status with e|e<;>rw[e]<;>simp) _ _) aw
 ·exfalso;rcases h.kinds hy with e| ⟨n,e⟩ | ⟨g,υ,_,e⟩ | ⟨g,υ,e⟩ | ⟨g,v,υ,_,_,e⟩ | ⟨g,v,υ,_,e⟩
  ·exact aw (Ģ (by rw[e];simp) _ _)
  ·exact aw (Ģ (by rcases e.status with e|e<;>rw[e]<;>simp) _ _)
  ·
   obtain⟨x,hx,V⟩:=h.wk i hi;rw[hy] at hx;obtain rfl:=ϟ hx;unfold WSit at V;cases es:G.st i with
   |no=>rw[es] at V;exact V.elim
   |lj=>rw[es] at V;obtain⟨M,aR,_,T,_⟩:=V;exact vw e.symm T
   |jj=>rw[es] at V;obtain⟨M,aR,_,T,_⟩:=V;exact vw e.symm T
   |jD=>rw[es] at V;obtain⟨M,aR,y',z',_,T,_⟩:=V;rw[T] at e;exact yh (pS e).1
   |jg=>rw[es] at V;obtain⟨M,aR,y',z',_,T,_⟩:=V;rw[T] at e;exact yh (pS e).1
   |quit=>rw[es] at V;rw[e] at V;exact(V.2.status.elim (λe=>by cases e) λe=>by cases e)
  ·rw[e,Afe,if_neg rU] at aw;exact aw rfl
  ·rw[e,Aff] at aw;exact aw rfl
  ·rw[e,Aff] at aw;exact aw rfl
 ·exfalso;obtain⟨x,hx,V⟩:=h.cl hc;rw[hy] at hx;obtain rfl:=ϟ hx;unfold CSit at V;cases e:G.cp with
  |no=>rw[e] at V;exact V.elim
  |walk r=>rw[e] at V;obtain⟨M,aR,_,T,_⟩:=V;exact aw (Ģ (by rw[T];simp) _ _)
  |dp r=>rw[e] at V;obtain⟨r',M,aR,y',z',_,_,T,_⟩:=V;rw[T,Afe,if_neg rU] at aw;exact aw rfl
  |quit=>rw[e] at V;exact aw (Ģ (by rcases V.2.status with e|e<;>rw[e]<;>simp) _ _)
def XL(h:FI X wb gs w t G)(hy:gs[k]?=J y)(aw:ť y X.cL U≠ []):k=X.N0+X.n/\∃r,G.cp=.dp r:=by
 have rU:=h.neq;rcases h.kinds hy with e| ⟨n,e⟩ | ⟨g,υ,_,e⟩ | ⟨g,υ,e⟩ | ⟨g,v,υ,_,_,e⟩ | ⟨g,v,υ,_,e⟩
 ·exact absurd (Ģ (by rw[e];simp) _ _) aw
 ·exact absurd (Ģ (by rcases e.status with e|e<;>rw[e]<;>simp) _ _) aw
 ·rw[e,Afe,if_neg (Θ rU)] at aw;exact absurd rfl aw
 ·rcases h.tX (Ϝ.1 hy).1 with rfl| ⟨h1,h2⟩ | ⟨i,hi,rfl⟩ | ⟨rfl,hc⟩
  ·exfalso;obtain⟨x,hx,V⟩:=h.main;rw[hy] at hx;obtain rfl:=ϟ hx;unfold gD at V;cases em:G.mp with
   |spawn=>rw[em] at V;obtain⟨M,aR,_,T,_⟩:=V;exact vw e.symm T
   |walk f aD=>rw[em] at V;obtain⟨M,aR,y',_,T,_⟩:=V;exact vw e.symm T.2.2.2
   |dp f aD=>rw[em] at V;obtain⟨M,aR,y',z',_,T,_⟩:=V;rw[T] at e;exact rU (ane (pS e).1).symm
  ·exfalso;have:=h.old k _ h1 h2 hy;rw[e] at this;exact(this.status.elim (λe=>by cases e) λe=>by cases e)
  ·exfalso;obtain⟨x,hx,V⟩:=h.wk i hi;rw[hy] at hx;obtain rfl:=ϟ hx;unfold WSit at V;cases es:G.st i with
   |no=>rw[es] at V;exact V.elim
   |lj=>rw[es] at V;obtain⟨M,aR,_,T,_⟩:=V;exact vw e.symm T
   |jj=>rw[es] at V;obtain⟨M,aR,_,T,_⟩:=V;exact vw e.symm T
   |jD=>rw[es] at V;obtain⟨M,aR,y',z',_,T,_⟩:=V;rw[T] at e;exact yh (pS e).1
   |jg=>rw[es] at V;obtain⟨M,aR,y',z',_,T,_⟩:=V;rw[T] at e;exact yh (pS e).1
   |quit=>rw[es] at V;rw[e] at V;exact(V.2.status.elim (λe=>by cases e) λe=>by cases e)
  ·refine⟨rfl,?_⟩;obtain⟨x,hx,V⟩:=h.cl hc;rw[hy] at hx;obtain rfl:=ϟ hx;unfold CSit at V;cases ec:G.cp with
   |no=>rw[ec] at V;exact V.elim
   |walk r=>rw[ec] at V;obtain⟨M,aR,_,T,_⟩:=V;exact(vw e.symm T).elim
   |dp r=>exact⟨r,rfl⟩|quit=>rw[ec] at V;rw[e] at V;exact(V.2.status.elim (λe=>by cases e) λe=>by cases e)
 ·rw[e,Aff] at aw;exact absurd rfl aw
 ·rw[e,Aff] at aw;exact absurd rfl aw
def P0(h:FI X wb gs w t G)(hy:gs[k]?=J y)(aw:m∈ť y X.cN D):m=0/\∃g v υ,y=Ú g #[ć X.cN v υ] .send:=by
 have rU:=h.neq;rcases h.kinds hy with e| ⟨n,e⟩ | ⟨g,υ,_,e⟩ | ⟨g,υ,e⟩ | ⟨g,v,υ,_,_,e⟩ | ⟨g,v,υ,_,e⟩
 ·rw[Ģ (by rw[e];simp)] at aw;cases aw
 ·rw[Ģ (by rcases e.status with e|e<;>rw[e]<;>simp)] at aw;cases aw
 ·rw[e,Afg] at aw;cases aw
 ·rw[e,Afg] at aw;cases aw
 ·rw[e,Ź,if_pos rfl] at aw;exact⟨by simpa using aw,g,v,υ,e⟩
 ·rw[e,Ź,if_neg rU] at aw;cases aw
def XN(h:FI X wb gs w t G)(hy:gs[k]?=J y)(aw:m∈ť y X.cL D):m=0/\∃g v υ,y=Ú g #[ć X.cL v υ] .send:=by
 have rU:=h.neq;rcases h.kinds hy with e| ⟨n,e⟩ | ⟨g,υ,_,e⟩ | ⟨g,υ,e⟩ | ⟨g,v,υ,_,_,e⟩ | ⟨g,v,υ,_,e⟩
 ·rw[Ģ (by rw[e];simp)] at aw;cases aw
 ·rw[Ģ (by rcases e.status with e|e<;>rw[e]<;>simp)] at aw;cases aw
 ·rw[e,Afg] at aw;cases aw
 ·rw[e,Afg] at aw;cases aw
 ·rw[e,Ź,if_neg (Θ rU)] at aw;cases aw
 ·rw[e,Ź,if_pos rfl] at aw;exact⟨by simpa using aw,g,v,υ,e⟩
def FI.AX(h:FI X wb gs w t G){aY:Array ϐ}{G':Gh}(aN:aY.size=gs.size)(hj:G'.j=G.j)(br:G'.cp.ik=G.cp.ik)
 (tb:(∃f aD,G'.mp=.walk f aD\/G'.mp=.dp f aD)↔∃f aD,G.mp=.walk f aD\/G.mp=.dp f aD)(eW:∀i,i<X.n->(G'.st i=.no↔G.st i=.no))
 (Ox:∃x,aY[0]?=J x/\gD X G' x)(xV:∀i,i<G.j->∃x,aY[X.N0+i]?=J x/\WSit X G' i x)(gJ:G.cp.ik=U->∃x,aY[X.N0+X.n]?=J x/\CSit X G' x)
 (hold:∀g,0<g->g<X.N0->aY[g]?=gs[g]?/\G'.q g=G.q g/\G'.act g=H)(EE:∀g,gs.size<=g->G'.act g=H)(dA:oq X G')(cG:ou X G')
 (Ae:(∃f aD,G'.mp=.dp f aD)->∀i,i<X.n->G'.st i≠ .jD)(aij:(∃r,G'.cp=.dp r)->∀i,i<X.n->G'.st i≠ .jg)(aik:(∃f aD,G'.mp=.dp f aD)->G'.closed=U)
 (vE:WT X.cL X.cN w' (t++u) G'.act)(Ix:∃s,w'.heap[X.cL]?=J (.chan 0 #[] U s s U))(zN:∃s,w'.heap[X.cN]?=J (.chan 0 #[] G'.closed s s U))(hb:Base wb w')
 (hu:∀op∈u,op.act.touch? =H/\op.g<gs.size)(Ws:∀i,i<X.n->G'.st i=.quit->uM (t++u) (X.N0+i) (X.N0+X.n))(U1:G'.closed=G.closed):FI X wb aY w' (t++u) G':=by
 have old:∀ {k a},Ý (t++u) k=J a->Ý t k=J a/\(t++u).g? k= t.g? k:=by
  intro k a ha;obtain⟨op,ag,cH⟩:=ĕ ha;rcases Ă ag with⟨_,bL⟩ | ⟨_,dW⟩
  ·exact⟨by rw[ġ bL];exact cH,by simp[Û,ag,bL]⟩
  ·rw[(hu op dW).1] at cH;cases cH
 refine⟨by rw[aN,hj,br];exact h.size,h.n0,by rw[hj];exact h.jn,by rw[br,hj];exact h.jc,by rw[tb,br];exact h.mc,λi hi=>by rw[eW i hi,hj];exact h.vU i hi,Ox,by rw[hj];exact xV,by rw[br];exact gJ,
  λg x h1 h2 hx=>?_,λg h1 h2=>(hold g h1 h2).2.2,λg hg=>EE g (by rw[aN] at hg;exact hg),dA,cG,Ae,aij,aik,vE,Ix,zN,h.neq,hb,λk a ha hm g hg ao=>?_,λk g hg=>?_,Ws,λhc k a ha=>?_,λhc=>?_⟩
 ·obtain⟨e1,e2,_⟩:=hold g h1 h2;rw[e2];rw[e1] at hx;exact h.old g x h1 h2 hx
 ·obtain⟨a1,a2⟩:=old ha;rw[a2] at hg;exact(h.yk k a a1 hm g hg ao).app u
 ·rw[aN];unfold Û at hg;obtain⟨op,ag,e⟩:=ď.1 hg;rcases Ă ag with⟨_,bL⟩ | ⟨_,dW⟩
  ·exact h.uW k g (by simp[Û,bL,e])
  ·rw[<-e];exact(hu op dW).2
 ·rw[U1] at hc;exact h.AM hc k a (old ha).1
 ·rw[U1] at hc;obtain⟨c,υ,c1,c2,c3,c4⟩:=h.DW hc;refine⟨c,υ,by rw[Afa (Afb c1)];exact c1,c2,c3,λk a ha g hg ky=>?_⟩;obtain⟨a1,a2⟩:=old ha;rw[a2] at hg;exact(c4 k a a1 g hg ky).app u
end
end Go.Sim
namespace Go.Sim
open Go Go.Conc
open Go.ConcN (sumTo upd sumTo_upd upd_ne upd_same sumTo_congr)
section
variable {X:Pm}{wb:N}{gs:Array ϐ}{w:N}{t:ε}{G:Gh}
def gD.congr{G':Gh}(h1:G'.mp=G.mp)(hj:G'.j=G.j)(h2:G'.act 0=G.act 0)(h3:G'.tr 0=G.tr 0)(h:gD X G x):gD X G' x:=by unfold gD at *;rw[h1,hj,h2,h3];exact h
def WSit.congr{G':Gh}(h1:G'.st i=G.st i)(h2:G'.act (X.N0+i)=G.act (X.N0+i))(h3:G'.tr (X.N0+i)=G.tr (X.N0+i))(h4:G'.q (X.N0+i)=G.q (X.N0+i))(h:WSit X G i x):WSit X G' i x:=by unfold WSit at *;rw[h1,h2,h3,h4];exact h
def CSit.congr{G':Gh}(h1:G'.cp=G.cp)(h2:G'.act (X.N0+X.n)=G.act (X.N0+X.n))(h3:G'.tr (X.N0+X.n)=G.tr (X.N0+X.n))(h4:G'.q (X.N0+X.n)=G.q (X.N0+X.n))(h:CSit X G x):CSit X G' x:=by unfold CSit at *;rw[h1,h2,h3,h4];exact h
def one_set:(gs.setIfInBounds b y)[i]?=if i=b/\b<gs.size then J y else gs[i]?:=by
 by_cases hb:i=b
 ·subst hb;by_cases ao:i<gs.size
  ·simp[ao]
  ·rw[if_neg (λe=>ao e.2),ę (by simpa using ao),ę (by omega)]
 ·rw[Ě (Θ hb),if_neg (λe=>hb e.1)]
def ni{a:Nat}:((gs.setIfInBounds a x).setIfInBounds b y)[i]?=if i=b/\b<gs.size then J y else if i=a/\a<gs.size then J x else gs[i]?:=by rw[one_set,one_set,Ĕ]
def MZ{a s:Nat}(h1:x1.g=a/\x1.act=.send c s)(h2:x2.g=b/\x2.act=.recv c r cap)(h3:x3.g=a/\x3.act=.sendDone c s)(h4:x4.g=b/\x4.act=.recvDone c r)(hc:c<B)(ha:a<Ψ)(hb:b<Ψ):
 (∀op∈#[x1,x2,x3,x4],op.act.touch? =H/\op.act.low B/\op.act≠ .mark .disable/\op.act≠ .mark .enable)/\∀op∈#[x1,x2,x3,x4],op.act.touch? =H/\op.g<Ψ:=by
 refine⟨λop ag=>?_,λop ag=>?_⟩<;>simp only[ê,Ϡ,Á,or_false] at ag<;>rcases ag with rfl|rfl|rfl|rfl
 ·rw[h1.2];exact⟨rfl,hc,by simp,by simp⟩
 ·rw[h2.2];exact⟨rfl,hc,by simp,by simp⟩
 ·rw[h3.2];exact⟨rfl,hc,by simp,by simp⟩
 ·rw[h4.2];exact⟨rfl,hc,by simp,by simp⟩
 ·rw[h1.2,h1.1];exact⟨rfl,ha⟩
 ·rw[h2.2,h2.1];exact⟨rfl,hb⟩
 ·rw[h3.2,h3.1];exact⟨rfl,ha⟩
 ·rw[h4.2,h4.1];exact⟨rfl,hb⟩
def Qs(w:N)(c cap:Nat)(buf:Array z)(closed:Bool)(s r:Nat)(tm:Bool):(w.setChan c cap buf closed s r tm).heap.size=w.heap.size/\(∀b,b≠c->(w.setChan c cap buf closed s r tm).heap[b]?=w.heap[b]?)/\(c<w.heap.size->(w.setChan c cap buf closed s r tm).heap[c]?=J (.chan cap buf closed s r tm)):=by refine⟨by simp[World.setChan],λb hb=>?_,λhc=>by simp[World.setChan,hc]⟩;simp only[World.setChan];rw[Ě (Θ hb)]
def CM(st:Nat->WS)(hi:i<n)(s:WS):sumTo n (λa=>(upd st i s a).wt)+(st i).wt=sumTo n (λa=>(st a).wt)+s.wt:=sumTo_upd st s WS.wt hi
def CW(st:Nat->WS)(hi:i<n)(s:WS):sumTo n (λa=>(upd st i s a).q)+(st i).q=sumTo n (λa=>(st a).q)+s.q:=sumTo_upd st s WS.q hi
def FI.uO(h:FI X wb gs w t G)(i:Nat):(X.N0+i==0)=U:=by have:=h.n0;simp;omega
def am2(h:FI X wb gs w t G)(hk:k≠0)(h0:gs[0]?=J (Ú y #[é X.cN υ] (.recv D))):Ġ (gs.setIfInBounds k ph) X.cN U=[(0,0)]:=by
 rw[partners_one (j:=0) (g:=Ú y #[é X.cN υ] (.recv D)) (stand_get (Θ hk) h0) λj x hj hx=>?_]
 ·rw[Afe,if_pos rfl];rfl
 ·rcases Ŋ gs k j x hx with⟨_,rfl⟩ | ⟨_,hx⟩
  ·exact ŋ _ _
  ·apply ä;intro aw;exact hj (XM h hx aw).1
def am1(h:FI X wb gs w t G)(hp:¬ ∃f aD,G.mp=.dp f aD):Ġ (gs.setIfInBounds k ph) X.cN U=[]:=by
 refine Afk λj x hx=>?_;rcases Ŋ gs k j x hx with⟨_,rfl⟩ | ⟨_,hx⟩
 ·exact ŋ _ _
 ·apply ä;intro aw;exact hp (XM h hx aw).2
def am0(h:FI X wb gs w t G)(hk:k≠X.N0+X.n)(h0:gs[X.N0+X.n]?=J (Ú y #[é X.cL υ] (.recv U))):Ġ (gs.setIfInBounds k ph) X.cL U=[(X.N0+X.n,0)]:=by
 rw[partners_one (j:=X.N0+X.n) (g:=Ú y #[é X.cL υ] (.recv U)) (stand_get (Θ hk) h0) λj x hj hx=>?_]
 ·rw[Afe,if_pos rfl];rfl
 ·rcases Ŋ gs k j x hx with⟨_,rfl⟩ | ⟨_,hx⟩
  ·exact ŋ _ _
  ·apply ä;intro aw;exact hj (XL h hx aw).1
def amZ(h:FI X wb gs w t G)(hp:¬ ∃r,G.cp=.dp r):Ġ (gs.setIfInBounds k ph) X.cL U=[]:=by
 refine Afk λj x hx=>?_;rcases Ŋ gs k j x hx with⟨_,rfl⟩ | ⟨_,hx⟩
 ·exact ŋ _ _
 ·apply ä;intro aw;exact hp (XL h hx aw).2
def pz(X:Pm)(wb:N)(gs:Array ϐ)(w:N)(sl:Option (Nat×Nat))(t:ε)(G:Gh)(k:Nat):Prop:=
 ∃aY w' u G',runT X.P (ϫ gs w sl) k=(.next (ϫ aY w' sl),u)/\FI X wb aY w' (t++u) G'/\G'.mu X<G.mu X
def YC(g:ϐ)(v:z):(ϩ g v).status=.running:=rfl
def rB.refl(h:x.status=.running):rB x x:=⟨rfl,rfl,rfl,h⟩
def aoQ(h:FI X wb gs w t G)(sl:Option (Nat×Nat))(hi:i<G.j)(eW:G.st i=.lj)(hx:gs[X.N0+i]?=J x)(ha:G.act (X.N0+i)=J ⟨M,x,aR⟩)
 (hn:X.cX i=D)(hS:GC X X.cN (X.val i) (λM g w=>Walk X.P U (W2 X) M g w) M x w)(hp:G.mp=.dp f aD):pz X wb gs w sl t G (X.N0+i):=by
 obtain⟨_,_,⟨υ,dH⟩,td⟩:=hS;have kV:=h.n0;have sU:=h.jn;obtain⟨y0,h0,ef⟩:=h.main;unfold gD at ef;rw[hp] at ef;obtain⟨M0,v0,y,z0,rJ,rfl,hR⟩:=ef;have cG:=h.aD;unfold ou at cG;rw[hp] at cG;obtain⟨g1,g2,g3⟩:=cG;have Ac:i ∉ aD:=λe=>by have:=((g3 i).1 e).2.2;rw[eW] at this;cases this
 obtain⟨f',rfl⟩:∃f',f=f'+1:=by
  have h1:=CN X.n (i::aD) (List.nodup_cons.2 ⟨Ac,g1⟩) λa ha=>by
   rcases Ϡ.1 ha with rfl|ha
   ·omega
   ·exact((g3 a).1 ha).1
  simp only[List.length_cons] at h1;exact⟨f - 1,by omega⟩
 obtain⟨s,hc⟩:=h.lX;have eV:=h.AN ⟨_,_,hp⟩;rw[eV] at hc;have bh:=crowd_send_meets (P:=X.P) (sl:=sl) hx (by rw[h.uO];exact dH) hc (show 0≠X.N0+i by omega) h0 (am2 h (by omega) h0)
 rw[oW,Aem] at bh;have iV:0<gs.size:=(Ϝ.1 h0).1
 have nM:X.N0+i<gs.size:=(Ϝ.1 hx).1;obtain⟨qy,qz⟩:=MZ (a:=X.N0+i) (b:=0) (c:=X.cN) (s:=s) (r:=s) (cap:=0) (B:=w.heap.size) (Ψ:=gs.size)
  (x1:={g:=X.N0+i,fn:=x.frame.fn,pos:=x.frame.place,act:=.send X.cN s}) (x2:={g:=0,fn:=y.frame.fn,pos:=y.frame.place,act:=.recv X.cN s 0})
  (x3:={g:=X.N0+i,fn:=x.frame.fn,pos:=x.frame.place,act:=.sendDone X.cN s}) (x4:={g:=0,fn:=y.frame.fn,pos:=y.frame.place,act:=.recvDone X.cN s}) ⟨rfl,rfl⟩ ⟨rfl,rfl⟩ ⟨rfl,rfl⟩ ⟨rfl,rfl⟩ h.wt.hN nM iV
 obtain⟨c1,c2,c3⟩:=Qs w X.cN 0 #[] U (s+1) (s+1) U;have iA:=h.wt.keep 0 _ rJ;have rS:=h.wt.keep _ _ ha;obtain⟨_,_,z1,_,_,eT⟩:=hR w iA;have Cv:=h.wt.mute (w':=w.setChan X.cN 0 #[] U (s+1) (s+1) U) qy c1 (λb _ hb=>c2 b hb) rfl rfl rfl
 have hw0:=eT i (by omega) hn Ac;obtain⟨T0,va⟩:=(hw0.rely (Cv.keep 0 _ rJ|>λk=>(⟨by rw[c1];exact ϊ _,λb hb=>c2 b (h.wt.low 0 _ rJ b hb).2.2,rfl,rfl,rfl⟩:bR M0 w (w.setChan X.cN 0 #[] U (s+1) (s+1) U)))).tree;obtain⟨Ti,Ij⟩:=(td.rely (⟨by rw[c1];exact ϊ _,λb hb=>c2 b (h.wt.low _ _ ha b hb).2.2,rfl,rfl,rfl⟩:bR M w (w.setChan X.cN 0 #[] U (s+1) (s+1) U))).tree;have Fo:=(Cv.again rJ (ϩ y (ý D (X.val i) D))).again (g:=X.N0+i) (j:=⟨M,x,aR⟩) (by rw[ak _ _ (by omega)];exact ha) (ϩ x L);refine⟨_,_,_,{G with st:=upd G.st i .jj,mp:=.walk f' (aD++ [i]),act:=ft (ft G.act 0 (J ⟨M0,ϩ y (ý D (X.val i) D),w.setChan X.cN 0 #[] U (s+1) (s+1) U⟩)) (X.N0+i) (J ⟨M,ϩ x L,w.setChan X.cN 0 #[] U (s+1) (s+1) U⟩),tr:=upd (upd G.tr 0 T0) (X.N0+i) Ti},bh,?_,?_⟩
 ·refine h.AX (by simp) rfl rfl ?_ (λi' bG=>?_) ?_ (λi' bG=>?_) (λhc=>?_) (λg h1 h2=>⟨?_,rfl,?_⟩) (λg hg=>?_) ?_ ?_ (λ⟨_,_,e⟩=>by cases e) (λT i' bG=>?_) (λ⟨_,_,e⟩=>by cases e) Fo ?_ ?_ ⟨by rw[c1];exact h.base.size,h.base.tape,h.base.os,h.base.e⟩ qz (λi' bG hq=>?_) rfl
  ·exact⟨λ_=>⟨_,_,.inr hp⟩,λ_=>⟨_,_,.inl rfl⟩⟩
  ·by_cases e:i'=i
   ·subst e;simp only[upd_same];rw[eW];simp
   ·simp only[upd_ne _ _ e]
  ·refine⟨ϩ y (ý D (X.val i) D),?_,?_⟩
   ·rw[ni,if_neg (by omega),if_pos ⟨rfl,iV⟩];rfl
   ·exact⟨M0,w.setChan X.cN 0 #[] U (s+1) (s+1) U,ϩ y (ý D (X.val i) D),by simp only[ak _ _ (show 0≠X.N0+i by omega),fY],rB.refl rfl,by simp only[upd_ne _ _ (show 0≠X.N0+i by omega),upd_same];exact va⟩
  ·by_cases e:i'=i
   ·subst e;refine⟨ϩ x L,?_,?_⟩
    ·rw[ni,if_pos ⟨rfl,nM⟩];rfl
    ·unfold WSit;simp only[upd_same,fY];exact⟨M,_,rfl,rfl,Ij⟩
   ·obtain⟨y',fp,cI⟩:=h.wk i' bG;refine⟨y',by rw[ni,if_neg (by omega),if_neg (by omega)];exact fp,?_⟩;refine WSit.congr (G:=G) (by exact upd_ne _ _ e) ?_ ?_ (by exact rfl) cI
    ·simp only[ak _ _ (show X.N0+i'≠X.N0+i by omega),ak _ _ (show X.N0+i'≠0 by omega)]
    ·simp only[upd_ne _ _ (show X.N0+i'≠X.N0+i by omega),upd_ne _ _ (show X.N0+i'≠0 by omega)]
  ·obtain⟨y',fp,cI⟩:=h.cl hc;refine⟨y',by rw[ni,if_neg (by omega),if_neg (by omega)];exact fp,?_⟩;refine CSit.congr (G:=G) (by exact rfl) ?_ ?_ (by exact rfl) cI
   ·simp only[ak _ _ (show X.N0+X.n≠X.N0+i by omega),ak _ _ (show X.N0+X.n≠0 by omega)]
   ·simp only[upd_ne _ _ (show X.N0+X.n≠X.N0+i by omega),upd_ne _ _ (show X.N0+X.n≠0 by omega)]
  ·rw[ni,if_neg (by omega),if_neg (by omega)]
  ·simp only[ak _ _ (show g≠X.N0+i by omega),ak _ _ (show g≠0 by omega)];exact h.oX g h1 h2
  ·simp only[ak _ _ (show g≠X.N0+i by omega),ak _ _ (show g≠0 by omega)];exact h.nG g hg
  ·have hq:=CW G.st (show i<X.n by omega) .jj;have e1:(G.st i).q=0:=(by rw[eW];rfl);have e2:WS.q .jj=0:=rfl;have dA:=h.cnt;unfold oq at dA |-
   simp only;rw[show sumTo X.n (λa=>(upd G.st i .jj a).q)=sumTo X.n (λa=>(G.st a).q) by omega];exact dA
  ·refine⟨List.nodup_append.2 ⟨g1,by simp,λa IB b hb=>?_⟩,by simp only[List.length_append,ź];omega,λa=>?_⟩
   ·simp only[Ô] at hb;subst hb
    exactλe=>Ac (e▸IB)
   ·by_cases e:a=i
    ·subst e;simp only[ĉ,Ô,or_true,upd_same,true_iff];exact⟨by omega,hn,rfl⟩
    ·simp only[ĉ,Ô,e,or_false,upd_ne _ _ e];exact g3 a
  ·by_cases e:i'=i
   ·subst e;simp only[upd_same];simp
   ·simp only[upd_ne _ _ e];exact h.yj T i' bG
  ·obtain⟨s',e'⟩:=h.lU;exact⟨s',by rw[c2 _ h.neq];exact e'⟩
  ·exact⟨s+1,by rw[c3 h.wt.hN];unfold Gh.closed at eV |-;simp only;rw[eV]⟩
  ·have oQ:G.st i'=.quit:=by
    by_cases e:i'=i
    ·subst e;simp only[upd_same] at hq;cases hq
    ·simp only[upd_ne _ _ e] at hq;exact hq
   exact(h.kq i' bG oQ).app λop ag _=>(qz op ag).1
 ·have hm:=CM G.st (show i<X.n by omega) .jj;have e1:(G.st i).wt=5:=by rw[eW];rfl
  have e2:WS.wt .jj=3:=rfl;unfold Gh.mu;simp only[hp,MP.wt];omega
def FI.PZ(h:FI X wb gs w t G)(hi:i<X.n)(V:G.st i≠ .quit):G.closed=U:=by apply ä;intro hc;exact V (h.aae (by simpa using hc) i hi)
def Ps{w:N}(c1:w'.heap.size=w.heap.size)(c2:∀b,b≠c->w'.heap[b]?=w.heap[b]?)(hM:∀b,M.has b->b≠c)(ht:w'.tape=w.tape)(ho:w'.os=w.os)(hp:w'.output=w.output):bR M w w':=
 ⟨by rw[c1];exact ϊ _,λb hb=>c2 b (hM b hb),ht,ho,hp⟩
def aoR(h:FI X wb gs w t G)(sl:Option (Nat×Nat))(hi:i<G.j)(eW:G.st i=.lj)(hx:gs[X.N0+i]?=J x)(ha:G.act (X.N0+i)=J ⟨M,x,aR⟩)
 (hn:X.cX i=D)(hS:GC X X.cN (X.val i) (λM g w=>Walk X.P U (W2 X) M g w) M x w)(hp:¬ ∃f aD,G.mp=.dp f aD):pz X wb gs w sl t G (X.N0+i):=by
 obtain⟨_,_,⟨υ,dH⟩,td⟩:=hS;have kV:=h.n0;have sU:=h.jn;have eV:=h.PZ (show i<X.n by omega) (by rw[eW];simp)
 obtain⟨s,hc⟩:=h.lX;rw[eV] at hc;have nM:X.N0+i<gs.size:=(Ϝ.1 hx).1
 have bh:=Afm (P:=X.P) (sl:=sl) hx (by rw[h.uO];exact dH) (λcc dg=>by
  simp only[ê,Ô] at dg;subst dg;exact ways_send_none hc (ϊ _) (am1 h hp))
 rw[oW] at bh;refine⟨_,_,_,{G with st:=upd G.st i .jD,act:=ft G.act (X.N0+i) (J ⟨M,x,w⟩)},bh,?_,?_⟩
 ·refine h.AX (by simp) rfl rfl Iff.rfl (λi' bG=>?_) ?_ (λi' bG=>?_) (λhc=>?_) (λg h1 h2=>⟨?_,rfl,?_⟩) (λg hg=>?_) ?_ ?_ (λe=>absurd e hp) (λT i' bG=>?_) (λe=>absurd e hp) (by simp only[ç];exact h.wt.again ha x) h.lU h.lX h.base (by simp) (λi' bG hq=>?_) rfl
  ·by_cases e:i'=i
   ·subst e;simp only[upd_same];rw[eW];simp
   ·simp only[upd_ne _ _ e]
  ·obtain⟨y,hy,V⟩:=h.main;refine⟨y,by rw[one_set,if_neg (by omega)];exact hy,?_⟩;exact gD.congr (G:=G) (by exact rfl) (by exact rfl) (by simp only[ak _ _ (show 0≠X.N0+i by omega)]) (by exact rfl) V
  ·by_cases e:i'=i
   ·subst e;refine⟨Ú x #[ć X.cN (X.val i') υ] .send,by rw[one_set,if_pos ⟨rfl,nM⟩],?_⟩;unfold WSit;simp only[upd_same,fY];exact⟨M,w,x,υ,rfl,rfl,hn,td⟩
   ·obtain⟨y',fp,cI⟩:=h.wk i' bG;refine⟨y',by rw[one_set,if_neg (by omega)];exact fp,?_⟩;exact WSit.congr (G:=G) (by exact upd_ne _ _ e) (by simp only[ak _ _ (show X.N0+i'≠X.N0+i by omega)]) (by exact rfl) (by exact rfl) cI
  ·obtain⟨y',fp,cI⟩:=h.cl hc;refine⟨y',by rw[one_set,if_neg (by omega)];exact fp,?_⟩;exact CSit.congr (G:=G) (by exact rfl) (by simp only[ak _ _ (show X.N0+X.n≠X.N0+i by omega)]) (by exact rfl) (by exact rfl) cI
  ·rw[one_set,if_neg (by omega)]
  ·simp only[ak _ _ (show g≠X.N0+i by omega)];exact h.oX g h1 h2
  ·simp only[ak _ _ (show g≠X.N0+i by omega)];exact h.nG g hg
  ·have hq:=CW G.st (show i<X.n by omega) .jD;have e1:(G.st i).q=0:=(by rw[eW];rfl);have e2:WS.q .jD=0:=rfl;have dA:=h.cnt;unfold oq at dA |-
   simp only;rw[show sumTo X.n (λa=>(upd G.st i .jD a).q)=sumTo X.n (λa=>(G.st a).q) by omega];exact dA
  ·have cG:=h.aD;unfold ou at cG |-;simp only;have IT:∀a,(upd G.st i .jD a).il=(G.st a).il:=by
    intro a;by_cases e:a=i
    ·subst e;rw[upd_same,eW];rfl
    ·rw[upd_ne _ _ e]
   simp only[IT];exact cG
  ·by_cases e:i'=i
   ·subst e;simp only[upd_same];simp
   ·simp only[upd_ne _ _ e];exact h.yj T i' bG
  ·rw[ç];by_cases e:i'=i
   ·subst e;simp only[upd_same] at hq;cases hq
   ·simp only[upd_ne _ _ e] at hq;exact h.kq i' bG hq
 ·have hm:=CM G.st (show i<X.n by omega) .jD;have e1:(G.st i).wt=5:=by rw[eW];rfl
  have e2:WS.wt .jD=4:=rfl;unfold Gh.mu;simp only;omega
def yM(X:Pm)(G:Gh)(i:Nat):Prop:=G.st i=.jj\/(G.st i=.lj/\X.cX i=U)
def yM.facts(h:yM X G i):(G.st i).q=0/\3<=(G.st i).wt/\G.st i≠ .no/\G.st i≠ .quit/\∀s:WS,s.il=D->(X.cX i=D/\(G.st i).il=D↔X.cX i=D/\s.il=D):=by
 rcases h with h| ⟨h,hn⟩<;>rw[h]
 ·exact⟨rfl,ϊ _,by simp,by simp,λs V=>by rw[V];exact Iff.rfl⟩
 ·refine⟨rfl,by decide,by simp,by simp,λs V=>by simp[hn]⟩
def agn(h:FI X wb gs w t G)(hd:yM X G i){s:WS}(V:s.il=D):ou X {G with st:=upd G.st i s}:=by
 have cG:=h.aD;obtain⟨_,_,_,_,hf⟩:=hd.facts;have key:∀a,(X.cX a=D/\(upd G.st i s a).il=D)↔(X.cX a=D/\(G.st a).il=D):=by
  intro a;by_cases e:a=i
  ·subst e;rw[upd_same];exact(hf s V).symm
  ·rw[upd_ne _ _ e]
 unfold ou at cG |-;simp only;cases hm:G.mp with
 |spawn=>
  rw[hm] at cG;intro a ha xK;have h1:=cG a ha xK;cases hp:(upd G.st i s a).il with
  |false=>rfl|true=>have:=(key a).1 ⟨xK,hp⟩;rw[h1] at this;exact absurd this.2 (by simp)
 |walk f aD=>rw[hm] at cG;exact⟨cG.1,cG.2.1,λa=>by rw[cG.2.2 a];exact and_congr_right λ_=>(key a).symm⟩
 |dp f aD=>rw[hm] at cG;exact⟨cG.1,cG.2.1,λa=>by rw[cG.2.2 a];exact and_congr_right λ_=>(key a).symm⟩
def aoP(h:FI X wb gs w t G)(sl:Option (Nat×Nat))(hi:i<G.j)(eW:yM X G i)(hx:gs[X.N0+i]?=J x)(ha:G.act (X.N0+i)=J ⟨M,x,aR⟩)
 (hS:W2 X M x w)(hp:¬ ∃r,G.cp=.dp r):pz X wb gs w sl t G (X.N0+i):=by
 obtain⟨_,_,⟨υ,dH⟩,td⟩:=hS;have kV:=h.n0;have sU:=h.jn;obtain⟨f1,f2,f3,f4,f5⟩:=eW.facts;obtain⟨s,hc⟩:=h.lU;have nM:X.N0+i<gs.size:=(Ϝ.1 hx).1
 have bh:=Afm (P:=X.P) (sl:=sl) hx (by rw[h.uO];exact dH) (λcc dg=>by
  simp only[ê,Ô] at dg;subst dg;exact ways_send_none hc (ϊ _) (amZ h hp))
 rw[oW] at bh;refine⟨_,_,_,{G with st:=upd G.st i .jg,act:=ft G.act (X.N0+i) (J ⟨M,x,w⟩)},bh,?_,?_⟩
 ·refine h.AX (by simp) rfl rfl Iff.rfl (λi' bG=>?_) ?_ (λi' bG=>?_) (λhc=>?_) (λg h1 h2=>⟨?_,rfl,?_⟩) (λg hg=>?_) ?_ (agn h eW rfl) (λe i' bG=>?_) (λT i' bG=>absurd T hp) (λe=>h.AN e) (by simp only[ç];exact h.wt.again ha x) h.lU h.lX h.base (by simp) (λi' bG hq=>?_) rfl
  ·by_cases e:i'=i
   ·subst e;simp only[upd_same];simp[f3]
   ·simp only[upd_ne _ _ e]
  ·obtain⟨y,hy,V⟩:=h.main;refine⟨y,by rw[one_set,if_neg (by omega)];exact hy,?_⟩;exact gD.congr (G:=G) (by exact rfl) (by exact rfl) (by simp only[ak _ _ (show 0≠X.N0+i by omega)]) (by exact rfl) V
  ·by_cases e:i'=i
   ·subst e;refine⟨Ú x #[ć X.cL (.bool D) υ] .send,by rw[one_set,if_pos ⟨rfl,nM⟩],?_⟩;unfold WSit;simp only[upd_same,fY];exact⟨M,w,x,υ,rfl,rfl,td⟩
   ·obtain⟨y',fp,cI⟩:=h.wk i' bG;refine⟨y',by rw[one_set,if_neg (by omega)];exact fp,?_⟩;exact WSit.congr (G:=G) (by exact upd_ne _ _ e) (by simp only[ak _ _ (show X.N0+i'≠X.N0+i by omega)]) (by exact rfl) (by exact rfl) cI
  ·obtain⟨y',fp,cI⟩:=h.cl hc;refine⟨y',by rw[one_set,if_neg (by omega)];exact fp,?_⟩;exact CSit.congr (G:=G) (by exact rfl) (by simp only[ak _ _ (show X.N0+X.n≠X.N0+i by omega)]) (by exact rfl) (by exact rfl) cI
  ·rw[one_set,if_neg (by omega)]
  ·simp only[ak _ _ (show g≠X.N0+i by omega)];exact h.oX g h1 h2
  ·simp only[ak _ _ (show g≠X.N0+i by omega)];exact h.nG g hg
  ·have hq:=CW G.st (show i<X.n by omega) .jg;have e2:WS.q .jg=0:=rfl;have dA:=h.cnt;unfold oq at dA |-
   simp only;rw[show sumTo X.n (λa=>(upd G.st i .jg a).q)=sumTo X.n (λa=>(G.st a).q) by omega];exact dA
  ·by_cases e2:i'=i
   ·subst e2;simp only[upd_same];simp
   ·simp only[upd_ne _ _ e2];exact h.nV e i' bG
  ·rw[ç];by_cases e:i'=i
   ·subst e;simp only[upd_same] at hq;cases hq
   ·simp only[upd_ne _ _ e] at hq;exact h.kq i' bG hq
 ·have hm:=CM G.st (show i<X.n by omega) .jg;have e2:WS.wt .jg=2:=rfl;unfold Gh.mu;simp only;omega
def heard(h:FI X wb gs w t G)(d:Nat)(hi:i<G.j)(EX:G.st i≠ .quit)(EU:G.st i≠ .no)(IT:∀a,(X.cX a=D/\(upd G.st i .quit a).il=D)↔(X.cX a=D/\(G.st a).il=D))
 (qt:G.cp=.dp (r+1)\/G.cp=.walk (r+1)){Mc:ay}{xg yg:ϐ}{xw yw:N}(ha:G.act (X.N0+i)=J ⟨M,xg,xw⟩)(Eo:G.act (X.N0+X.n)=J ⟨Mc,yg,yw⟩)
 (hq:ĩ X.P m x)(hy:y.status=.running)(hw:Walk X.P U (rC X r) Mc y w){s:Nat}(V:w.heap[X.cL]?=J (.chan 0 #[] U s s U))
 (h1:x1.g=X.N0+i/\x1.act=.send X.cL s)(h2:x2.g=X.N0+X.n/\x2.act=.recv X.cL s 0)(h3:x3.g=X.N0+i/\x3.act=.sendDone X.cL s)(h4:x4.g=X.N0+X.n/\x4.act=.recvDone X.cL s)
 {aY:Array ϐ}(aN:aY.size=gs.size)(Vh:aY[X.N0+i]?=J x)(Vi:aY[X.N0+X.n]?=J y)(hgo:∀k,k≠X.N0+i->k≠X.N0+X.n->aY[k]?=gs[k]?):
 ∃G',FI X wb aY ((w.at d).setChan X.cL 0 #[] U (s+1) (s+1) U) (t++#[x1,x2,x3,x4]) G'/\G'.mu X<G.mu X:=by
 have kV:=h.n0;have sU:=h.jn;have br:G.cp.ik=U:=by rcases qt with e|e<;>rw[e]<;>rfl
 have qu:=h.jc br;have eV:=h.PZ (show i<X.n by omega) EX
 have nM:X.N0+i<gs.size:=by rw[<-aN];exact(Ϝ.1 Vh).1
 have vq:X.N0+X.n<gs.size:=by rw[<-aN];exact(Ϝ.1 Vi).1
 obtain⟨qy,qz⟩:=MZ (a:=X.N0+i) (b:=X.N0+X.n) (c:=X.cL) (s:=s) (r:=s) (cap:=0) (B:=w.heap.size) (Ψ:=gs.size) h1 h2 h3 h4 h.wt.hL nM vq;obtain⟨c1,c2,c3⟩:=Qs (w.at d) X.cL 0 #[] U (s+1) (s+1) U;have Cv:=h.wt.mute (w':=(w.at d).setChan X.cL 0 #[] U (s+1) (s+1) U) qy c1 (λb hb _=>c2 b hb) rfl rfl rfl
 obtain⟨Tc,Em⟩:=(hw.rely (Ps (w':=(w.at d).setChan X.cL 0 #[] U (s+1) (s+1) U) c1 c2 (λb hb=>(h.wt.low _ _ Eo b hb).2.1) rfl rfl rfl)).tree;have aw:X.N0+X.n≠X.N0+i:=by omega
 have Fo:=(Cv.again Eo y).drop (X.N0+i);refine⟨{G with st:=upd G.st i .quit,cp:=.walk r,act:=ft (ft G.act (X.N0+X.n) (J ⟨Mc,y,(w.at d).setChan X.cL 0 #[] U (s+1) (s+1) U⟩)) (X.N0+i) H,q:=upd G.q (X.N0+i) m,tr:=upd G.tr (X.N0+X.n) Tc},?_,?_⟩
 ·refine h.AX aN rfl br.symm Iff.rfl (λi' bG=>?_) ?_ (λi' bG=>?_) (λhc=>?_) (λg h1 h2=>⟨hgo g (by omega) (by omega),upd_ne _ _ (by omega),?_⟩) (λg hg=>?_) ?_ ?_ (λe i' bG=>?_) (λ⟨_,e⟩=>by cases e) (λ_=>rfl) Fo ?_ ?_ ⟨by rw[c1];exact h.base.size,h.base.tape,h.base.os,h.base.e⟩ qz (λi' bG hq=>?_) ?_
  ·by_cases e:i'=i
   ·subst e;simp only[upd_same];simp[EU]
   ·simp only[upd_ne _ _ e]
  ·obtain⟨υ,hz,aN⟩:=h.main;refine⟨υ,by rw[hgo 0 (by omega) (by omega)];exact hz,?_⟩;exact gD.congr (G:=G) (by exact rfl) (by exact rfl) (by simp only[ak _ _ (show 0≠X.N0+i by omega),ak _ _ (show 0≠X.N0+X.n by omega)]) (by simp only[upd_ne _ _ (show 0≠X.N0+X.n by omega)]) aN
  ·by_cases e:i'=i
   ·subst e;refine⟨x,Vh,?_⟩;unfold WSit;simp only[upd_same,fY];exact⟨trivial,hq⟩
   ·obtain⟨y',fp,cI⟩:=h.wk i' bG;refine⟨y',by rw[hgo _ (by omega) (by omega)];exact fp,?_⟩;exact WSit.congr (G:=G) (by exact upd_ne _ _ e) (by simp only[ak _ _ (show X.N0+i'≠X.N0+i by omega),ak _ _ (show X.N0+i'≠X.N0+X.n by omega)]) (by simp only[upd_ne _ _ (show X.N0+i'≠X.N0+X.n by omega)]) (by simp only[upd_ne _ _ (show X.N0+i'≠X.N0+i by omega)]) cI
  ·refine⟨y,Vi,?_⟩;unfold CSit;simp only[ak _ _ aw,fY,upd_same];exact⟨Mc,_,rfl,hy,Em⟩
  ·simp only[ak _ _ (show g≠X.N0+i by omega),ak _ _ (show g≠X.N0+X.n by omega)];exact h.oX g h1 h2
  ·simp only[ak _ _ (show g≠X.N0+i by omega),ak _ _ (show g≠X.N0+X.n by omega)];exact h.nG g hg
  ·have hqs:=CW G.st (show i<X.n by omega) .quit;have e1:(G.st i).q=0:=(by unfold WS.q;rw[if_neg EX]);have e2:WS.q .quit=1:=rfl;have dA:=h.cnt;have ar3:(r+1)+sumTo X.n (λa=>(G.st a).q)=X.n:=by
    unfold oq at dA;rcases qt with e|e<;>rw[e] at dA<;>exact dA
   show r+sumTo X.n (λa=>(upd G.st i .quit a).q)=X.n;omega
  ·have cG:=h.aD;unfold ou at cG |-;simp only;cases hmm:G.mp with
   |spawn=>exact absurd (h.mc.2 br) (by rw[hmm];rintro⟨_,_,e|e⟩<;>cases e)|walk f aD=>rw[hmm] at cG;exact⟨cG.1,cG.2.1,λa=>by rw[cG.2.2 a];exact and_congr_right λ_=>(IT a).symm⟩
   |dp f aD=>rw[hmm] at cG;exact⟨cG.1,cG.2.1,λa=>by rw[cG.2.2 a];exact and_congr_right λ_=>(IT a).symm⟩
  ·by_cases e2:i'=i
   ·subst e2;simp only[upd_same];simp
   ·simp only[upd_ne _ _ e2];exact h.nV e i' bG
  ·exact⟨s+1,c3 h.wt.hL⟩
  ·obtain⟨s',e'⟩:=h.lX;rw[eV] at e';exact⟨s',by rw[c2 _ (Θ h.neq)];exact e'⟩
  ·by_cases e:i'=i
   ·subst e;intro k a xG hg;obtain⟨op,ag,cH⟩:=ĕ xG;rcases Ă ag with⟨_,bL⟩ | ⟨_,dW⟩
    ·have hk:Knows t (X.N0+i') k:=uM.self t (X.N0+i') k a (by rw[ġ bL];exact cH) (by simpa [Û,ag,bL] using hg);exact ahb h.wt.nd h1 h2 h3 h4 hk
    ·rw[(qz op dW).1] at cH;cases cH
   ·simp only[upd_ne _ _ e] at hq;exact(h.kq i' bG hq).app λop ag _=>(qz op ag).1
  ·rw[eV];rfl
 ·have hm:=CM G.st (show i<X.n by omega) .quit;have e2:WS.wt .quit=0:=rfl;unfold Gh.mu;simp only;rcases qt with e|e<;>rw[e]<;>simp only[CP.wt]<;>omega
def XX(h:yM X G i\/G.st i=.jg):∀a,(X.cX a=D/\(upd G.st i .quit a).il=D)↔(X.cX a=D/\(G.st a).il=D):=by
 intro a;by_cases e:a=i
 ·subst e;rw[upd_same];rcases h with h|h
  ·exact(h.facts.2.2.2.2 .quit rfl).symm
  ·rw[h];exact Iff.rfl
 ·rw[upd_ne _ _ e]
def aoO(h:FI X wb gs w t G)(sl:Option (Nat×Nat))(hi:i<G.j)(eW:yM X G i)(hx:gs[X.N0+i]?=J x)(ha:G.act (X.N0+i)=J ⟨M,x,aR⟩)
 (hS:W2 X M x w)(hp:G.cp=.dp r):pz X wb gs w sl t G (X.N0+i):=by
 obtain⟨_,_,⟨υ,dH⟩,m,hq⟩:=hS;have kV:=h.n0;have sU:=h.jn;have br:G.cp.ik=U:=by rw[hp];rfl
 have qu:=h.jc br;obtain⟨f1,f2,f3,f4,f5⟩:=eW.facts;obtain⟨y0,h0,ef⟩:=h.cl br;unfold CSit at ef;rw[hp] at ef;obtain⟨r',Mc,v0,y,z0,rfl,Eo,rfl,hW⟩:=ef;obtain⟨s,hc⟩:=h.lU;have bh:=crowd_send_meets (P:=X.P) (sl:=sl) hx (by rw[h.uO];exact dH) hc (show X.N0+X.n≠X.N0+i by omega) h0 (am0 h (by omega) h0)
 rw[oW,Aem] at bh;have vq:X.N0+X.n<gs.size:=(Ϝ.1 h0).1
 have nM:X.N0+i<gs.size:=(Ϝ.1 hx).1;obtain⟨G',hF,nN⟩:=heard h w.drawn hi f4 f3 (XX (.inl eW)) (.inl hp) ha Eo hq (YC y (ý U (.bool D) D)) (hW.rely (h.wt.keep _ _ Eo)) hc
  (x1:={g:=X.N0+i,fn:=x.frame.fn,pos:=x.frame.place,act:=.send X.cL s}) (x2:={g:=X.N0+X.n,fn:=y.frame.fn,pos:=y.frame.place,act:=.recv X.cL s 0})
  (x3:={g:=X.N0+i,fn:=x.frame.fn,pos:=x.frame.place,act:=.sendDone X.cL s}) (x4:={g:=X.N0+X.n,fn:=y.frame.fn,pos:=y.frame.place,act:=.recvDone X.cL s}) ⟨rfl,rfl⟩ ⟨rfl,rfl⟩ ⟨rfl,rfl⟩ ⟨rfl,rfl⟩
  (aY:=(gs.setIfInBounds (X.N0+X.n) (ϩ y (ý U (.bool D) D))).setIfInBounds (X.N0+i) (ϩ x L)) (by simp) (by rw[ni,if_pos ⟨rfl,nM⟩]) (by rw[ni,if_neg (by omega),if_pos ⟨rfl,vq⟩]) (λk h1 h2=>by rw[ni,if_neg (λe=>h1 e.1),if_neg (λe=>h2 e.1)])
 exact⟨_,_,_,G',bh,hF,nN⟩
def ank(h:FI X wb gs w t G)(sl:Option (Nat×Nat))(hp:G.cp=.walk (r+1))(hx:gs[X.N0+X.n]?=J x)(ha:G.act (X.N0+X.n)=J ⟨M,x,aR⟩)
 (hS:rC X (r+1) M x w)(hex:∃i,i<X.n/\G.st i=.jg):pz X wb gs w sl t G (X.N0+X.n):=by
 obtain⟨_,_,⟨υ,dH⟩,hW⟩:=hS;have kV:=h.n0;have br:G.cp.ik=U:=by rw[hp];rfl
 have qu:=h.jc br;obtain⟨s,hc⟩:=h.lU;have NI:(X.N0+X.n==0)=U:=h.uO X.n;have aw:Ġ (gs.setIfInBounds (X.N0+X.n) ph) X.cL D≠ []:=by
  obtain⟨i,hi,eW⟩:=hex;obtain⟨y,hy,V⟩:=h.wk i (by omega);unfold WSit at V;rw[eW] at V;obtain⟨Mi,wi,y',z',_,hyp,_⟩:=V;have:(X.N0+i,0)∈Ġ (gs.setIfInBounds (X.N0+X.n) ph) X.cL D:=mem_partners.2 ⟨y,stand_get (by omega) hy,by rw[hyp,Ź,if_pos rfl];simp⟩
  exact List.ne_nil_of_mem this
 have eT:∀j k,(j,k)∈Ġ (gs.setIfInBounds (X.N0+X.n) ph) X.cL D->k=0/\j≠X.N0+X.n/\∃gj vj zj Gd,gs[j]?=J (Ú gj #[ć X.cL vj zj] Gd):=by
  intro j k hm;obtain⟨y,hy,hk⟩:=mem_partners.1 hm;rcases Ŋ gs _ j y hy with⟨_,rfl⟩ | ⟨hj,hy⟩
  ·rw[ŋ] at hk;cases hk
  ·obtain⟨e,g,v,υ,hyp⟩:=XN h hy hk;exact⟨e,hj,g,v,υ,.send,by rw[hy,hyp]⟩
 obtain⟨j,gj,vj,zj,Gd,d,hj,EF,bh⟩:=crowd_recv_meets_some (P:=X.P) (sl:=sl) hx (by rw[NI];exact dH) hc aw eT;rw[oW,Aem] at bh;obtain⟨i,Mi,wi,yi,hi,rfl,eW,rfl,rfl,Il,nQ,m,hq⟩:=h.SJ EF;have vq:X.N0+X.n<gs.size:=(Ϝ.1 hx).1
 have nM:X.N0+i<gs.size:=(Ϝ.1 EF).1;obtain⟨G',hF,nN⟩:=heard h d hi (by rw[eW];simp) (by rw[eW];simp) (XX (.inr eW)) (.inr hp) Il ha (x:=ϩ gj L) (by rw[nQ];exact hq) (YC x (ý U (.bool D) D)) hW hc
  (x1:={g:=X.N0+i,fn:=gj.frame.fn,pos:=gj.frame.place,act:=.send X.cL s}) (x2:={g:=X.N0+X.n,fn:=x.frame.fn,pos:=x.frame.place,act:=.recv X.cL s 0})
  (x3:={g:=X.N0+i,fn:=gj.frame.fn,pos:=gj.frame.place,act:=.sendDone X.cL s}) (x4:={g:=X.N0+X.n,fn:=x.frame.fn,pos:=x.frame.place,act:=.recvDone X.cL s}) ⟨rfl,rfl⟩ ⟨rfl,rfl⟩ ⟨rfl,rfl⟩ ⟨rfl,rfl⟩
  (aY:=(gs.setIfInBounds (X.N0+i) (ϩ gj L)).setIfInBounds (X.N0+X.n) (ϩ x (ý U (.bool D) D))) (by simp) (by rw[ni,if_neg (by omega),if_pos ⟨rfl,nM⟩]) (by rw[ni,if_pos ⟨rfl,vq⟩]) (λk h1 h2=>by rw[ni,if_neg (λe=>h2 e.1),if_neg (λe=>h1 e.1)])
 exact⟨_,_,_,G',bh,hF,nN⟩
def anl(h:FI X wb gs w t G)(sl:Option (Nat×Nat))(hp:G.cp=.walk (r+1))(hx:gs[X.N0+X.n]?=J x)(ha:G.act (X.N0+X.n)=J ⟨M,x,aR⟩)
 (hS:rC X (r+1) M x w)(hex:¬ ∃i,i<X.n/\G.st i=.jg):pz X wb gs w sl t G (X.N0+X.n):=by
 obtain⟨_,_,⟨υ,dH⟩,hW⟩:=hS;have kV:=h.n0;have br:G.cp.ik=U:=by rw[hp];rfl
 have qu:=h.jc br;obtain⟨s,hc⟩:=h.lU;have NI:(X.N0+X.n==0)=U:=h.uO X.n;have eV:G.closed=U:=by unfold Gh.closed;rw[hp]
 have Ad:Ġ (gs.setIfInBounds (X.N0+X.n) ph) X.cL D=[]:=by
  refine Afk λj y hy=>?_;rcases Ŋ gs _ j y hy with⟨_,rfl⟩ | ⟨hj,hy⟩
  ·exact ŋ _ _
  ·cases hl:ť y X.cL D with
   |nil=>rfl|cons a l=>exfalso;obtain⟨e,g,v,z',hyp⟩:=XN h (m:=a) hy (by rw[hl];simp);rw[hyp] at hy;obtain⟨i,_,_,_,hi,_,eW,_⟩:=h.SJ hy;exact hex ⟨i,by omega,eW⟩
 have bh:=Afm (P:=X.P) (sl:=sl) hx (by rw[NI];exact dH) (λcc dg=>by
  simp only[ê,Ô] at dg;subst dg;exact ways_recv_none hc Ad)
 rw[oW] at bh;have vq:X.N0+X.n<gs.size:=(Ϝ.1 hx).1
 refine⟨_,_,_,{G with cp:=.dp (r+1),act:=ft G.act (X.N0+X.n) (J ⟨M,x,w⟩)},bh,?_,?_⟩
 ·refine h.AX (by simp) rfl br.symm Iff.rfl (λi' bG=>Iff.rfl) ?_ (λi' bG=>?_) (λhc=>?_) (λg h1 h2=>⟨?_,rfl,?_⟩) (λg hg=>?_) ?_ h.aD (λe=>h.nV e) (λ_ i' bG eW=>hex ⟨i',bG,eW⟩) (λ_=>rfl) (by simp only[ç];exact h.wt.again ha x) h.lU (by obtain⟨s',e⟩:=h.lX;rw[eV] at e;exact⟨s',e⟩) h.base (by simp) (λi' bG hq=>by rw[ç];exact h.kq i' bG hq) (by rw[eV];rfl)
  ·obtain⟨y,hy,V⟩:=h.main;refine⟨y,by rw[one_set,if_neg (by omega)];exact hy,?_⟩;exact gD.congr (G:=G) (by exact rfl) (by exact rfl) (by simp only[ak _ _ (show 0≠X.N0+X.n by omega)]) (by exact rfl) V
  ·obtain⟨y',fp,cI⟩:=h.wk i' bG;refine⟨y',by rw[one_set,if_neg (by omega)];exact fp,?_⟩;exact WSit.congr (G:=G) (by exact rfl) (by simp only[ak _ _ (show X.N0+i'≠X.N0+X.n by omega)]) (by exact rfl) (by exact rfl) cI
  ·refine⟨Ú x #[é X.cL υ] (.recv U),by rw[one_set,if_pos ⟨rfl,vq⟩],?_⟩;unfold CSit;simp only[fY];exact⟨r,M,w,x,υ,rfl,rfl,rfl,hW⟩
  ·rw[one_set,if_neg (by omega)]
  ·simp only[ak _ _ (show g≠X.N0+X.n by omega)];exact h.oX g h1 h2
  ·simp only[ak _ _ (show g≠X.N0+X.n by omega)];exact h.nG g hg
  ·have dA:=h.cnt;unfold oq at dA |-;rw[hp] at dA;exact dA
 ·unfold Gh.mu;simp only[hp,CP.wt];omega
def ann(h:FI X wb gs w t G)(sl:Option (Nat×Nat))(hp:G.mp=.walk f aD)(hx:gs[0]?=J x)(ha:G.act 0=J ⟨M,y,aR⟩)(iY:rB x y)
 (hS:∀aa,bR M aR aa->oB X f aD M y aa)(eV:G.closed=U)(hex:¬ ∃i,i<X.n/\G.st i=.jD):pz X wb gs w sl t G 0:=by
 obtain⟨_,_,υ,dH,_⟩:=(hS w (h.wt.keep _ _ ha)).at;have kV:=h.n0;have sU:=h.jn;obtain⟨s,hc⟩:=h.lX;rw[eV] at hc;have Ad:Ġ (gs.setIfInBounds 0 ph) X.cN D=[]:=by
  refine Afk λj y hy=>?_;rcases Ŋ gs _ j y hy with⟨_,rfl⟩ | ⟨hj,hy⟩
  ·exact ŋ _ _
  ·cases hl:ť y X.cN D with
   |nil=>rfl|cons a l=>exfalso;obtain⟨e,g,v,z',hyp⟩:=P0 h (m:=a) hy (by rw[hl];simp);rw[hyp] at hy;obtain⟨i,_,_,_,hi,_,eW,_⟩:=h.Md hy;exact hex ⟨i,by omega,eW⟩
 have qI:ϙ X.P (0==0) x w=.comm y #[é X.cN υ] D (.recv D) w #[]:=by rw[Afn iY.1 iY.2.1 iY.2.2.1];exact dH
 have bh:=Afm (P:=X.P) (sl:=sl) hx qI (λcc dg=>by
  simp only[ê,Ô] at dg;subst dg;exact ways_recv_none hc Ad)
 rw[oW] at bh;have iV:0<gs.size:=(Ϝ.1 hx).1
 refine⟨_,_,_,{G with mp:=.dp f aD},bh,?_,?_⟩
 ·refine h.AX (by simp) rfl rfl ⟨λ_=>⟨_,_,.inl hp⟩,λ_=>⟨_,_,.inr rfl⟩⟩ (λi' bG=>Iff.rfl) ?_ (λi' bG=>?_) (λhc=>?_) (λg h1 h2=>⟨?_,rfl,h.oX g h1 h2⟩) h.nG h.cnt ?_ (λ_ i' bG e=>hex ⟨i',bG,e⟩) (λe=>h.yj e) (λ_=>eV) (by simp only[ç];exact h.wt) h.lU h.lX h.base (by simp) (λi' bG hq=>by rw[ç];exact h.kq i' bG hq) rfl
  ·refine⟨Ú y #[é X.cN υ] (.recv D),by rw[one_set,if_pos ⟨rfl,iV⟩],?_⟩;unfold gD;exact⟨M,aR,y,υ,ha,rfl,hS⟩
  ·obtain⟨y',fp,cI⟩:=h.wk i' bG;exact⟨y',by rw[one_set,if_neg (by omega)];exact fp,WSit.congr (G:=G) (by exact rfl) (by exact rfl) (by exact rfl) (by exact rfl) cI⟩
  ·obtain⟨y',fp,cI⟩:=h.cl hc;exact⟨y',by rw[one_set,if_neg (by omega)];exact fp,CSit.congr (G:=G) (by exact rfl) (by exact rfl) (by exact rfl) (by exact rfl) cI⟩
  ·rw[one_set,if_neg (by omega)]
  ·have cG:=h.aD;unfold ou at cG |-;rw[hp] at cG;exact cG
 ·unfold Gh.mu;simp only[hp,MP.wt];omega
def anm(h:FI X wb gs w t G)(sl:Option (Nat×Nat))(hp:G.mp=.walk f aD){M0:ay}(h0:gs[0]?=J x)(rJ:G.act 0=J ⟨M0,y,v0⟩)(iY:rB x y)
 (hR:∀aa,bR M0 v0 aa->oB X f aD M0 y aa)(hex:∃i,i<X.n/\G.st i=.jD):pz X wb gs w sl t G 0:=by
 have kV:=h.n0;have sU:=h.jn;have cG:=h.aD;unfold ou at cG;rw[hp] at cG;obtain⟨g1,g2,g3⟩:=cG;have eV:G.closed=U:=by obtain⟨i,hi,eW⟩:=hex;exact h.PZ hi (by rw[eW];simp)
 obtain⟨s,hc⟩:=h.lX;rw[eV] at hc;have aw:Ġ (gs.setIfInBounds 0 ph) X.cN D≠ []:=by
  obtain⟨i,hi,eW⟩:=hex;obtain⟨y,hy,V⟩:=h.wk i (h.Xr hi (by rw[eW];simp));unfold WSit at V;rw[eW] at V;obtain⟨Mi,wi,y',z',_,hyp,_⟩:=V;have:(X.N0+i,0)∈Ġ (gs.setIfInBounds 0 ph) X.cN D:=mem_partners.2 ⟨y,stand_get (by omega) hy,by rw[hyp,Ź,if_pos rfl];simp⟩
  exact List.ne_nil_of_mem this
 have eT:∀j k,(j,k)∈Ġ (gs.setIfInBounds 0 ph) X.cN D->k=0/\j≠0/\∃gj vj zj Gd,gs[j]?=J (Ú gj #[ć X.cN vj zj] Gd):=by
  intro j k hm;obtain⟨y,hy,hk⟩:=mem_partners.1 hm;rcases Ŋ gs _ j y hy with⟨_,rfl⟩ | ⟨hj,hy⟩
  ·rw[ŋ] at hk;cases hk
  ·obtain⟨e,g,v,υ,hyp⟩:=P0 h hy hk;exact⟨e,hj,g,v,υ,.send,by rw[hy,hyp]⟩
 obtain⟨_,_,υ,dH,_⟩:=(hR w (h.wt.keep _ _ rJ)).at;have qI:ϙ X.P (0==0) x w=.comm y #[é X.cN υ] D (.recv D) w #[]:=by rw[Afn iY.1 iY.2.1 iY.2.2.1];exact dH
 obtain⟨j,gj,vj,zj,Gd,d,hj,EF,bh⟩:=crowd_recv_meets_some (P:=X.P) (sl:=sl) h0 qI hc aw eT;rw[oW,Aem] at bh;obtain⟨i,M,aR,yi,hi,rfl,eW,rfl,rfl,hn,ha,nQ,td⟩:=h.Md EF;have Ac:i ∉ aD:=λe=>by have:=((g3 i).1 e).2.2;rw[eW] at this;cases this
 obtain⟨f',rfl⟩:∃f',f=f'+1:=by
  have h1:=CN X.n (i::aD) (List.nodup_cons.2 ⟨Ac,g1⟩) λa ha=>by
   rcases Ϡ.1 ha with rfl|ha
   ·omega
   ·exact((g3 a).1 ha).1
  simp only[List.length_cons] at h1;exact⟨f - 1,by omega⟩
 have iV:0<gs.size:=(Ϝ.1 h0).1;have nM:X.N0+i<gs.size:=(Ϝ.1 EF).1;obtain⟨qy,qz⟩:=MZ (a:=X.N0+i) (b:=0) (c:=X.cN) (s:=s) (r:=s) (cap:=0) (B:=w.heap.size) (Ψ:=gs.size)
  (x1:={g:=X.N0+i,fn:=gj.frame.fn,pos:=gj.frame.place,act:=.send X.cN s}) (x2:={g:=0,fn:=y.frame.fn,pos:=y.frame.place,act:=.recv X.cN s 0})
  (x3:={g:=X.N0+i,fn:=gj.frame.fn,pos:=gj.frame.place,act:=.sendDone X.cN s}) (x4:={g:=0,fn:=y.frame.fn,pos:=y.frame.place,act:=.recvDone X.cN s}) ⟨rfl,rfl⟩ ⟨rfl,rfl⟩ ⟨rfl,rfl⟩ ⟨rfl,rfl⟩ h.wt.hN nM iV
 obtain⟨c1,c2,c3⟩:=Qs (w.at d) X.cN 0 #[] U (s+1) (s+1) U;obtain⟨_,_,z1,_,_,aha⟩:=hR w (h.wt.keep _ _ rJ);have Cv:=h.wt.mute (w':=(w.at d).setChan X.cN 0 #[] U (s+1) (s+1) U) qy c1 (λb _ hb=>c2 b hb) rfl rfl rfl
 obtain⟨T0,va⟩:=((aha i (by omega) hn Ac).rely (Ps (w':=(w.at d).setChan X.cN 0 #[] U (s+1) (s+1) U) c1 c2 (λb hb=>(h.wt.low 0 _ rJ b hb).2.2) rfl rfl rfl)).tree;obtain⟨Ti,Ij⟩:=((td.rely (h.wt.keep _ _ ha)).rely (Ps (w':=(w.at d).setChan X.cN 0 #[] U (s+1) (s+1) U) c1 c2 (λb hb=>(h.wt.low _ _ ha b hb).2.2) rfl rfl rfl)).tree;rw[<-nQ] at Ij;have Fo:=(Cv.again rJ (ϩ y (ý D (X.val i) D))).again (g:=X.N0+i) (j:=⟨M,yi,aR⟩) (by rw[ak _ _ (by omega)];exact ha) (ϩ gj L)
 refine⟨_,_,_,{G with st:=upd G.st i .jj,mp:=.walk f' (aD++ [i]),act:=ft (ft G.act 0 (J ⟨M0,ϩ y (ý D (X.val i) D),(w.at d).setChan X.cN 0 #[] U (s+1) (s+1) U⟩)) (X.N0+i) (J ⟨M,ϩ gj L,(w.at d).setChan X.cN 0 #[] U (s+1) (s+1) U⟩),tr:=upd (upd G.tr 0 T0) (X.N0+i) Ti},bh,?_,?_⟩
 ·refine h.AX (by simp) rfl rfl ?_ (λi' bG=>?_) ?_ (λi' bG=>?_) (λhc=>?_) (λg h1 h2=>⟨?_,rfl,?_⟩) (λg hg=>?_) ?_ ?_ (λ⟨_,_,e⟩=>by cases e) (λT i' bG=>?_) (λ⟨_,_,e⟩=>by cases e) Fo ?_ ?_ ⟨by rw[c1];exact h.base.size,h.base.tape,h.base.os,h.base.e⟩ qz (λi' bG hq=>?_) rfl
  ·exact⟨λ_=>⟨_,_,.inl hp⟩,λ_=>⟨_,_,.inl rfl⟩⟩
  ·by_cases e:i'=i
   ·subst e;simp only[upd_same];rw[eW];simp
   ·simp only[upd_ne _ _ e]
  ·refine⟨ϩ y (ý D (X.val i) D),?_,?_⟩
   ·rw[ni,if_pos ⟨rfl,iV⟩];rfl
   ·exact⟨M0,(w.at d).setChan X.cN 0 #[] U (s+1) (s+1) U,ϩ y (ý D (X.val i) D),by simp only[ak _ _ (show 0≠X.N0+i by omega),fY],rB.refl rfl,by simp only[upd_ne _ _ (show 0≠X.N0+i by omega),upd_same];exact va⟩
  ·by_cases e:i'=i
   ·subst e;refine⟨ϩ gj L,?_,?_⟩
    ·rw[ni,if_neg (by omega),if_pos ⟨rfl,nM⟩];rfl
    ·unfold WSit;simp only[upd_same,fY];exact⟨M,_,rfl,rfl,Ij⟩
   ·obtain⟨y',fp,cI⟩:=h.wk i' bG;refine⟨y',by rw[ni,if_neg (by omega),if_neg (by omega)];exact fp,?_⟩;refine WSit.congr (G:=G) (by exact upd_ne _ _ e) ?_ ?_ (by exact rfl) cI
    ·simp only[ak _ _ (show X.N0+i'≠X.N0+i by omega),ak _ _ (show X.N0+i'≠0 by omega)]
    ·simp only[upd_ne _ _ (show X.N0+i'≠X.N0+i by omega),upd_ne _ _ (show X.N0+i'≠0 by omega)]
  ·obtain⟨y',fp,cI⟩:=h.cl hc;refine⟨y',by rw[ni,if_neg (by omega),if_neg (by omega)];exact fp,?_⟩;refine CSit.congr (G:=G) (by exact rfl) ?_ ?_ (by exact rfl) cI
   ·simp only[ak _ _ (show X.N0+X.n≠X.N0+i by omega),ak _ _ (show X.N0+X.n≠0 by omega)]
   ·simp only[upd_ne _ _ (show X.N0+X.n≠X.N0+i by omega),upd_ne _ _ (show X.N0+X.n≠0 by omega)]
  ·rw[ni,if_neg (by omega),if_neg (by omega)]
  ·simp only[ak _ _ (show g≠X.N0+i by omega),ak _ _ (show g≠0 by omega)];exact h.oX g h1 h2
  ·simp only[ak _ _ (show g≠X.N0+i by omega),ak _ _ (show g≠0 by omega)];exact h.nG g hg
  ·have hq:=CW G.st (show i<X.n by omega) .jj;have e1:(G.st i).q=0:=(by rw[eW];rfl);have e2:WS.q .jj=0:=rfl;have dA:=h.cnt;unfold oq at dA |-
   simp only;rw[show sumTo X.n (λa=>(upd G.st i .jj a).q)=sumTo X.n (λa=>(G.st a).q) by omega];exact dA
  ·refine⟨List.nodup_append.2 ⟨g1,by simp,λa IB b hb=>?_⟩,by simp only[List.length_append,ź];omega,λa=>?_⟩
   ·simp only[Ô] at hb;subst hb
    exactλe=>Ac (e▸IB)
   ·by_cases e:a=i
    ·subst e;simp only[ĉ,Ô,or_true,upd_same,true_iff];exact⟨by omega,hn,rfl⟩
    ·simp only[ĉ,Ô,e,or_false,upd_ne _ _ e];exact g3 a
  ·by_cases e:i'=i
   ·subst e;simp only[upd_same];simp
   ·simp only[upd_ne _ _ e];exact h.yj T i' bG
  ·obtain⟨s',e'⟩:=h.lU;exact⟨s',by rw[c2 _ h.neq];exact e'⟩
  ·exact⟨s+1,by rw[c3 h.wt.hN];unfold Gh.closed at eV |-;simp only;rw[eV]⟩
  ·have oQ:G.st i'=.quit:=by
    by_cases e:i'=i
    ·subst e;simp only[upd_same] at hq;cases hq
    ·simp only[upd_ne _ _ e] at hq;exact hq
   exact(h.kq i' bG oQ).app λop ag _=>(qz op ag).1
 ·have hm:=CM G.st (show i<X.n by omega) .jj;have e1:(G.st i).wt=4:=by rw[eW];rfl
  have e2:WS.wt .jj=3:=rfl;unfold Gh.mu;simp only[hp,MP.wt];omega
def wW:((gs.setIfInBounds 0 x).push y)[i]?=if i=gs.size then J y else if i=0/\0<gs.size then J x else gs[i]?:=by
 rw[Array.getElem?_push,Ĕ];by_cases h:i=gs.size
 ·rw[if_pos h,if_pos h]
 ·rw[if_neg h,if_neg h,one_set]
def YP(h1:x1.act=.go Ψ)(h2:x2.act=.start):∀op∈#[x1,x2],op.act.touch? =H:=by
 intro op ag;simp only[ê,Ϡ,Á,or_false] at ag;rcases ag with rfl|rfl
 ·rw[h1];rfl
 ·rw[h2];rfl
def apo(h:FI X wb gs w t G)(sl:Option (Nat×Nat))(hp:G.mp=.spawn)(T:X.n - G.j=r+1)(hx:gs[0]?=J x)(ha:G.act 0=J ⟨M,x,aR⟩)
 (hS:StopA X (r+1) M x w):pz X wb gs w sl t G 0:=by
 obtain⟨_,cz,child,dH,oK,zO,I6,eL⟩:=hS;have kV:=h.n0;have br:G.cp.ik=D:=by
  cases e:G.cp.ik with
  |true=>rfl|false=>exact absurd (h.mc.2 e) (by rw[hp];rintro⟨_,_,e|e⟩<;>cases e)
 have vB:gs.size=X.N0+G.j:=by have:=h.size;rw[br] at this;simpa using this
 have hi:X.n - (r+1)=G.j:=by omega
 rw[hi] at I6;have kY:X.n - (G.j+1)=r:=by omega
 have iV:0<gs.size:=(Ϝ.1 hx).1;have bh:=runT_crowd_spawn (P:=X.P) (sl:=sl) (i:=0) hx (show ϙ X.P (0==0) x w=_ from dH);rw[oW] at bh;have Ag:(#[].push ({g:=0,fn:=x.frame.fn,pos:=x.frame.place,act:=.go gs.size}:MemOp) |>.push {g:=gs.size,fn:=child.frame.fn,pos:=x.frame.place,act:=.start})=#[{g:=0,fn:=x.frame.fn,pos:=x.frame.place,act:=.go gs.size},{g:=gs.size,fn:=child.frame.fn,pos:=x.frame.place,act:=.start}]:=rfl
 rw[Ag] at bh;obtain⟨T0,va⟩:=eL.tree;obtain⟨Tc,Em⟩:=I6.tree;have EE:=h.nG gs.size (ϊ _);have vE:=h.wt.spawn ha EE (by omega) (x:={g:=0,fn:=x.frame.fn,pos:=x.frame.place,act:=.go gs.size}) (y:={g:=gs.size,fn:=child.frame.fn,pos:=x.frame.place,act:=.start}) ⟨rfl,rfl⟩ ⟨rfl,rfl⟩ cz child
 have nN:=YP (Ψ:=gs.size) (x1:={g:=0,fn:=x.frame.fn,pos:=x.frame.place,act:=.go gs.size}) (x2:={g:=gs.size,fn:=child.frame.fn,pos:=x.frame.place,act:=.start}) rfl rfl;generalize hu:(#[{g:=0,fn:=x.frame.fn,pos:=x.frame.place,act:=.go gs.size},{g:=gs.size,fn:=child.frame.fn,pos:=x.frame.place,act:=.start}]:ε)=u at bh vE nN;have O1:∀op∈u,op.g<gs.size+1:=by
  rw[<-hu];intro op ag;simp only[ê,Ϡ,Á,or_false] at ag;rcases ag with rfl|rfl
  ·exact Nat.succ_pos _
  ·exact Nat.lt_succ_self _
 have eV:G.closed=U:=by
  unfold Gh.closed;cases e:G.cp with
  |quit=>rw[e] at br;cases br
  |_=>rfl
 have old:∀ {k a},Ý (t++u) k=J a->Ý t k=J a/\(t++u).g? k= t.g? k:=by
  intro k a ha;obtain⟨op,ag,cH⟩:=ĕ ha;rcases Ă ag with⟨_,bL⟩ | ⟨_,dW⟩
  ·exact⟨by rw[ġ bL];exact cH,by simp[Û,ag,bL]⟩
  ·rw[nN op dW] at cH;cases cH
 have Oi:G.j<X.n:=by omega
 have Wo:G.st G.j=.no:=(h.vU G.j Oi).2 (ϊ _);refine⟨_,_,_,{G with j:=G.j+1,st:=upd G.st G.j .lj,act:=ft (ft G.act 0 (J ⟨M.shared,cz,w⟩)) gs.size (J ⟨M.shared,child,w⟩),tr:=upd (upd G.tr 0 T0) gs.size Tc},bh,?_,?_⟩
 ·refine⟨?_,kV,by simp only;omega,λhc=>(by have hc:G.cp.ik=U:=hc;rw[br] at hc;cases hc),h.mc,λi hi=>?_,?_,λi hi=>?_,λhc=>(by have hc:G.cp.ik=U:=hc;rw[br] at hc;cases hc),λg y h1 h2 hy=>?_,λg h1 h2=>?_,λg hg=>?_,?_,?_,λ⟨_,_,e⟩=>(by have e:G.mp=_:=e;rw[hp] at e;cases e),λ⟨r,e⟩=>?_,λ⟨_,_,e⟩=>(by have e:G.mp=_:=e;rw[hp] at e;cases e),vE,h.lU,h.lX,h.neq,h.base,λk a ha hm g hg ao=>?_,λk g hg=>?_,λi hi hq=>?_,λhc k a ha=>?_,λhc=>(by rw[show Gh.closed {G with j:=G.j+1,st:=upd G.st G.j .lj,act:=ft (ft G.act 0 (J ⟨M.shared,cz,w⟩)) gs.size (J ⟨M.shared,child,w⟩),tr:=upd (upd G.tr 0 T0) gs.size Tc}=G.closed from rfl,eV] at hc;cases hc)⟩
  ·simp only[Ÿ,Ĕ,br,if_true];omega
  ·by_cases e:i=G.j
   ·subst e;simp only[upd_same];simp
   ·simp only[upd_ne _ _ e];rw[h.vU i hi];omega
  ·refine⟨cz,by rw[wW,if_neg (by omega),if_pos ⟨rfl,iV⟩],?_⟩;unfold gD;simp only[hp,ak _ _ (show 0≠gs.size by omega),fY,upd_ne _ _ (show 0≠gs.size by omega),upd_same];exact⟨_,_,rfl,oK,by rw[kY];exact va⟩
  ·by_cases e:i=G.j
   ·subst e;refine⟨child,by rw[wW,if_pos vB.symm],?_⟩;unfold WSit;simp only[upd_same,<-vB,fY];exact⟨_,_,rfl,zO,Em⟩
   ·have xC:i<G.j+1:=hi;obtain⟨y',fp,cI⟩:=h.wk i (by omega);refine⟨y',by rw[wW,if_neg (by omega),if_neg (by omega)];exact fp,?_⟩;exact WSit.congr (G:=G) (by exact upd_ne _ _ e) (by simp only[ak _ _ (show X.N0+i≠gs.size by omega),ak _ _ (show X.N0+i≠0 by omega)]) (by simp only[upd_ne _ _ (show X.N0+i≠gs.size by omega),upd_ne _ _ (show X.N0+i≠0 by omega)]) (by exact rfl) cI
  ·rw[wW,if_neg (by omega),if_neg (by omega)] at hy;exact h.old g y h1 h2 hy
  ·simp only[ak _ _ (show g≠gs.size by omega),ak _ _ (show g≠0 by omega)];exact h.oX g h1 h2
  ·simp only[Ÿ,Ĕ] at hg;simp only[ak _ _ (show g≠gs.size by omega),ak _ _ (show g≠0 by omega)];exact h.nG g (by omega)
  ·have hq:=CW G.st Oi .lj;have e1:(G.st G.j).q=0:=(by rw[Wo];rfl);have e2:WS.q .lj=0:=rfl;have dA:=h.cnt;unfold oq at dA |-
   simp only;rw[show sumTo X.n (λa=>(upd G.st G.j .lj a).q)=sumTo X.n (λa=>(G.st a).q) by omega];exact dA
  ·have cG:=h.aD;unfold ou at cG |-;simp only;rw[hp] at cG |-;intro i hi hn;by_cases e:i=G.j
   ·subst e;rw[upd_same];rfl
   ·rw[upd_ne _ _ e];exact cG i hi hn
  ·simp only at e;rw[e] at br;cases br
  ·obtain⟨a1,a2⟩:=old ha;rw[a2] at hg;exact(h.yk k a a1 hm g hg ao).app u
  ·simp only[Ÿ,Ĕ];unfold Û at hg;obtain⟨op,ag,e⟩:=ď.1 hg;rcases Ă ag with⟨_,bL⟩ | ⟨_,dW⟩
   ·have:=h.uW k g (by simp[Û,bL,e]);omega
   ·rw[<-e];exact O1 op dW
  ·by_cases e:i=G.j
   ·subst e;simp only[upd_same] at hq;cases hq
   ·simp only[upd_ne _ _ e] at hq;exact(h.kq i hi hq).app λop ag _=>nN op ag
  ·exact h.AM eV k a (old ha).1
 ·have hm:=CM G.st Oi .lj;have e1:(G.st G.j).wt=6:=by rw[Wo];rfl
  have e2:WS.wt .lj=5:=rfl;unfold Gh.mu;simp only;omega
def apn(h:FI X wb gs w t G)(sl:Option (Nat×Nat))(hp:G.mp=.spawn)(T:X.n - G.j=0)(hx:gs[0]?=J x)(ha:G.act 0=J ⟨M,x,aR⟩)
 (hS:StopA X 0 M x w):pz X wb gs w sl t G 0:=by
 obtain⟨_,cz,child,dH,oK,zO,I6,eL⟩:=hS;have kV:=h.n0;have sU:=h.jn;have hj:G.j=X.n:=by omega
 have br:G.cp.ik=D:=by
  cases e:G.cp.ik with
  |true=>rfl|false=>exact absurd (h.mc.2 e) (by rw[hp];rintro⟨_,_,e|e⟩<;>cases e)
 have qt:G.cp=.no:=by
  cases e:G.cp with
  |no=>rfl|_=>rw[e] at br;cases br
 have vB:gs.size=X.N0+X.n:=by have:=h.size;rw[br] at this;simp at this;omega
 have iV:0<gs.size:=(Ϝ.1 hx).1;have bh:=runT_crowd_spawn (P:=X.P) (sl:=sl) (i:=0) hx (show ϙ X.P (0==0) x w=_ from dH);rw[oW] at bh;have Ag:(#[].push ({g:=0,fn:=x.frame.fn,pos:=x.frame.place,act:=.go gs.size}:MemOp) |>.push {g:=gs.size,fn:=child.frame.fn,pos:=x.frame.place,act:=.start})=#[{g:=0,fn:=x.frame.fn,pos:=x.frame.place,act:=.go gs.size},{g:=gs.size,fn:=child.frame.fn,pos:=x.frame.place,act:=.start}]:=rfl
 rw[Ag] at bh;obtain⟨T0,va⟩:=eL.tree;obtain⟨Tc,Em⟩:=I6.tree;have EE:=h.nG gs.size (ϊ _);have vE:=h.wt.spawn ha EE (by omega) (x:={g:=0,fn:=x.frame.fn,pos:=x.frame.place,act:=.go gs.size}) (y:={g:=gs.size,fn:=child.frame.fn,pos:=x.frame.place,act:=.start}) ⟨rfl,rfl⟩ ⟨rfl,rfl⟩ cz child
 have nN:=YP (Ψ:=gs.size) (x1:={g:=0,fn:=x.frame.fn,pos:=x.frame.place,act:=.go gs.size}) (x2:={g:=gs.size,fn:=child.frame.fn,pos:=x.frame.place,act:=.start}) rfl rfl;generalize hu:(#[{g:=0,fn:=x.frame.fn,pos:=x.frame.place,act:=.go gs.size},{g:=gs.size,fn:=child.frame.fn,pos:=x.frame.place,act:=.start}]:ε)=u at bh vE nN;have O1:∀op∈u,op.g<gs.size+1:=by
  rw[<-hu];intro op ag;simp only[ê,Ϡ,Á,or_false] at ag;rcases ag with rfl|rfl
  ·exact Nat.succ_pos _
  ·exact Nat.lt_succ_self _
 have eV:G.closed=U:=by unfold Gh.closed;rw[qt]
 have old:∀ {k a},Ý (t++u) k=J a->Ý t k=J a/\(t++u).g? k= t.g? k:=by
  intro k a ha;obtain⟨op,ag,cH⟩:=ĕ ha;rcases Ă ag with⟨_,bL⟩ | ⟨_,dW⟩
  ·exact⟨by rw[ġ bL];exact cH,by simp[Û,ag,bL]⟩
  ·rw[nN op dW] at cH;cases cH
 refine⟨_,_,_,{G with mp:=.walk X.n [],cp:=.walk X.n,act:=ft (ft G.act 0 (J ⟨M.shared,cz,w⟩)) gs.size (J ⟨M.shared,child,w⟩),tr:=upd (upd G.tr 0 T0) gs.size Tc},bh,?_,?_⟩
 ·refine⟨?_,kV,sU,λ_=>hj,⟨λ_=>rfl,λ_=>⟨_,_,.inl rfl⟩⟩,h.vU,?_,λi hi=>?_,λ_=>?_,λg y h1 h2 hy=>?_,λg h1 h2=>?_,λg hg=>?_,?_,?_,λ⟨_,_,e⟩=>(by cases e),λ⟨r,e⟩=>(by cases e),λ⟨_,_,e⟩=>(by cases e),vE,h.lU,?_,h.neq,h.base,λk a ha hm g hg ao=>?_,λk g hg=>?_,λi hi hq=>(h.kq i hi hq).app λop ag _=>nN op ag,λhc k a ha=>h.AM eV k a (old ha).1,λhc=>(by cases hc)⟩
  ·simp only[Ÿ,Ĕ,CP.ik];simp;omega
  ·refine⟨cz,by rw[wW,if_neg (by omega),if_pos ⟨rfl,iV⟩],?_⟩;unfold gD;simp only[ak _ _ (show 0≠gs.size by omega),fY,upd_ne _ _ (show 0≠gs.size by omega),upd_same];exact⟨_,_,_,rfl,rB.refl oK,va⟩
  ·have xC:i<G.j:=hi;obtain⟨y',fp,cI⟩:=h.wk i hi;refine⟨y',by rw[wW,if_neg (by omega),if_neg (by omega)];exact fp,?_⟩;exact WSit.congr (G:=G) (by exact rfl) (by simp only[ak _ _ (show X.N0+i≠gs.size by omega),ak _ _ (show X.N0+i≠0 by omega)]) (by simp only[upd_ne _ _ (show X.N0+i≠gs.size by omega),upd_ne _ _ (show X.N0+i≠0 by omega)]) (by exact rfl) cI
  ·refine⟨child,by rw[wW,if_pos vB.symm],?_⟩;unfold CSit;simp only[<-vB,fY,upd_same];exact⟨_,_,rfl,zO,Em⟩
  ·rw[wW,if_neg (by omega),if_neg (by omega)] at hy;exact h.old g y h1 h2 hy
  ·simp only[ak _ _ (show g≠gs.size by omega),ak _ _ (show g≠0 by omega)];exact h.oX g h1 h2
  ·simp only[Ÿ,Ĕ] at hg;simp only[ak _ _ (show g≠gs.size by omega),ak _ _ (show g≠0 by omega)];exact h.nG g (by omega)
  ·have dA:=h.cnt;unfold oq at dA |-;rw[qt] at dA;simp only at dA |-;omega
  ·have cG:=h.aD;unfold ou at cG |-;rw[hp] at cG;refine⟨List.nodup_nil,rfl,λi=>⟨λe=>(by cases e),λ⟨h1,h2,h3⟩=>?_⟩⟩;rw[cG i h1 h2] at h3;cases h3
  ·obtain⟨s,e⟩:=h.lX;rw[eV] at e;exact⟨s,e⟩
  ·obtain⟨a1,a2⟩:=old ha;rw[a2] at hg;exact(h.yk k a a1 hm g hg ao).app u
  ·simp only[Ÿ,Ĕ];unfold Û at hg;obtain⟨op,ag,e⟩:=ď.1 hg;rcases Ă ag with⟨_,bL⟩ | ⟨_,dW⟩
   ·have:=h.uW k g (by simp[Û,bL,e]);omega
   ·rw[<-e];exact O1 op dW
 ·unfold Gh.mu;simp only[hp,qt,MP.wt,CP.wt];omega
def WT.close{cL cN:Nat}{act:Nat->Option mB}(h:WT cL cN w t act)(ey:∀k a,Ý t k=J a->a.loc≠ .obj cN){x1 x2:MemOp}(hg:x1.g=x2.g)(h1:x1.act=.access ⟨.obj cN,U,D⟩)(h2:x2.act=.close cN){w':N}
 (V:w'.heap.size=w.heap.size)(hk:∀b,b≠cN->w'.heap[b]?=w.heap[b]?)(ht:w'.tape=w.tape)(ho:w'.os=w.os)(hp:w'.output=w.output):WT cL cN w' (t++#[x1,x2]) act:=by
 have mem:∀op∈#[x1,x2],op=x1\/op=x2:=λop ag=>by simpa using ag
 have sp:∀ {k a},Ý (t++#[x1,x2]) k=J a->Ý t k=J a\/a.loc=.obj cN:=by
  intro k a ha;obtain⟨op,ag,cH⟩:=ĕ ha;rcases Ă ag with⟨_,bL⟩ | ⟨_,dW⟩
  ·exact .inl (by rw[ġ bL];exact cH)
  ·rcases mem op dW with rfl|rfl
   ·rw[h1] at cH;simp[Ō] at cH;subst cH;exact .inr rfl
   ·rw[h2] at cH;cases cH
 refine⟨λg j e=>(h.keep g j e).trans ⟨by rw[V];exact ϊ _,λb hb=>hk b (h.low g j e b hb).2.2,ht,ho,hp⟩,h.nD,λg j e b hb=>by rw[V];exact h.low g j e b hb,λop ag=>?_,h.nd.app λop ag=>?_,λsaid=>?_,λg j e k a ha b hb hc=>?_,by rw[V];exact h.hL,by rw[V];exact h.hN⟩
 ·rw[V];rcases Array.mem_append.1 ag with ag|ag
  ·exact h.tl op ag
  ·rcases mem op ag with rfl|rfl
   ·rw[h1];exact h.hN
   ·rw[h2];exact h.hN
 ·rcases mem op ag with rfl|rfl
  ·rw[h1];simp
  ·rw[h2];simp
 ·refine noRace_append (g:=x1.g) (h.clean said) (λop ag=>by rcases mem op ag with rfl|rfl;rfl;exact hg.symm) λk a ha op ag b hb hc=>?_;rcases mem op ag with rfl|rfl
  ·rw[h1] at hb;simp[Ō] at hb;subst hb;exact absurd hc.1 (ey k a ha)
  ·rw[h2] at hb;cases hb
 ·rcases sp ha with ha|ha
  ·exact(h.perm g j e k a ha b hb hc).app _
  ·exfalso;have:sC a.loc cN:=.inl ha;obtain rfl:=PE hb this;exact(h.low g j e b (hc.imp id (·.1))).2.2 rfl
def closes(h:FI X wb gs w t G)(sl:Option (Nat×Nat))(hp:G.cp=.walk 0)(hx:gs[X.N0+X.n]?=J x)(ha:G.act (X.N0+X.n)=J ⟨M,x,aR⟩)
 (hS:AtClose X M x w):pz X wb gs w sl t G (X.N0+X.n):=by
 obtain⟨hrx,aiZ,gJ⟩:=hS;have kV:=h.n0;have br:G.cp.ik=U:=by rw[hp];rfl
 have qu:=h.jc br;have eV:G.closed=U:=by unfold Gh.closed;rw[hp]
 obtain⟨s,hc⟩:=h.lX;rw[eV] at hc;obtain⟨cz,k,dH,hq⟩:=gJ s s hc;have eT:∀i,i<X.n->G.st i=.quit:=by have dA:=h.cnt;unfold oq at dA;rw[hp] at dA;exact QN _ _ (by simpa using dA)
 have vq:X.N0+X.n<gs.size:=(Ϝ.1 hx).1;have bh:=runT_crowd_go (P:=X.P) (sl:=sl) (i:=X.N0+X.n) hx (by rw[h.uO];exact dH);have sS:Į (X.N0+X.n) x.frame.fn x.frame.place #[⟨.obj X.cN,U,D⟩,⟨.obj X.cN,D,D⟩]=#[{g:=X.N0+X.n,fn:=x.frame.fn,pos:=x.frame.place,act:=.access ⟨.obj X.cN,U,D⟩},{g:=X.N0+X.n,fn:=x.frame.fn,pos:=x.frame.place,act:=.close X.cN}]:=by rw[ofEvents_eq];simp[ğ]
 rw[sS] at bh;have Wh:(w.shut X.cN s s U).heap.size=w.heap.size:=by simp[World.shut]
 have Wi:∀b,b≠X.cN->(w.shut X.cN s s U).heap[b]?=w.heap[b]?:=λb hb=>by simp only[World.shut];rw[Ě (Θ hb)]
 have Wj:(w.shut X.cN s s U).heap[X.cN]?=J (.chan 0 #[] D s s U):=by simp[World.shut,h.wt.hN]
 have vE:=h.wt.close (h.AM eV) (x1:={g:=X.N0+X.n,fn:=x.frame.fn,pos:=x.frame.place,act:=.access ⟨.obj X.cN,U,D⟩}) (x2:={g:=X.N0+X.n,fn:=x.frame.fn,pos:=x.frame.place,act:=.close X.cN}) rfl rfl rfl (w':=w.shut X.cN s s U) Wh Wi rfl rfl rfl;have ahk:∃s',(w.shut X.cN s s U).heap[X.cL]?=J (.chan 0 #[] U s' s' U):=by obtain⟨s',e⟩:=h.lU;exact⟨s',by rw[Wi _ h.neq];exact e⟩
 have ahL:cz.status=.running\/cz.status=.finished:=hq.status;have xV:∀y,Ĉ X.P x cz (w.shut X.cN s s U) y=y.again (w.shut X.cN s s U):=by
  intro y;unfold Ĉ;rw[aiZ];rcases ahL with e|e<;>rw[e]<;>rfl
 have gq:∀ {i:Nat} {y:ϐ},i≠0->i≠X.N0+X.n->gs[i]?=J y->((gs.map (Ĉ X.P x cz (w.shut X.cN s s U))).setIfInBounds (X.N0+X.n) cz)[i]?=J y:=by
  intro i y cJ EJ hy;rw[Ě (Θ EJ),Ē,hy,ó];have:∃n,ĩ X.P n y:=by
   rcases h.tX (Ϝ.1 hy).1 with e| ⟨h1,h2⟩ | ⟨i',bG,rfl⟩ | ⟨e,_⟩
   ·exact absurd e cJ
   ·exact⟨_,h.old i y h1 h2 hy⟩
   ·obtain⟨y',fp,cI⟩:=h.wk i' bG;rw[hy] at fp;obtain rfl:=ϟ fp;unfold WSit at cI;rw[eT i' (by omega)] at cI;exact⟨_,cI.2⟩
   ·exact absurd e EJ
  obtain⟨n,hn⟩:=this;rw[woken_quits hn]
 have gc:((gs.map (Ĉ X.P x cz (w.shut X.cN s s U))).setIfInBounds (X.N0+X.n) cz)[X.N0+X.n]?=J cz:=Na vq cz;have aN:((gs.map (Ĉ X.P x cz (w.shut X.cN s s U))).setIfInBounds (X.N0+X.n) cz).size=gs.size:=by simp
 have Ox:∃y f aD,(G.mp=.walk f aD\/G.mp=.dp f aD)/\((gs.map (Ĉ X.P x cz (w.shut X.cN s s U))).setIfInBounds (X.N0+X.n) cz)[0]?=J y/\∃M aR y',G.act 0=J ⟨M,y',aR⟩/\rB y y'/\oD X.P D (oB X f aD) (G.tr 0) M y' aR:=by
  obtain⟨y,hy,V⟩:=h.main;have Ux:((gs.map (Ĉ X.P x cz (w.shut X.cN s s U))).setIfInBounds (X.N0+X.n) cz)[0]?=J (Ĉ X.P x cz (w.shut X.cN s s U) y):=by rw[Ě (by omega),Ē,hy,ó]
  unfold gD at V;cases e:G.mp with
  |spawn=>exact absurd (h.mc.2 br) (by rw[e];rintro⟨_,_,e|e⟩<;>cases e)|walk f aD=>rw[e] at V;obtain⟨M,aR,y',h1,h2,h3⟩:=V;exact⟨y,f,aD,.inl rfl,by rw[Ux,woken_run h2.2.2.2],M,aR,y',h1,h2,h3⟩
  |dp f aD=>rw[e] at V;obtain⟨M,aR,y',υ,h1,h2,h3⟩:=V;refine⟨{Ú y' #[é X.cN υ] (.recv D) with status:=.running},f,aD,.inr rfl,?_,M,aR,y',h1,⟨rfl,rfl,rfl,rfl⟩,.stop h3⟩;rw[Ux,xV,h2,again_recv_closed Wj]
 obtain⟨y0,f,aD,tb,OX,M0,v0,y0',rJ,iY,va⟩:=Ox;refine⟨_,_,_,{G with mp:=.walk f aD,cp:=.quit,act:=ft G.act (X.N0+X.n) H,q:=upd G.q (X.N0+X.n) k},bh,?_,?_⟩
 ·refine⟨aN.trans ?_,kV,h.jn,λ_=>qu,⟨λ_=>rfl,λ_=>⟨_,_,.inl rfl⟩⟩,h.vU,⟨y0,OX,?_⟩,λi hi=>?_,λ_=>⟨cz,gc,?_⟩,λg y h1 h2 hy=>?_,λg h1 h2=>?_,λg hg=>?_,?_,?_,λ⟨_,_,e⟩=>(by cases e),λ⟨r,e⟩=>(by cases e),λ⟨_,_,e⟩=>(by cases e),vE.drop _,ahk,⟨s,Wj⟩,h.neq,⟨by rw[Wh];exact h.base.size,h.base.tape,h.base.os,h.base.e⟩,λi a Og hm g hg ao=>?_,λi g hg=>?_,λi hi qH=>?_,(λhc=>by cases hc),λ_=>?_⟩
  ·rw[h.size,br];rfl
  ·unfold gD;simp only[ak _ _ (show 0≠X.N0+X.n by omega)];exact⟨M0,v0,y0',rJ,iY,va⟩
  ·have xC:i<G.j:=hi;obtain⟨y',fp,cI⟩:=h.wk i hi;refine⟨y',gq (by omega) (by omega) fp,?_⟩;exact WSit.congr (G:=G) (by exact rfl) (by simp only[ak _ _ (show X.N0+i≠X.N0+X.n by omega)]) (by exact rfl) (by simp only[upd_ne _ _ (show X.N0+i≠X.N0+X.n by omega)]) cI
  ·unfold CSit;simp only[fY,upd_same];exact⟨trivial,hq⟩
  ·have pL:gs[g]?=J y:=by
    have ao:g<gs.size:=(by rw[<-aN];exact(Ϝ.1 hy).1);have e1:=gq (i:=g) (y:=gs[g]) (by omega) (by omega) (ā ao);rw[hy] at e1;rw[ā ao];exact e1.symm
   simp only[upd_ne _ _ (show g≠X.N0+X.n by omega)];exact h.old g y h1 h2 pL
  ·simp only[ak _ _ (show g≠X.N0+X.n by omega)];exact h.oX g h1 h2
  ·rw[aN] at hg;simp only[ak _ _ (show g≠X.N0+X.n by omega)];exact h.nG g hg
  ·have dA:=h.cnt;unfold oq at dA |-;rw[hp] at dA;simpa using dA
  ·have cG:=h.aD;unfold ou at cG |-;rcases tb with e|e<;>rw[e] at cG<;>exact cG
  ·obtain⟨op,ag,cH⟩:=ĕ Og;rcases Ă ag with⟨_,bL⟩ | ⟨_,dW⟩
   ·exact(h.yk i a (by rw[ġ bL];exact cH) hm g (by simpa [Û,ag,bL] using hg) ao).app _
   ·exfalso;have e:op.g=g:=(by simpa [Û,ag] using hg);simp only[ê,Ϡ,Á,or_false] at dW;rcases dW with rfl|rfl<;>(simp only at e;omega)
  ·rw[aN];unfold Û at hg;obtain⟨op,ag,e⟩:=ď.1 hg;rcases Ă ag with⟨_,bL⟩ | ⟨_,dW⟩
   ·exact h.uW i g (by simp[Û,bL,e])
   ·simp only[ê,Ϡ,Á,or_false] at dW;rcases dW with rfl|rfl<;>(simp only at e;omega)
  ·refine(h.kq i hi qH).app λop ag e=>?_;exfalso;simp only[ê,Ϡ,Á,or_false] at ag;rcases ag with rfl|rfl<;>(simp only at e;omega)
  ·have e1:(t++#[({g:=X.N0+X.n,fn:=x.frame.fn,pos:=x.frame.place,act:=.access ⟨.obj X.cN,U,D⟩}:MemOp),{g:=X.N0+X.n,fn:=x.frame.fn,pos:=x.frame.place,act:=.close X.cN}])[t.size+1]?=J {g:=X.N0+X.n,fn:=x.frame.fn,pos:=x.frame.place,act:=.close X.cN}:=by
    rw[Aek (by omega)];simp
   refine⟨t.size+1,_,e1,rfl,rfl,λi a Og g hg ky=>?_⟩;obtain⟨op,ag,cH⟩:=ĕ Og;rcases Ă ag with⟨_,bL⟩ | ⟨asa,dW⟩
   ·have Fc:Ý t i=J a:=by rw[ġ bL];exact cH
    have vk: t.g? i=J g:=(by simpa [Û,ag,bL] using hg);have ao:=h.uW i g vk;have cP:Knows t (X.N0+X.n) i:=by
     rcases h.tX ao with e| ⟨_,e⟩ | ⟨i',bG,e⟩ | ⟨e,_⟩
     ·omega
     ·omega
     ·subst e;exact h.kq i' (by omega) (eT i' (by omega)) i a Fc vk
     ·subst e;exact uM.self t _ i a Fc vk
    exact .inr (cP.hb_new (by omega) e1 rfl)
   ·have EI:i=t.size:=by
     have:= Afb ag;simp at this;by_cases e:i=t.size
     ·exact e
     ·have e3:i=t.size+1:=by omega
      subst e3;rw[e1] at ag;obtain rfl:=ϟ ag;cases cH
    subst EI;exact .inr (hb_po (by omega) ag e1 (by simp only[ê,Ϡ,Á,or_false] at dW;rcases dW with rfl|rfl<;>rfl))
 ·unfold Gh.mu;simp only[hp,CP.wt,MP.wt];rcases tb with e|e<;>rw[e]<;>simp only[MP.wt]<;>omega
def Ends(X:Pm)(wb:N)(aY:Array ϐ)(w':N)(t':ε):Prop:=
 ∃q' g' M aD,Fr X.P aY w' t' q' g'/\X.End aD M g' w'/\aD.Nodup/\(∀i,i∈aD↔i<X.n/\X.cX i=D)/\Base wb w'/\∀b,M.has b->b<w'.heap.size
def ends(h:FI X wb gs w t G)(sl:Option (Nat×Nat))(gJ:G.closed=D)(hp:G.mp=.walk f aD)(h0:gs[0]?=J x)(ha:G.act 0=J ⟨M,y,v0⟩)(iY:rB x y)
 (hR:oB X f aD M y w):∃aY u,runT X.P (ϫ gs w sl) 0=(.next (ϫ aY w sl),u)/\Ends X wb aY w (t++u):=by
 obtain⟨_,_,υ,dH,rP⟩:=hR.at;have kV:=h.n0;have br:=CP.adV gJ;have qu:=h.jc br;have eT:=h.aae gJ;obtain⟨s,hc⟩:=h.lX;rw[gJ] at hc;have Ad:Ġ (gs.setIfInBounds 0 ph) X.cN D=[]:=by
  refine Afk λj y hy=>?_;rcases Ŋ gs _ j y hy with⟨_,rfl⟩ | ⟨hj,hy⟩
  ·exact ŋ _ _
  ·cases hl:ť y X.cN D with
   |nil=>rfl|cons a l=>exfalso;obtain⟨e,g,v,z',hyp⟩:=P0 h (m:=a) hy (by rw[hl];simp);rw[hyp] at hy;obtain⟨i,_,_,_,hi,_,eW,_⟩:=h.Md hy;rw[eT i (by omega)] at eW;cases eW
 have qI:ϙ X.P (0==0) x w=.comm y #[é X.cN υ] D (.recv D) w #[]:=by rw[Afn iY.1 iY.2.1 iY.2.2.1];exact dH
 have bh:=crowd_recv_closed (P:=X.P) (sl:=sl) h0 qI hc Ad;rw[oW,Aem] at bh;have iV:0<gs.size:=(Ϝ.1 h0).1
 let y1:MemOp:={g:=0,fn:=y.frame.fn,pos:=y.frame.place,act:=.recvClosed X.cN}
 have hm:=h.wt.mute (u:=#[y1]) (w':=w) (λop ag=>by
  simp only[ê,Ô] at ag;subst ag;exact⟨rfl,h.wt.hN,by simp[y1],by simp[y1]⟩) rfl (λ_ _ _=>rfl) rfl rfl rfl
 have e1:(t++#[y1])[t.size]?=J y1:=by rw[Aek (ϊ _)];simp
 obtain⟨c,zc,c1,c2,c3,c4⟩:=h.DW gJ;have ec:(t++#[y1])[c]?=J zc:=by rw[Afa (Afb c1)];exact c1
 have Vv:∀k a,Ý (t++#[y1]) k=J a->a.loc.isMemory=D->Knows (t++#[y1]) 0 k:=by
  intro k a xG hmm;obtain⟨op,ag,cH⟩:=ĕ xG;rcases Ă ag with⟨hk,bL⟩ | ⟨_,dW⟩
  ·have Fc:Ý t k=J a:=by rw[ġ bL];exact cH
   by_cases hg:op.g<X.N0
   ·exact(h.yk k a Fc hmm op.g (by simp[Û,bL]) hg).app _
   ·have hb:=c4 k a Fc op.g (by simp[Û,bL]) (by omega);have aeT:HappensBefore (t++#[y1]) c t.size:=.single (.inr ⟨.closed (c:=X.cN) (by rw[act?_of ec,c2]) (by rw[act?_of e1]),Jz hm.nd ec,Jz hm.nd e1⟩);exact⟨t.size,y1,e1,rfl,.inr ((hb.app #[y1]).hb aeT)⟩
  ·simp only[ê,Ô] at dW;subst dW;cases cH
 have Cd:∀op∈t++#[y1],op.g<(gs.setIfInBounds 0 (ϩ y (ý D υ U))).size:=by
  intro op ag;rw[Ĕ];obtain⟨k,hk⟩:=Array.getElem?_of_mem ag;rcases Ă hk with⟨_,kU⟩ | ⟨_,kU⟩
  ·exact h.uW k op.g (by simp[Û,kU])
  ·simp only[ê,Ô] at kU;subst kU;exact iV
 refine⟨_,_,bh,G.q,ϩ y (ý D υ U),M,aD,⟨by rw[one_set,if_pos ⟨rfl,iV⟩];rfl,λi xi hi Fp=>?_,⟨hm.clean,λk a xG hmm=>.inl (Vv k a xG hmm),λk g hg aw dA=>?_,F0 hm.nd 0,hm.tl⟩,hm.nd,Cd⟩,rP,?_,?_,h.base,λb hb=>(h.wt.low 0 _ ha b hb).1⟩
 ·rw[one_set,if_neg (by omega)] at Fp;rcases h.tX (Ϝ.1 Fp).1 with e| ⟨h1,h2⟩ | ⟨i',bG,rfl⟩ | ⟨rfl,_⟩
  ·omega
  ·exact h.old i xi h1 h2 Fp
  ·obtain⟨y',fp,cI⟩:=h.wk i' bG;rw[Fp] at fp;obtain rfl:=ϟ fp;unfold WSit at cI;rw[eT i' (by omega)] at cI;exact cI.2
  ·obtain⟨y',fp,cI⟩:=h.cl br;rw[Fp] at fp;obtain rfl:=ϟ fp;unfold CSit at cI;unfold Gh.closed at gJ;cases e:G.cp with
   |quit=>rw[e] at cI;exact cI.2
   |_=>rw[e] at gJ;cases gJ
 ·obtain⟨a,ha,hmm,_⟩:=dA;obtain⟨q,z',rW,rX,OP⟩:=Vv k a ha hmm;rcases OP with rfl|OP
  ·exfalso;apply aw;have:(t++#[y1]).g? k=J z'.g:=by unfold Û;rw[rW];rfl
   have e:J z'.g=J g:=this.symm.trans hg;rw[rX] at e;exact(ϟ e).symm
  ·exact⟨q,by unfold Û;rw[rW,ó,rX],OP⟩
 ·have cG:=h.aD;unfold ou at cG;rw[hp] at cG;exact cG.1
 ·have cG:=h.aD;unfold ou at cG;rw[hp] at cG;intro i;rw[cG.2.2 i];exact⟨λ⟨a,b,_⟩=>⟨a,b⟩,λ⟨a,b⟩=>⟨a,b,by rw[eT i a];rfl⟩⟩
def GU(X:Pm)(G' G:Gh):Prop:=
 G'.mu X<G.mu X\/(G'.mu X=G.mu X/\(Br (X.N0+X.n+1) G'.tr G.tr\/(G'.tr=G.tr/\sumTo (X.N0+X.n+1) G'.q<sumTo (X.N0+X.n+1) G.q)))
def afG(h:FI X wb gs w t G)(sl:Option (Nat×Nat)):
 (∃aY w' bB u,stepT X.P (ϫ gs w sl)=(.next (ϫ aY w' bB),u)/\Ends X wb aY w' (t++u))\/
 ∃aY w' bB u G',stepT X.P (ϫ gs w sl)=(.next (ϫ aY w' bB),u)/\FI X wb aY w' (t++u) G'/\GU X G' G:=by
 obtain⟨k,x,d,bB,hx,bh,eW⟩:=crowd_pick (P:=X.P) (w:=w) (sl:=sl) h.awake h.ao6;have h1:=h.at d;have kV:=h.n0;have sU:=h.jn;have rD:pz X wb gs (w.at d) bB t G k->∃aY w' bB u G',stepT X.P (ϫ gs w sl)=(.next (ϫ aY w' bB),u)/\FI X wb aY w' (t++u) G'/\GU X G' G:=by rintro⟨aY,w',u,G',r1,r2,r3⟩;exact⟨aY,w',bB,u,G',eW.trans r1,r2,.inl r3⟩
 have DO:∀ {j:mB} {T':Tree} {g':ϐ} {w':N} {es:Array Event},G.act k=J j->ϙ X.P (k==0) x (w.at d)=.go g' w' es->eZ j.M (w.at d) w' es->Tree.lt T' (G.tr k)->k<X.N0+X.n+1->
  Sr X {G with act:=ft G.act k (J ⟨j.M.grow (w.at d) w',g',w'⟩),tr:=upd G.tr k T'} k g'->∃aY w' bB u G',stepT X.P (ϫ gs w sl)=(.next (ϫ aY w' bB),u)/\FI X wb aY w' (t++u) G'/\GU X G' G:=by
  intro j T' g' w' es pE dH hd hT hk rZ;refine⟨_,w',bB,_,_,eW.trans (runT_crowd_go hx dH),h1.own hx pE hd T' _ _ rZ,.inr ⟨rfl,.inl ⟨k,hk,?_,λi hi=>?_⟩⟩⟩
  ·show Tree.lt (upd G.tr k T' k) _;rw[upd_same];exact hT
  ·exact upd_ne _ _ hi
 have Mo:ĩ X.P (G.q k) x->k<X.N0+X.n+1->k≠0->((0<k/\k<X.N0)\/(∃i,i<G.j/\k=X.N0+i/\G.st i=.quit)\/(k=X.N0+X.n/\G.closed=D))->∃aY w' bB u G',stepT X.P (ϫ gs w sl)=(.next (ϫ aY w' bB),u)/\FI X wb aY w' (t++u) G'/\GU X G' G:=by
  intro hq hk iA rZ;have ahU:(k==0)=U:=by simpa using iA
  cases OQ:G.q k with
  |zero=>rw[OQ] at hq;rw[show x.status=.finished from hq] at bh;cases bh
  |succ m=>
   rw[OQ] at hq;rcases hq with hf| ⟨_,g',Fa,oQ⟩
   ·rw[hf] at bh;cases bh
   have T:=runT_crowd_go (P:=X.P) (sl:=bB) (i:=k) hx (by rw[ahU];exact Fa (w.at d));rw[oW] at T;refine⟨_,w.at d,bB,#[],{G with q:=upd G.q k m},eW.trans T,by rw[ç];exact h1.anb hx rZ oQ,.inr ⟨rfl,.inr ⟨rfl,?_⟩⟩⟩;have I2:sumTo (X.N0+X.n+1) (upd G.q k m)+(m+1)=sumTo (X.N0+X.n+1) G.q+m:=by have:=sumTo_upd G.q m id hk;simpa [OQ] using this
   show sumTo (X.N0+X.n+1) (upd G.q k m)<_;omega
 rcases h.tX (Ϝ.1 hx).1 with rfl| ⟨k1,k2⟩ | ⟨i,hi,rfl⟩ | ⟨rfl,br⟩
 ·
  obtain⟨x',ij,V⟩:=h.main;rw[hx] at ij;obtain rfl:=ϟ ij;unfold gD at V;cases e:G.mp with
  |spawn=>
   rw[e] at V;obtain⟨M,aR,ha,T,hT⟩:=V;have hk:=h1.wt.keep 0 _ ha;rcases hT.sK with mR| ⟨_,hgo⟩
   ·right;cases kY:X.n - G.j with
    |zero=>exact rD (apn h1 bB e kY hx ha (by rw[kY] at mR;exact mR _ hk))|succ r=>exact rD (apo h1 bB e kY hx ha (by rw[kY] at mR;exact mR _ hk))
   ·right;obtain⟨T',g',w',es,ao,dH,hd,mM⟩:=hgo _ hk;refine DO ha dH hd ao (by omega) (.inl ⟨rfl,?_⟩);unfold gD;simp only[e,fY,upd_same];refine⟨_,_,rfl,?_,mM⟩;rcases mM.sK with dN| ⟨kY,_⟩
    ·have:=dN _ (bR.refl _ _)
     revert this
     cases X.n - G.j with
     |zero=>exactλh=>h.1
     |succ r=>exactλh=>h.1
    ·exact kY
  |walk f aD=>
   rw[e] at V;obtain⟨M,aR,y,ha,iY,hT⟩:=V;have hk:=h1.wt.keep 0 _ ha;rcases hT.sK with mR| ⟨_,hgo⟩
   ·by_cases gJ:G.closed=D
    ·left;obtain⟨aY,u,r1,r2⟩:=ends h1 bB gJ e hx ha iY (mR _ hk);exact⟨aY,_,bB,u,eW.trans r1,r2⟩
    ·right;by_cases hex:∃i,i<X.n/\G.st i=.jD
     ·exact rD (anm h1 bB e hx ha iY mR hex)
     ·exact rD (ann h1 bB e hx ha iY mR (by simpa using gJ) hex)
   ·right;obtain⟨T',g',w',es,ao,dH,hd,mM⟩:=hgo _ hk;have aiH:ϙ X.P (0==0) x (w.at d)=.go g' w' es:=by rw[Afn iY.1 iY.2.1 iY.2.2.1];exact dH
    refine DO ha aiH hd ao (by omega) (.inl ⟨rfl,?_⟩);unfold gD;simp only[e,fY,upd_same];refine⟨_,_,_,rfl,rB.refl ?_,mM⟩;rcases mM.sK with dN| ⟨kY,_⟩
    ·exact(dN _ (bR.refl _ _)).at.1
    ·exact kY
  |dp f aD=>rw[e] at V;obtain⟨M,aR,y,υ,ha,T,hT⟩:=V;rw[T] at bh;cases bh
 ·right;exact Mo (h.old k x k1 k2 hx) (by omega) (by omega) (.inl ⟨k1,k2⟩)
 ·
  right;obtain⟨x',ij,V⟩:=h.wk i hi;rw[hx] at ij;obtain rfl:=ϟ ij;have rL:(X.N0+i==0)=U:=h.uO i;have Y4:∀ {M:ay} {aR:N},yM X G i->G.act (X.N0+i)=J ⟨M,x,aR⟩->W2 X M x (w.at d)->pz X wb gs (w.at d) bB t G (X.N0+i):=by
   intro M aR hd ha hW;by_cases hp:∃r,G.cp=.dp r
   ·obtain⟨r,hp⟩:=hp;exact aoO h1 bB hi hd hx ha hW hp
   ·exact aoP h1 bB hi hd hx ha hW hp
  unfold WSit at V;cases e:G.st i with
  |no=>rw[e] at V;exact V.elim
  |lj=>
   rw[e] at V;obtain⟨M,aR,ha,T,hT⟩:=V;have hk:=h1.wt.keep _ _ ha;rcases hT.sK with mR| ⟨_,hgo⟩
   ·rcases mR _ hk with⟨hn,hS⟩ | ⟨hn,hS⟩
    ·by_cases hp:∃f aD,G.mp=.dp f aD
     ·obtain⟨f,aD,hp⟩:=hp;exact rD (aoQ h1 bB hi e hx ha hn hS hp)
     ·exact rD (aoR h1 bB hi e hx ha hn hS hp)
    ·exact rD (Y4 (.inr ⟨e,hn⟩) ha hS)
   ·obtain⟨T',g',w',es,ao,dH,hd,mM⟩:=hgo _ hk;refine DO ha (by rw[rL];exact dH) hd ao (by omega) (.inr (.inl ⟨i,hi,rfl,?_⟩));unfold WSit;simp only[e,fY,upd_same];refine⟨_,_,rfl,?_,mM⟩;rcases mM.sK with dN| ⟨kY,_⟩
    ·rcases dN _ (bR.refl _ _) with⟨_,hS⟩ | ⟨_,hS⟩
     ·exact hS.1
     ·exact hS.1
    ·exact kY
  |jD=>rw[e] at V;obtain⟨M,aR,y,υ,ha,T,_⟩:=V;rw[T] at bh;cases bh
  |jj=>
   rw[e] at V;obtain⟨M,aR,ha,T,hT⟩:=V;have hk:=h1.wt.keep _ _ ha;rcases hT.sK with mR| ⟨_,hgo⟩
   ·exact rD (Y4 (.inl e) ha (mR _ hk))
   ·obtain⟨T',g',w',es,ao,dH,hd,mM⟩:=hgo _ hk;refine DO ha (by rw[rL];exact dH) hd ao (by omega) (.inr (.inl ⟨i,hi,rfl,?_⟩));unfold WSit;simp only[e,fY,upd_same];refine⟨_,_,rfl,?_,mM⟩;rcases mM.sK with dN| ⟨kY,_⟩
    ·exact(dN _ (bR.refl _ _)).1
    ·exact kY
  |jg=>rw[e] at V;obtain⟨M,aR,y,υ,ha,T,_⟩:=V;rw[T] at bh;cases bh
  |quit=>rw[e] at V;exact Mo V.2 (by omega) (by omega) (.inr (.inl ⟨i,hi,rfl,e⟩))
 ·
  right;obtain⟨x',ij,V⟩:=h.cl br;rw[hx] at ij;obtain rfl:=ϟ ij;have rL:(X.N0+X.n==0)=U:=h.uO X.n;unfold CSit at V;cases e:G.cp with
  |no=>rw[e] at V;exact V.elim
  |walk r=>
   rw[e] at V;obtain⟨M,aR,ha,T,hT⟩:=V;have hk:=h1.wt.keep _ _ ha;rcases hT.sK with mR| ⟨_,hgo⟩
   ·cases r with
    |zero=>exact rD (closes h1 bB e hx ha (mR _ hk))
    |succ r=>
     by_cases hex:∃i,i<X.n/\G.st i=.jg
     ·exact rD (ank h1 bB e hx ha (mR _ hk) hex)
     ·exact rD (anl h1 bB e hx ha (mR _ hk) hex)
   ·obtain⟨T',g',w',es,ao,dH,hd,mM⟩:=hgo _ hk;refine DO ha (by rw[rL];exact dH) hd ao (by omega) (.inr (.inr ⟨rfl,br,?_⟩));unfold CSit;simp only[e,fY,upd_same];refine⟨_,_,rfl,?_,mM⟩;rcases mM.sK with dN| ⟨kY,_⟩
    ·have:=dN _ (bR.refl _ _)
     revert this
     cases r with
     |zero=>exactλh=>h.1
     |succ r=>exactλh=>h.1
    ·exact kY
  |dp r=>rw[e] at V;obtain⟨r',M,aR,y,υ,_,ha,T,_⟩:=V;rw[T] at bh;cases bh
  |quit=>rw[e] at V;exact Mo V.2 (by omega) (by omega) (.inr (.inr ⟨rfl,by unfold Gh.closed;rw[e]⟩))
def afF:∀ {gs:Array ϐ} {w:N} {t:ε} {G:Gh} (sl:Option (Nat×Nat)),FI X wb gs w t G->
 ∃Ψ aY w' bB t',runNT X.P Ψ (ϫ gs w sl) t=(.next (ϫ aY w' bB),t')/\Ends X wb aY w' t':=by
 have key:∀(m:Nat) (tr:Nat->Tree),Acc (Br (X.N0+X.n+1)) tr->∀(s:Nat) {gs:Array ϐ} {w:N} {t:ε} {G:Gh} (sl:Option (Nat×Nat)),G.mu X=m->G.tr=tr->sumTo (X.N0+X.n+1) G.q=s->FI X wb gs w t G->
  ∃Ψ aY w' bB t',runNT X.P Ψ (ϫ gs w sl) t=(.next (ϫ aY w' bB),t')/\Ends X wb aY w' t':=by
  intro m;induction m using Nat.strongRecOn with
  |_ m ihm=>
   intro tr Ep;induction Ep with
   |intro tr _ ajf=>
    intro s;induction s using Nat.strongRecOn with
    |_ s ihs=>
     intro gs w t G sl nN kB I2 hF;rcases afG hF sl with⟨aY,w',bB,u,r1,r2⟩ | ⟨aY,w',bB,u,G',r1,r2,r3⟩
     ·exact⟨1,aY,w',bB,t++u,by simp only[runNT,r1],r2⟩
     ·have fin:(∃Ψ Hy bz oc t',runNT X.P Ψ (ϫ aY w' bB) (t++u)=(.next (ϫ Hy bz oc),t')/\Ends X wb Hy bz t')->∃Ψ aY w' bB t',runNT X.P Ψ (ϫ gs w sl) t=(.next (ϫ aY w' bB),t')/\Ends X wb aY w' t':=by
       rintro⟨Ψ,Hy,bz,oc,t',q1,q2⟩;exact⟨Ψ+1,Hy,bz,oc,t',by simp only[runNT,r1];exact q1,q2⟩
      apply fin;rcases r3 with ao| ⟨he,dH| ⟨aiQ,ao⟩⟩
      ·exact ihm _ (by rw[<-nN];exact ao) G'.tr (YQ _ _) _ bB rfl rfl rfl r2
      ·exact ajf G'.tr (by rw[<-kB];exact dH) _ bB (he.trans nN) rfl rfl r2
      ·exact ihs _ (by rw[<-I2];exact ao) bB (he.trans nN) (aiQ.trans kB) rfl r2
 exactλ{gs w t G} sl hF=>key _ _ (YQ _ _) _ sl rfl rfl rfl hF
end
end Go.Sim
namespace Go.Tw
open Go Go.Proofs Go.Sim
class aK where
 JY:Func
variable [aK]
def dead:Func:={Tryz.f38 with name:= "left out",body:=H}
def bad:List Nat:=[0,1,21,38,120,121,124,218,219,220,221,222,223,224,225,226,227,228,229,230,231,232,233,237,238,239]
def vF(f:Nat):Bool:=bad.contains f
def F:Array Func:=(ϋ.funcs.mapIdx λi fn=>if vF i then dead else fn).setIfInBounds 21 aK.JY
def prog:ϗ:=tw ϋ F
def aqd(P:ϗ)(F:Array Func):(tw P F).funcs=F:=rfl
def P6:prog.funcs=F:=aqd _ _
def acP(h:P.funcs[f]?=J fn)(hb:fn.body.isSome=D):∀g,P.funcs[f]?=J g->g.body.isSome=D:=by intro g hg;rw[h] at hg;cases hg;exact hb
def RH(f:Nat)(h:vF f=U):F[f]?=ϋ.funcs[f]?:=by
 have sP:21≠f:=by rintro rfl;exact absurd h (by decide)
 unfold F;rw[Ü,if_neg sP,Aeo];cases ϋ.funcs[f]? with
 |none=>rfl
 |some fn=>simp only[ó,h,Bool.false_eq_true,if_false]
def aaZ(f:Nat)(h:vF f=D)(sP:21≠f):F[f]?=H\/F[f]?=J dead:=by
 unfold F;rw[Ü,if_neg sP,Aeo];cases ϋ.funcs[f]? with
 |none=>exact .inl rfl
 |some fn=>right;simp only[ó,h,if_true]
def Be:F[21]?=J aK.JY:=by
 have V:21<ϋ.funcs.size:=by apply ä;intro h;have:=Tryz.func21;rw[ę (by omega)] at this;exact absurd this (by simp)
 unfold F;rw[Ü,if_pos rfl,if_pos (by simpa using V)]
def get(f:Nat)(h:vF f=U):prog.funcs[f]?=ϋ.funcs[f]?:=by rw[P6];exact RH f h
def aP{g:Func}(h:vF f=U)(k:ϋ.funcs[f]?=J g):prog.funcs[f]?=J g:=(get f h).trans k
def func20:=aP rfl Tryz.func20
def func22:=aP rfl Tryz.func22
def func24:=aP rfl Tryz.func24
def func26:=aP rfl Tryz.func26
def func28:=aP rfl Tryz.func28
def func30:=aP rfl Tryz.func30
def func31:=aP rfl Tryz.func31
def func33:=aP rfl Tryz.func33
def func34:=aP rfl Tryz.func34
def func35:=aP rfl Tryz.func35
def func36:=aP rfl Tryz.func36
def func37:=aP rfl Tryz.func37
def func39:=aP rfl Tryz.func39
def func43:=aP rfl Tryz.func43
def func46:=aP rfl Tryz.func46
def func47:=aP rfl Tryz.func47
def func48:=aP rfl Tryz.func48
def func49:=aP rfl Tryz.func49
def func50:=aP rfl Tryz.func50
def func51:=aP rfl Tryz.func51
def func53:=aP rfl Tryz.func53
def func56:=aP rfl Tryz.func56
def func57:=aP rfl Tryz.func57
def func59:=aP rfl Tryz.func59
def func61:=aP rfl Tryz.func61
def func62:=aP rfl Tryz.func62
def func66:=aP rfl Tryz.func66
def func67:=aP rfl Tryz.func67
def func68:=aP rfl Tryz.func68
def func69:=aP rfl Tryz.func69
def func75:=aP rfl Tryz.func75
def func77:=aP rfl Tryz.func77
def func78:=aP rfl Tryz.func78
def func94:=aP rfl Tryz.func94
def func95:=aP rfl Tryz.func95
def func96:=aP rfl Tryz.func96
def func97:=aP rfl Tryz.func97
def func98:=aP rfl Tryz.func98
def func99:=aP rfl Tryz.func99
def func100:=aP rfl Tryz.func100
def func101:=aP rfl Tryz.func101
def func102:=aP rfl Tryz.func102
def func103:=aP rfl Tryz.func103
def func104:=aP rfl Tryz.func104
def func106:=aP rfl Tryz.func106
def func107:=aP rfl Tryz.func107
def func108:=aP rfl Tryz.func108
def func109:=aP rfl Tryz.func109
def func110:=aP rfl Tryz.func110
def func111:=aP rfl Tryz.func111
def func113:=aP rfl Tryz.func113
def func114:=aP rfl Tryz.func114
def func115:=aP rfl Tryz.func115
def func116:=aP rfl Tryz.func116
def func117:=aP rfl Tryz.func117
def func118:=aP rfl Tryz.func118
def func119:=aP rfl Tryz.func119
def func122:=aP rfl Tryz.func122
def func123:=aP rfl Tryz.func123
def func125:=aP rfl Tryz.func125
def func126:=aP rfl Tryz.func126
def func127:=aP rfl Tryz.func127
def func128:=aP rfl Tryz.func128
def func130:=aP rfl Tryz.func130
def func131:=aP rfl Tryz.func131
def func132:=aP rfl Tryz.func132
def func133:=aP rfl Tryz.func133
def func134:=aP rfl Tryz.func134
def func135:=aP rfl Tryz.func135
def func136:=aP rfl Tryz.func136
def func138:=aP rfl Tryz.func138
def func139:=aP rfl Tryz.func139
def func141:=aP rfl Tryz.func141
def func142:=aP rfl Tryz.func142
def func143:=aP rfl Tryz.func143
def func144:=aP rfl Tryz.func144
def func145:=aP rfl Tryz.func145
def func146:=aP rfl Tryz.func146
def func147:=aP rfl Tryz.func147
def func148:=aP rfl Tryz.func148
def func150:=aP rfl Tryz.func150
def func152:=aP rfl Tryz.func152
def func154:=aP rfl Tryz.func154
def func155:=aP rfl Tryz.func155
def func158:=aP rfl Tryz.func158
def func159:=aP rfl Tryz.func159
def func162:=aP rfl Tryz.func162
def func163:=aP rfl Tryz.func163
def func164:=aP rfl Tryz.func164
def func165:=aP rfl Tryz.func165
def func166:=aP rfl Tryz.func166
def func167:=aP rfl Tryz.func167
def func168:=aP rfl Tryz.func168
def func169:=aP rfl Tryz.func169
def func170:=aP rfl Tryz.func170
def func171:=aP rfl Tryz.func171
def func172:=aP rfl Tryz.func172
def func173:=aP rfl Tryz.func173
def func174:=aP rfl Tryz.func174
def func175:=aP rfl Tryz.func175
def func176:=aP rfl Tryz.func176
def func177:=aP rfl Tryz.func177
def func178:=aP rfl Tryz.func178
def func179:=aP rfl Tryz.func179
def func180:=aP rfl Tryz.func180
def func181:=aP rfl Tryz.func181
def func182:=aP rfl Tryz.func182
def func183:=aP rfl Tryz.func183
def func184:=aP rfl Tryz.func184
def func185:=aP rfl Tryz.func185
def func186:=aP rfl Tryz.func186
def func187:=aP rfl Tryz.func187
def func188:=aP rfl Tryz.func188
def func189:=aP rfl Tryz.func189
def func190:=aP rfl Tryz.func190
def func191:=aP rfl Tryz.func191
def func192:=aP rfl Tryz.func192
def func193:=aP rfl Tryz.func193
def func194:=aP rfl Tryz.func194
def func195:=aP rfl Tryz.func195
def func196:=aP rfl Tryz.func196
def func197:=aP rfl Tryz.func197
def func198:=aP rfl Tryz.func198
def func199:=aP rfl Tryz.func199
def func200:=aP rfl Tryz.func200
def func201:=aP rfl Tryz.func201
def func202:=aP rfl Tryz.func202
def func203:=aP rfl Tryz.func203
def func204:=aP rfl Tryz.func204
def func205:=aP rfl Tryz.func205
def func206:=aP rfl Tryz.func206
def func207:=aP rfl Tryz.func207
def func208:=aP rfl Tryz.func208
def func209:=aP rfl Tryz.func209
def func210:=aP rfl Tryz.func210
def func211:=aP rfl Tryz.func211
def func212:=aP rfl Tryz.func212
def func213:=aP rfl Tryz.func213
def func214:=aP rfl Tryz.func214
def func215:=aP rfl Tryz.func215
def func216:=aP rfl Tryz.func216
def func217:=aP rfl Tryz.func217
def func234:=aP rfl Tryz.func234
def func235:=aP rfl Tryz.func235
def func236:=aP rfl Tryz.func236
section
variable (P:ϗ)(F:Array Func)
def Zg(t:ώ)(w:N):(typeInfo t).run (tw P F) w=(typeInfo t).run P w:=by simp only[typeInfo,Go.program,Sem.run,bind,Sem.bind,wx];cases P.info? t<;>rfl
def Ze(t:ώ)(w:N):(Go.underlying t).run (tw P F) w=(Go.underlying t).run P w:=by simp only[Go.underlying,Go.program,Sem.run,bind,Sem.bind,kJ];cases P.underlying t<;>rfl
def aqf(t:ώ)(w:N):(sizeOf t).run (tw P F) w=(sizeOf t).run P w:=by simp only[sizeOf,Afz,Zg,Af0]
def aqi(t:ώ)(w:N):(zeroValue t).run (tw P F) w=(zeroValue t).run P w:=by
 unfold zeroValue;rw[Afz,Afz,Zg];congr 1;funext i w;cases i.zero with
 |none=>simp only[unsupported,Sem.run]
 |some v=>simp only[Af0]
def aqe(t:ώ)(w:N):(isAgg t).run (tw P F) w=(isAgg t).run P w:=by unfold isAgg;rw[Afz,Afz,Ze];congr 1;funext i w;cases i<;>simp only[Af0]
def aqb{P:ϗ}{F:Array Func}(h:(tw P F).funcs[f]?=P.funcs[f]?)(args:Array z)(w:N)(V:∀fn,P.funcs[f]?=J fn->fn.body.isSome=D){r:Result Next}(T:(callFunc f args).run P w=r):(callFunc f args).run (tw P F) w=r:=by
 rw[<-T];simp only[callFunc,Go.program,Sem.run,bind,Sem.bind,h];cases e:P.funcs[f]? with
 |none=>rfl
 |some fn=>have hb:=V fn e;obtain⟨c,hc⟩:=Option.isSome_iff_exists.1 hb;simp only[hc,Option.isNone_some,Bool.false_eq_true,if_false];split<;>rfl
end
@[simp]theorem Ke(t:ώ):prog.underlying t=ϋ.underlying t:=kJ _ _ _
@[simp]theorem qS(t:ώ): prog.info? t= ϋ.info? t:=wx _ _ _
@[simp]theorem avh(t:ώ)(w:N):(typeInfo t).run prog w=(typeInfo t).run ϋ w:=Zg _ _ _ _
@[simp]theorem atl(t:ώ)(w:N):(Go.underlying t).run prog w=(Go.underlying t).run ϋ w:=Ze _ _ _ _
@[simp]theorem ap3(t:ώ)(w:N):(sizeOf t).run prog w=(sizeOf t).run ϋ w:=aqf _ _ _ _
@[simp]theorem QS(t:ώ)(w:N):(zeroValue t).run prog w=(zeroValue t).run ϋ w:=aqi _ _ _ _
@[simp]theorem ap2(t:ώ)(w:N):(isAgg t).run prog w=(isAgg t).run ϋ w:=aqe _ _ _ _
@[simp]theorem Kd(t:ώ):prog.stoodInHeld t=ϋ.stoodInHeld t:=Zf _ _ _
@[simp]theorem atk(d:Nat)(t:ώ):prog.eqGuardType d t=ϋ.eqGuardType d t:=Kh _ _ _ _
@[simp]theorem atj:prog.depth=ϋ.depth:=C9 _ _
def aU(h:vF f=U)(hf:ϋ.funcs[f]?=J fn)(hb:fn.body.isSome=D)(args:Array z)(w:N)(hc:(callFunc f args).run ϋ w=.ok (.enter f args) w):(callFunc f args).run prog w=.ok (.enter f args) w:=aqb (get f h) args w (acP hf hb) hc
variable (args:Array z)(w:N)
@[simp]def call20:=aU rfl Tryz.func20 rfl args w (Tryz.call20 args w)
@[simp]def call22:=aU rfl Tryz.func22 rfl args w (Tryz.call22 args w)
@[simp]def call24:=aU rfl Tryz.func24 rfl args w (Tryz.call24 args w)
@[simp]def call26:=aU rfl Tryz.func26 rfl args w (Tryz.call26 args w)
@[simp]def call28:=aU rfl Tryz.func28 rfl args w (Tryz.call28 args w)
@[simp]def call30:=aU rfl Tryz.func30 rfl args w (Tryz.call30 args w)
@[simp]def call31:=aU rfl Tryz.func31 rfl args w (Tryz.call31 args w)
@[simp]def call33:=aU rfl Tryz.func33 rfl args w (Tryz.call33 args w)
@[simp]def call34:=aU rfl Tryz.func34 rfl args w (Tryz.call34 args w)
@[simp]def call35:=aU rfl Tryz.func35 rfl args w (Tryz.call35 args w)
@[simp]def call36:=aU rfl Tryz.func36 rfl args w (Tryz.call36 args w)
@[simp]def call37:=aU rfl Tryz.func37 rfl args w (Tryz.call37 args w)
@[simp]def call39:=aU rfl Tryz.func39 rfl args w (Tryz.call39 args w)
@[simp]def call43:=aU rfl Tryz.func43 rfl args w (Tryz.call43 args w)
@[simp]def call46:=aU rfl Tryz.func46 rfl args w (Tryz.call46 args w)
@[simp]def call47:=aU rfl Tryz.func47 rfl args w (Tryz.call47 args w)
@[simp]def call48:=aU rfl Tryz.func48 rfl args w (Tryz.call48 args w)
@[simp]def call49:=aU rfl Tryz.func49 rfl args w (Tryz.call49 args w)
@[simp]def call50:=aU rfl Tryz.func50 rfl args w (Tryz.call50 args w)
@[simp]def call51:=aU rfl Tryz.func51 rfl args w (Tryz.call51 args w)
@[simp]def call53:=aU rfl Tryz.func53 rfl args w (Tryz.call53 args w)
@[simp]def call56:=aU rfl Tryz.func56 rfl args w (Tryz.call56 args w)
@[simp]def call57:=aU rfl Tryz.func57 rfl args w (Tryz.call57 args w)
@[simp]def call59:=aU rfl Tryz.func59 rfl args w (Tryz.call59 args w)
@[simp]def call61:=aU rfl Tryz.func61 rfl args w (Tryz.call61 args w)
@[simp]def call62:=aU rfl Tryz.func62 rfl args w (Tryz.call62 args w)
@[simp]def call66:=aU rfl Tryz.func66 rfl args w (Tryz.call66 args w)
@[simp]def call67:=aU rfl Tryz.func67 rfl args w (Tryz.call67 args w)
@[simp]def call68:=aU rfl Tryz.func68 rfl args w (Tryz.call68 args w)
@[simp]def call69:=aU rfl Tryz.func69 rfl args w (Tryz.call69 args w)
@[simp]def call75:=aU rfl Tryz.func75 rfl args w (Tryz.call75 args w)
@[simp]def call77:=aU rfl Tryz.func77 rfl args w (Tryz.call77 args w)
@[simp]def call78:=aU rfl Tryz.func78 rfl args w (Tryz.call78 args w)
@[simp]def call94:=aU rfl Tryz.func94 rfl args w (Tryz.call94 args w)
@[simp]def call95:=aU rfl Tryz.func95 rfl args w (Tryz.call95 args w)
@[simp]def call96:=aU rfl Tryz.func96 rfl args w (Tryz.call96 args w)
@[simp]def call97:=aU rfl Tryz.func97 rfl args w (Tryz.call97 args w)
@[simp]def call98:=aU rfl Tryz.func98 rfl args w (Tryz.call98 args w)
@[simp]def call99:=aU rfl Tryz.func99 rfl args w (Tryz.call99 args w)
@[simp]def call100:=aU rfl Tryz.func100 rfl args w (Tryz.call100 args w)
@[simp]def call101:=aU rfl Tryz.func101 rfl args w (Tryz.call101 args w)
@[simp]def call102:=aU rfl Tryz.func102 rfl args w (Tryz.call102 args w)
@[simp]def call103:=aU rfl Tryz.func103 rfl args w (Tryz.call103 args w)
@[simp]def call106:=aU rfl Tryz.func106 rfl args w (Tryz.call106 args w)
@[simp]def call107:=aU rfl Tryz.func107 rfl args w (Tryz.call107 args w)
@[simp]def call108:=aU rfl Tryz.func108 rfl args w (Tryz.call108 args w)
@[simp]def call109:=aU rfl Tryz.func109 rfl args w (Tryz.call109 args w)
@[simp]def call110:=aU rfl Tryz.func110 rfl args w (Tryz.call110 args w)
@[simp]def call111:=aU rfl Tryz.func111 rfl args w (Tryz.call111 args w)
@[simp]def call113:=aU rfl Tryz.func113 rfl args w (Tryz.call113 args w)
@[simp]def call114:=aU rfl Tryz.func114 rfl args w (Tryz.call114 args w)
@[simp]def call115:=aU rfl Tryz.func115 rfl args w (Tryz.call115 args w)
@[simp]def call116:=aU rfl Tryz.func116 rfl args w (Tryz.call116 args w)
@[simp]def call117:=aU rfl Tryz.func117 rfl args w (Tryz.call117 args w)
@[simp]def call118:=aU rfl Tryz.func118 rfl args w (Tryz.call118 args w)
@[simp]def call119:=aU rfl Tryz.func119 rfl args w (Tryz.call119 args w)
@[simp]def call122:=aU rfl Tryz.func122 rfl args w (Tryz.call122 args w)
@[simp]def call123:=aU rfl Tryz.func123 rfl args w (Tryz.call123 args w)
@[simp]def call125:=aU rfl Tryz.func125 rfl args w (Tryz.call125 args w)
@[simp]def call126:=aU rfl Tryz.func126 rfl args w (Tryz.call126 args w)
@[simp]def call127:=aU rfl Tryz.func127 rfl args w (Tryz.call127 args w)
@[simp]def call128:=aU rfl Tryz.func128 rfl args w (Tryz.call128 args w)
@[simp]def call130:=aU rfl Tryz.func130 rfl args w (Tryz.call130 args w)
@[simp]def call131:=aU rfl Tryz.func131 rfl args w (Tryz.call131 args w)
@[simp]def call132:=aU rfl Tryz.func132 rfl args w (Tryz.call132 args w)
@[simp]def call133:=aU rfl Tryz.func133 rfl args w (Tryz.call133 args w)
@[simp]def call134:=aU rfl Tryz.func134 rfl args w (Tryz.call134 args w)
@[simp]def call135:=aU rfl Tryz.func135 rfl args w (Tryz.call135 args w)
@[simp]def call136:=aU rfl Tryz.func136 rfl args w (Tryz.call136 args w)
@[simp]def call138:=aU rfl Tryz.func138 rfl args w (Tryz.call138 args w)
@[simp]def call139:=aU rfl Tryz.func139 rfl args w (Tryz.call139 args w)
@[simp]def call141:=aU rfl Tryz.func141 rfl args w (Tryz.call141 args w)
@[simp]def call142:=aU rfl Tryz.func142 rfl args w (Tryz.call142 args w)
@[simp]def call143:=aU rfl Tryz.func143 rfl args w (Tryz.call143 args w)
@[simp]def call144:=aU rfl Tryz.func144 rfl args w (Tryz.call144 args w)
@[simp]def call145:=aU rfl Tryz.func145 rfl args w (Tryz.call145 args w)
@[simp]def call146:=aU rfl Tryz.func146 rfl args w (Tryz.call146 args w)
@[simp]def call147:=aU rfl Tryz.func147 rfl args w (Tryz.call147 args w)
@[simp]def call148:=aU rfl Tryz.func148 rfl args w (Tryz.call148 args w)
@[simp]def call150:=aU rfl Tryz.func150 rfl args w (Tryz.call150 args w)
@[simp]def call152:=aU rfl Tryz.func152 rfl args w (Tryz.call152 args w)
@[simp]def call154:=aU rfl Tryz.func154 rfl args w (Tryz.call154 args w)
@[simp]def call155:=aU rfl Tryz.func155 rfl args w (Tryz.call155 args w)
@[simp]def call158:=aU rfl Tryz.func158 rfl args w (Tryz.call158 args w)
@[simp]def call159:=aU rfl Tryz.func159 rfl args w (Tryz.call159 args w)
@[simp]def call162:=aU rfl Tryz.func162 rfl args w (Tryz.call162 args w)
@[simp]def call165:=aU rfl Tryz.func165 rfl args w (Tryz.call165 args w)
@[simp]def call166:=aU rfl Tryz.func166 rfl args w (Tryz.call166 args w)
@[simp]def call167:=aU rfl Tryz.func167 rfl args w (Tryz.call167 args w)
@[simp]def call168:=aU rfl Tryz.func168 rfl args w (Tryz.call168 args w)
@[simp]def call169:=aU rfl Tryz.func169 rfl args w (Tryz.call169 args w)
@[simp]def call170:=aU rfl Tryz.func170 rfl args w (Tryz.call170 args w)
@[simp]def call171:=aU rfl Tryz.func171 rfl args w (Tryz.call171 args w)
@[simp]def call172:=aU rfl Tryz.func172 rfl args w (Tryz.call172 args w)
@[simp]def call173:=aU rfl Tryz.func173 rfl args w (Tryz.call173 args w)
@[simp]def call174:=aU rfl Tryz.func174 rfl args w (Tryz.call174 args w)
@[simp]def call175:=aU rfl Tryz.func175 rfl args w (Tryz.call175 args w)
@[simp]def call176:=aU rfl Tryz.func176 rfl args w (Tryz.call176 args w)
@[simp]def call177:=aU rfl Tryz.func177 rfl args w (Tryz.call177 args w)
@[simp]def call178:=aU rfl Tryz.func178 rfl args w (Tryz.call178 args w)
@[simp]def call179:=aU rfl Tryz.func179 rfl args w (Tryz.call179 args w)
@[simp]def call180:=aU rfl Tryz.func180 rfl args w (Tryz.call180 args w)
@[simp]def call181:=aU rfl Tryz.func181 rfl args w (Tryz.call181 args w)
@[simp]def call182:=aU rfl Tryz.func182 rfl args w (Tryz.call182 args w)
@[simp]def call183:=aU rfl Tryz.func183 rfl args w (Tryz.call183 args w)
@[simp]def call184:=aU rfl Tryz.func184 rfl args w (Tryz.call184 args w)
@[simp]def call185:=aU rfl Tryz.func185 rfl args w (Tryz.call185 args w)
@[simp]def call186:=aU rfl Tryz.func186 rfl args w (Tryz.call186 args w)
@[simp]def call187:=aU rfl Tryz.func187 rfl args w (Tryz.call187 args w)
@[simp]def call188:=aU rfl Tryz.func188 rfl args w (Tryz.call188 args w)
@[simp]def call189:=aU rfl Tryz.func189 rfl args w (Tryz.call189 args w)
@[simp]def call201:=aU rfl Tryz.func201 rfl args w (Tryz.call201 args w)
@[simp]def call202:=aU rfl Tryz.func202 rfl args w (Tryz.call202 args w)
@[simp]def call204:=aU rfl Tryz.func204 rfl args w (Tryz.call204 args w)
@[simp]def call205:=aU rfl Tryz.func205 rfl args w (Tryz.call205 args w)
@[simp]def call206:=aU rfl Tryz.func206 rfl args w (Tryz.call206 args w)
@[simp]def call207:=aU rfl Tryz.func207 rfl args w (Tryz.call207 args w)
@[simp]def call208:=aU rfl Tryz.func208 rfl args w (Tryz.call208 args w)
@[simp]def call209:=aU rfl Tryz.func209 rfl args w (Tryz.call209 args w)
@[simp]def call215:=aU rfl Tryz.func215 rfl args w (Tryz.call215 args w)
@[simp]def call216:=aU rfl Tryz.func216 rfl args w (Tryz.call216 args w)
@[simp]def call234:=aU rfl Tryz.func234 rfl args w (Tryz.call234 args w)
@[simp]def call235:=aU rfl Tryz.func235 rfl args w (Tryz.call235 args w)
@[simp]def call236:=aU rfl Tryz.func236 rfl args w (Tryz.call236 args w)
end Go.Tw
namespace Go.Tw
open Go
def mg(m n:Nat):Array Bool:=((ϣ n).map λi=>Nat.blt i m).toArray
def Xk(m n:Nat):(mg m n).setIfInBounds m D=mg (m+1) n:=by
 apply ţ;intro i;unfold mg;by_cases hi:i<n
 ·by_cases h:m=i
  ·subst h;simp[hi,Nat.blt_eq]
  ·have e:(Nat.blt i m)=(Nat.blt i (m+1)):=by
    rw[Bool.eq_iff_iff,Nat.blt_eq,Nat.blt_eq];omega
   simp[hi,h,e]
 ·simp[hi]
def JS(md:Region.Mode)(ops:Array Oper)(n:Nat):Nat->Nat->Bool
 |0,_=>D
 |k+1,m=>Region.free md ops (mg m n) m && ((ϯ md ops (mg m n)).contains m && JS md ops n k (m+1))
def qd(P:ϗ)(ops:Array Oper)(S:N->Prop):Nat->Nat->Act->(Act->Prop)->Prop
 |0,_,a,ψ=>ψ a
 |k+1,m,a,ψ=>∃o v,ops[m]?=J o/\YieldsIf P ops S o v a/\qd P ops S k (m+1) (a.put o.dst v) ψ
section
variable {P:ϗ}{md:Region.Mode}{ops:Array Oper}{Q:Exit->Act->N->Prop}{S:N->Prop}{w:N}{a:Act}{ψ:Act->Prop}{k m n f:Nat}{o:Oper}{v:z}
def Wg(V:Afv ops=D)(hQ:∀c a a' w,Q (.panic c) a w->Q (.panic c) a' w)(hS:S w)(f n:Nat):
 ∀(k m:Nat) (a:Act),JS md ops n k m=D->qd P ops S k m a (λa=>Ć P md ops Q S f (mg (m+k) n) a w)->Ć P md ops Q S (f+k) (mg m n) a w
 |0,_,_,_,h=>h
 |k+1,m,a,hf,h=>by obtain⟨o,v,ho,hy,h⟩:=h;unfold JS at hf;simp only[Ä] at hf;refine wpAnyH_take ho V hf.1 hf.2.1 (λc a w h=>hQ c _ _ w h) hy hS ?_;rw[Xk];refine Wg V hQ hS f n k (m+1) _ hf.2.2 ?_;rw[show m+1+k=m+(k+1) by omega];exact h
def bh(k f:Nat)(hg:g=f+k)(T:(Afv ops && JS md ops n k m)=D)(hS:S w)
 (h:qd P ops S k m a (λa=>Ć P md ops (Ť Q) S f (mg (m+k) n) a w)):Ć P md ops (Ť Q) S g (mg m n) a w:=by
 rw[Ä] at T;subst hg;exact Wg T.1 (λ_ _ _ _ h=>h) hS f n k m a T.2 h
def rY(d:Option Nat)(ho:ops[m]?=J o)(hd:(o.dst==d)=D)(hw:ϸ o (À ops a.tmps)=D)(hy:∀w,S w->(execOp a.eval o).run P w=.ok (.value v) w)(h:qd P ops S k (m+1) (a.put d v) ψ):
 qd P ops S (k+1) m a ψ:=⟨o,v,ho,.inl ⟨hw,hy⟩,by rw[eq_of_beq hd];exact h⟩
def IX(d:Option Nat)(ho:ops[m]?=J o)(hd:(o.dst==d)=D)(hw:ϸ o (À ops a.tmps)=U)(h:qd P ops S k (m+1) (a.put d L) ψ):qd P ops S (k+1) m a ψ:=
 ⟨o,L,ho,.inr ⟨hw,rfl⟩,by rw[eq_of_beq hd];exact h⟩
def Cc(T:(ϯ md ops (mg m n)==[])=D)(h:Q .normal a w):Ć P md ops (Ť Q) S f (mg m n) a w:=wpAnyH_done (eq_of_beq T) (NoPanic.normal h) f
end
def lits(d:List Nat)(n:Nat):Array Bool:=((ϣ n).map λi=>d.elem i).toArray
def SC(m n:Nat)(d:List Nat):(lits d n).setIfInBounds m D=lits (m::d) n:=by
 apply ţ;intro i;unfold lits;by_cases hi:i<n
 ·by_cases h:m=i
  ·subst h;simp[hi]
  ·have h':¬i=m:=λe=>h e.symm;simp[hi,h,h']
 ·simp[hi]
def aqQ(n:Nat):Array.replicate n U=lits [] n:=by
 apply ţ;intro i;unfold lits;by_cases hi:i<n
 ·simp[hi]
 ·simp[hi]
def aaH(md:Region.Mode)(ops:Array Oper)(n:Nat):List Nat->List Nat->Bool
 | [],_=>D
 |m::ps,d=>Region.free md ops (lits d n) m && ((ϯ md ops (lits d n)).contains m && aaH md ops n ps (m::d))
def Bc(P:ϗ)(ops:Array Oper)(S:N->Prop):List Nat->Act->(Act->Prop)->Prop
 | [],a,ψ=>ψ a
 |m::ps,a,ψ=>∃o v,ops[m]?=J o/\YieldsIf P ops S o v a/\Bc P ops S ps (a.put o.dst v) ψ
section
variable {P:ϗ}{md:Region.Mode}{ops:Array Oper}{Q:Exit->Act->N->Prop}{S:N->Prop}{w:N}{a:Act}{ψ:Act->Prop}{m n f:Nat}{ps d:List Nat}{o:Oper}{v:z}
def abh(V:Afv ops=D)(hQ:∀c a a' w,Q (.panic c) a w->Q (.panic c) a' w)(hS:S w)(f n:Nat):
 ∀(ps d:List Nat) (a:Act),aaH md ops n ps d=D->Bc P ops S ps a (λa=>Ć P md ops Q S f (lits (ps.reverse++d) n) a w)->Ć P md ops Q S (f+ps.length) (lits d n) a w
 | [],_,_,_,h=>h
 |m::ps,d,a,hf,h=>by obtain⟨o,v,ho,hy,h⟩:=h;unfold aaH at hf;simp only[Ä] at hf;refine wpAnyH_take ho V hf.1 hf.2.1 (λc a w h=>hQ c _ _ w h) hy hS ?_;rw[SC];refine abh V hQ hS f n ps (m::d) _ hf.2.2 ?_;rw[List.reverse_cons,List.append_assoc] at h;exact h
def Wf(ps d':List Nat)(f:Nat)(hg:g=f+ps.length)(T:(Afv ops && aaH md ops n ps d)=D)(hd:ps.reverse++d=d')(hS:S w)
 (h:Bc P ops S ps a (λa=>Ć P md ops (Ť Q) S f (lits d' n) a w)):Ć P md ops (Ť Q) S g (lits d n) a w:=by
 rw[Ä] at T;subst hg hd;exact abh T.1 (λ_ _ _ _ h=>h) hS f n ps d a T.2 h
def zZ(b:Option Nat)(ho:ops[m]?=J o)(hd:(o.dst==b)=D)(hw:ϸ o (À ops a.tmps)=D)(hy:∀w,S w->(execOp a.eval o).run P w=.ok (.value v) w)(h:Bc P ops S ps (a.put b v) ψ):
 Bc P ops S (m::ps) a ψ:=⟨o,v,ho,.inl ⟨hw,hy⟩,by rw[eq_of_beq hd];exact h⟩
def vx(b:Nat)(ho:ops[m]?=J o)(hd:(o.dst==J (b+m))=D)(hw:ϸ o (À ops a.tmps)=D)(hy:∀w,S w->(execOp a.eval o).run P w=.ok (.value v) w)(h:Bc P ops S ps (a.put (J (b+m)) v) ψ):
 Bc P ops S (m::ps) a ψ:=zZ _ ho hd hw hy h
def Vw(b:Option Nat)(ho:ops[m]?=J o)(hd:(o.dst==b)=D)(hw:ϸ o (À ops a.tmps)=U)(h:Bc P ops S ps (a.put b L) ψ):Bc P ops S (m::ps) a ψ:=
 ⟨o,L,ho,.inr ⟨hw,rfl⟩,by rw[eq_of_beq hd];exact h⟩
def po(h:ψ a):Bc P ops S [] a ψ:=h
def abu(b:Nat)(ho:ops[m]?=J o)(hd:(o.dst==J (m - b))=D)(hw:ϸ o (À ops a.tmps)=D)(hy:∀w,S w->(execOp a.eval o).run P w=.ok (.value v) w)(h:Bc P ops S ps (a.put (J (m - b)) v) ψ):
 Bc P ops S (m::ps) a ψ:=zZ _ ho hd hw hy h
def zV(m:Nat)(ho:ops[m]?=J o)(T:(ϯ md ops (lits d n)==[m])=D)(hw:ϸ o (À ops a.tmps)=D)
 (h:∀(K':Act->N->Prop) (Q':Exit->Act->N->Prop),Shut (∀a w,S w->(S w->Ć P md ops Q S f (lits (m::d) n) a w)->K' a w)->Oper.wp P o a w K' Q'):Ć P md ops Q S (f+1) (lits d n) a w:=by
 refine wpAnyH_ready (eq_of_beq T) (by simp) (Aex ho (λK' hK=>?_) Aey);rw[if_pos hw];refine h K' Q ?_;rw[<-SC];exact hK
def aa6(m:Nat)(ho:ops[m]?=J o)(T:(ϯ md ops (lits d n)==[m])=D)
 (h:∀(K':Act->N->Prop) (Q':Exit->Act->N->Prop),Shut (∀a w,S w->(S w->Ć P md ops Q S f (lits (m::d) n) a w)->K' a w)->if ϸ o (À ops a.tmps)=D then Oper.wp P o a w K' Q' else K' (a.put o.dst L) w):Ć P md ops Q S (f+1) (lits d n) a w:=by
 refine wpAnyH_ready (eq_of_beq T) (by simp) (Aex ho (λK' hK=>?_) Aey);refine h K' Q ?_;rw[<-SC];exact hK
def afT(i j:Nat){oi oj:Oper}(pK:ops[i]?=J oi)(hoj:ops[j]?=J oj)(T:(ϯ md ops (lits d n)==[i,j])=D)(hwi:ϸ oi (À ops a.tmps)=D)(hwj:ϸ oj (À ops a.tmps)=D)
 (hi:∀(K':Act->N->Prop) (Q':Exit->Act->N->Prop),Shut (∀a w,S w->(S w->Ć P md ops Q S f (lits (i::d) n) a w)->K' a w)->Oper.wp P oi a w K' Q')
 (hj:∀(K':Act->N->Prop) (Q':Exit->Act->N->Prop),Shut (∀a w,S w->(S w->Ć P md ops Q S f (lits (j::d) n) a w)->K' a w)->Oper.wp P oj a w K' Q'):Ć P md ops Q S (f+1) (lits d n) a w:=by
 refine wpAnyH_ready (eq_of_beq T) (by simp) (Aex pK (λK' hK=>?_) (Aex hoj (λK' hK=>?_) Aey))
 ·rw[if_pos hwi];refine hi K' Q ?_;rw[<-SC];exact hK
 ·rw[if_pos hwj];refine hj K' Q ?_;rw[<-SC];exact hK
def Sg{id:Nat}(n:Nat)(hn:ops.size=n)(hm:P.follows .mixedOrders=D)(hS:S w.drew)(h:S w.drew->Ć P .any ops (Ť Q) S n (lits [] n) a w.drew):(Code.region id ops D).wp P Q a w:=by subst hn;refine wp_region_noPanic (wp_region_held_drew hm hS λh'=>?_);rw[aqQ];exact h h'
def GX(T:(ϯ md ops (lits d n)==[])=D)(h:Q .normal a w):Ć P md ops (Ť Q) S f (lits d n) a w:=wpAnyH_done (eq_of_beq T) (NoPanic.normal h) f
end
end Go.Tw
def Go.RowKit.Hid.e{p:Prop}(h:Go.RowKit.Hid p):p:=Go.RowKit.Hid.out h
namespace Go.Tw
open Go Go.RowKit
def b9(a:Addr)(n:Nat):(a.add n).block=a.block:=by unfold Addr.add;split<;>rfl
def Sx(a:Addr)(i j:Nat):(a.add i).add j=a.add (i+j):=by unfold Addr.add;by_cases hi:i=0<;>by_cases hj:j=0<;>simp[hi,hj,Nat.add_assoc]
def Δ(B:Nat)(w w':N):Prop:=∀p:Addr,p.block<B-> w'.cell? p= w.cell? p
def Δ.refl(w:N):Δ B w w:=λ_ _=>rfl
def Δ.trans{B:Nat}{a b c:N}(h:Δ B a b)(k:Δ B b c):Δ B a c:=λp hp=>(k p hp).trans (h p hp)
def Δ.aJ{B':Nat}(h:Γ B' w w')(hB:B<=B'):Δ B w w':=λ_ hp=>h.cell (by omega)
def Δ.alloc{B:Nat}{a w:N}(h:Δ B a w)(hB:B<=w.heap.size)(o:Obj):Δ B a (w.alloc o):=λp hp=>(ð w o p (by omega)).trans (h p hp)
def Row(w:N)(B sz:Nat)(R:α->List z->Prop)(v:z)(xs:List α):Prop:=
 ∃A c,v=E A xs.length c/\xs.length<=c/\c<=ϕ/\(xs≠ []->∃ad,A=J ad/\ad.block<B/\
  ∀i x,xs[i]?=J x->∃cs,R x cs/\cs.length=sz/\∀j u,cs[j]?=J u-> w.cell? (ad.add (i * sz+j))=J u)
section
variable {α:Type}{w w':N}{B B' sz:Nat}{R R':α->List z->Prop}{v:z}{xs:List α}
def Row.still(h:Row w B sz R v xs)(V:Δ B w w')(hR:∀x cs,R x cs->R' x cs):Row w' B sz R' v xs:=by obtain⟨A,c,hv,h1,h2,h3⟩:=h;refine⟨A,c,hv,h1,h2,λhx=>?_⟩;obtain⟨ad,ha,hb,hc⟩:=h3 hx;refine⟨ad,ha,hb,λi x hi=>?_⟩;obtain⟨cs,r,hl,aq⟩:=hc i x hi;exact⟨cs,hR _ _ r,hl,λj u hu=>(V _ (by rw[b9];exact hb)).trans (aq j u hu)⟩
def Row.more(h:Row w B sz R v xs)(hB:B<=B'):Row w B' sz R v xs:=by obtain⟨A,c,hv,h1,h2,h3⟩:=h;refine⟨A,c,hv,h1,h2,λhx=>?_⟩;obtain⟨ad,ha,hb,hc⟩:=h3 hx;exact⟨ad,ha,by omega,hc⟩
def Row.nil:Row w B sz R (E H 0 0) ([]:List α):=⟨H,0,rfl,ϊ _,by unfold ϕ;omega,λh=>absurd rfl h⟩
def Row.Φ(h:Row w B sz R v xs):∃A n c,v=E A n c/\xs.length=n/\n<=c/\c<=ϕ/\
 ∀i,i<n->∃ad x cs,A=J ad/\ad.block<B/\xs[i]?=J x/\R x cs/\cs.length=sz/\∀j u,cs[j]?=J u-> w.cell? (ad.add (i * sz+j))=J u:=by
 obtain⟨A,c,hv,h1,h2,h3⟩:=h;refine⟨A,xs.length,c,hv,rfl,h1,h2,λi hi=>?_⟩;obtain⟨ad,ha,hb,hc⟩:=h3 (by intro e;subst e;simp at hi);obtain⟨cs,r,hl,aq⟩:=hc i xs[i] (Ñ hi);exact⟨ad,xs[i],cs,ha,hb,Ñ hi,r,hl,aq⟩
end
def cA{cs:List z}(h:∀j u,cs[j]?=J u-> w.cell? (ad.add (k+j))=J u)(V:Δ B w w')(hb:ad.block<B){u:z}(hu:cs[0]?=J u): w'.cell? (ad.add k)=J u:=
 (V _ (by rw[b9];exact hb)).trans (h 0 u hu)
def bj{cs:List z}(h:∀j u,cs[j]?=J u-> w.cell? (ad.add (k+j))=J u)(V:Δ B w w')(hb:ad.block<B)(j:Nat){u:z}(hu:cs[j+1]?=J u): w'.cell? ⟨(ad.add k).block,(ad.add k).off+(j+1),H⟩=J u:=by
 have e:(⟨(ad.add k).block,(ad.add k).off+(j+1),H⟩:Addr)=ad.add (k+(j+1)):=by rw[<-Sx];rfl
 rw[e];exact(V _ (by rw[b9];exact hb)).trans (h (j+1) u hu)
def dT{a:N}(h:Γ B a w):Γ B a w.drew:=⟨h.os,h.tape,h.output,h.size,h.block⟩
def jr{a:N}(h:Γ B a w)(n:Nat):Γ B a (w.drewN n):=⟨h.os,h.tape,h.output,h.size,h.block⟩
def bm{b:Int}(h:a=b):Ending.returned (Y I a)=Ω (Y I b):=by rw[h]
def bU{a b:Bool}(h:a=b):Ending.returned (.bool a)=Ω (.bool b):=by rw[h]
structure Span where
 lo:Int
 hi:Int
 deriving DecidableEq
structure Piece where
 name:ByteArray
 len:Span
 bears:Int
structure bN where
 name:ByteArray
 aL:Int
 cM:List Span
structure Tape where
 pieces:List Int
 sum:Span
structure eR where
 ab:Int
 pieces:List Piece
 aC:List bN
 aI:List Tape
structure Cut where
 bt:Int
 from_:Int
 deriving DecidableEq
def Span.R(x:Span)(cs:List z):Prop:=cs=[Y I x.lo,Y I x.hi]
structure al where
 a:Int
 b:Int
 c:Int
 deriving DecidableEq
def al.R(x:al)(cs:List z):Prop:=cs=[Y I x.a,Y I x.b,Y I x.c]
def qL(p:α->Bool)(l:List α):Int:=match l.findIdx? p with
 |some i=>i
 |none=> -1
def Fu{p:α->Bool}{l:List α}{x:α}(hx:l[i]?=J x)(hp:p x=D)(h:∀(j:Nat) (y:α),j<i->l[j]?=J y->p y=U):qL p l=i:=by
 have hl:=(Ϫ.1 hx)
 obtain⟨ao,e⟩:=hl;have: l.findIdx? p=J i:=by rw[Age];exact⟨ao,by rw[e];exact hp,λj hj=>by simpa using h j _ hj (Ñ (by omega))⟩
 unfold qL;rw[this]
def Ft{p:α->Bool}{l:List α}(h:∀(j:Nat) (y:α),l[j]?=J y->p y=U):qL p l= -1:=by
 have: l.findIdx? p=H:=by rw[Agf];intro x hx;obtain⟨j,hj⟩:=List.getElem?_of_mem hx;simpa using h j x hj
 unfold qL;rw[this]
def Cy{p:α->Bool}{l:List α}:l.any p=D↔0<=qL p l:=by
 unfold qL;cases h: l.findIdx? p with
 |none=>rw[Agf] at h;simp;exactλx hx=>by simpa using h x hx
 |some i=>rw[Age] at h;obtain⟨hi,hp,_⟩:=h;simp only[List.any_eq_true];exact⟨λ_=>by simp,λ_=>⟨_,List.getElem_mem hi,hp⟩⟩
def Fs{p:α->Bool}{l:List α}:l.any p=U↔qL p l<0:=by have:=Cy (p:=p) (l:=l);rw[<-Int.not_le,<-this];simp
def bI(n:Int)(cs:List z):Prop:=cs=[Y I n]
def Cut.R(x:Cut)(cs:List z):Prop:=cs=[Y I x.bt,Y I x.from_]
def Piece.R(x:Piece)(cs:List z):Prop:=cs=[.string x.name,Y I x.len.lo,Y I x.len.hi,Y I x.bears]/\x.name.size<=ϕ
def bN.R(w:N)(B:Nat)(x:bN)(cs:List z):Prop:=∃kv,cs=[.string x.name,Y I x.aL,kv]/\x.name.size<=ϕ/\Row w B 2 Span.R kv x.cM
def Tape.R(w:N)(B:Nat)(x:Tape)(cs:List z):Prop:=∃pv,cs=[pv,Y I x.sum.lo,Y I x.sum.hi]/\Row w B 1 bI pv x.pieces
def bN.R.still{w w':N}{B:Nat}{x:bN}{cs:List z}(h:bN.R w B x cs)(V:Δ B w w'):bN.R w' B x cs:=by obtain⟨kv,h1,h2,h3⟩:=h;exact⟨kv,h1,h2,h3.still V λ_ _ h=>h⟩
def Tape.R.still{w w':N}{B:Nat}{x:Tape}{cs:List z}(h:Tape.R w B x cs)(V:Δ B w w'):Tape.R w' B x cs:=by obtain⟨kv,h1,h3⟩:=h;exact⟨kv,h1,h3.still V λ_ _ h=>h⟩
structure aQ(w:N)(B:Nat)(b:eR)(pv bv tv:z):Prop where
 pieces:Row w B 4 Piece.R pv b.pieces
 aC:Row w B 3 (bN.R w B) bv b.aC
 aI:Row w B 3 (Tape.R w B) tv b.aI
def aQ.op{w:N}{B:Nat}{b:eR}{pv bv tv:z}(h:aQ w B b pv bv tv):∃A n c A' n' c' A'' n'' c'',pv=.slice A n c/\bv=.slice A' n' c'/\tv=.slice A'' n'' c'':=
 let⟨A,n,c,h1,_⟩:=h.pieces.Φ;let⟨A',n',c',h2,_⟩:=h.aC.Φ;let⟨A'',n'',c'',h3,_⟩:=h.aI.Φ;⟨A,n,c,A',n',c',A'',n'',c'',h1,h2,h3⟩
def aQ.still{w w':N}{B:Nat}{b:eR}{pv bv tv:z}(h:aQ w B b pv bv tv)(V:Δ B w w'):aQ w' B b pv bv tv:=
 ⟨h.pieces.still V λ_ _ h=>h,h.aC.still V λ_ _ h=>h.still V,h.aI.still V λ_ _ h=>h.still V⟩
end Go.Tw
namespace Go.Tw
variable [Go.Tw.aK]
open Go Go.Proofs Go.RowKit
def cj(n lo hi:Int):Bool:=decide (lo<=n) && decide (n<=hi)
def inside(n lo hi:Int)(w:N):ύ prog 134 #[Y I n,Y I lo,Y I hi] w λe w'=>e=Ω (.bool (cj n lo hi))/\w=w':=by
 go_enter func134,Tryz.ntmps134;go_wp2;all_goals go_ret
 all_goals (refine⟨bU ?_,rfl⟩;unfold cj;first| (simp;done) | (simp;omega))
def kh(i:Nat)(c:Int):Bool:=(decide (97<=c) && decide (c<=122)) || (decide (0<i) && (decide (48<=c) && decide (c<=57)))
def wP:Nat->List UInt8->Bool
 |_,[]=>D
 |i,c::l=>kh i c.toNat && wP (i+1) l
def nU(l:List UInt8):Bool:=wP 0 l && cj l.length 1 10
def Tp:∀(l:List UInt8) (i k:Nat) (c:UInt8),wP i l=D->l[k]?=J c->kh (i+k) c.toNat=D
 | [],_,_,_,_,h=>by simp at h
 |d::l,i,0,c,h,hk=>by simp at hk;subst hk;simp[wP] at h;exact h.1
 |d::l,i,k+1,c,h,hk=>by
  simp[wP] at h;have:=Tp l (i+1) k c h.2 (by simpa using hk)
  rwa[show i+(k+1)=i+1+k by omega]
def MB:∀(l:List UInt8) (i:Nat),(∀k c,l[k]?=J c->kh (i+k) c.toNat=D)->wP i l=D
 | [],_,_=>rfl
 |d::l,i,h=>by simp only[wP,Ä];exact⟨h 0 d rfl,MB l (i+1) λk c hk=>by have:=h (k+1) c (by simpa using hk);rwa[show i+(k+1)=i+1+k by omega] at this⟩
def ad7(s:ByteArray)(w:N):∃C cap m,(convert 9 228 (.string s)).run prog w=.ok (E (J ⟨w.heap.size,0,H⟩) s.size cap) (w.drew.alloc (.cells C 5 m))/\
 ∀i (h:i<s.size),C[i]?=J (.int .u8 (s[i].toNat:Int)):=by
 refine⟨_,_,_,run_bytes_of_string (P:=prog) w 9 228 5 s ((Ke _).trans Tryz.underlying9) ((Ke _).trans Tryz.underlying228) ((Ke _).trans Tryz.underlying5),λi h=>?_⟩;rw[bytesRow,Array.getElem?_append_left (by simpa using h)];simp[Ē];exact⟨_,ā (by simpa using h),rfl⟩
def DQ{s:ByteArray}(h:n<s.size):s.data.toList[n]?=J s[n]:=by rw[Ñ (by simpa using h)];rfl
def PU{l:List UInt8}{c:UInt8}(h:l[n]?=J c)(hb:kh n c.toNat=U):nU l=U:=by
 unfold nU;cases e:wP 0 l with
 |false=>rfl
 |true=>have:=Tp l 0 n c e h;rw[Nat.zero_add,hb] at this;cases this
def isName{s:ByteArray}(V:s.size<=ϕ)(w:N):
 ύ prog 182 #[.string s] w λe w'=>e=Ω (.bool (nU s.data.toList))/\φ w w':=by
 unfold ϕ at V;obtain⟨C,cap,m,aho,hC⟩:=ad7 s w;have ν:=K hC;clear hC;go_enter func182,Tryz.ntmps182;go_wp2;clear aho
 go_loop [3,4,8] (λi c k=>∃n:Nat,n<=s.size/\k=Y I n/\∀j c,j<n->s.data.toList[j]?=J c->kh j c.toNat=D) (λ_ _ k=>s.size - (ϭ k).toNat)
 case atStart=>exact⟨0,ϛ _,rfl,λj _ hj=>by omega⟩
 case round=>
  obtain⟨n,hn,rfl,bS⟩:=hrel;have HA:=K bS;clear bS;by_cases ao:n<s.size
  ·have hc:(w.alloc (.cells C 5 m)).cell? ⟨w.heap.size,n,H⟩=J (.int .u8 (s[n].toNat:Int)):=by
    rw[Ļ];exact ν.e n ao
   go_wp2;all_goals try simp only[Bool.not_eq_true',Bool.not_eq_false',decide_eq_true_eq,decide_eq_false_iff_not] at *
   all_goals first
    | (go_round
       case rel=>
        refine⟨n+1,by omega,by go_num,λj c hj qu=>?_⟩;rcases Ϯ.1 hj with h|rfl
        ·exact HA.e j c h qu
        ·have e:c=s[j]:=by simpa using((DQ ao).symm.trans qu).symm
         subst e;simp only[kh,Bool.or_eq_true,Ä,decide_eq_true_eq];omega
       case measure=>simp[ϭ];omega)
    | (go_ret
       refine⟨bU (Eq.symm (PU (DQ ao) ?_)),dT ((ό _ _).alloc (ϊ _) _)⟩;simp only[kh,Bool.or_eq_false_iff,Bool.and_eq_false_iff,decide_eq_false_iff_not];omega)
  ·obtain rfl:n=s.size:=by omega
   go_wp2_with (first
    | (go_at_call 134;refine(inside _ _ _ _).mono ?_;rintro e w' ⟨rfl,rfl⟩))
   go_ret;refine⟨bU ?_,dT ((ό _ _).alloc (ϊ _) _)⟩;simp[nU,MB s.data.toList 0 (λk c hk=>by
    have:=HA.e k c (by have:=(Ϫ.1 hk).1;simpa using this) hk;simpa using this)]
def ye(a b:Int)(k:Span):Bool:=decide (k.lo<=b) && decide (a<=k.hi)
def lG(l:List Span)(a b:Int):Int:=(l.filter (ye a b)).length
def alo(l:List Span)(a b:Int):0<=lG l a b/\lG l a b<=l.length:=by unfold lG;have:=Agg (ye a b) l;omega
def alp(l:List Span)(x:Span)(a b:Int):lG (l++ [x]) a b=lG l a b+if ye a b x then 1 else 0:=by unfold lG;by_cases h:ye a b x<;>simp[h]
def pT{l:List α}{x:α}(h:l[i]?=J x):l.take (i+1)=l.take i++ [x]:=by rw[List.take_add_one,h];rfl
def met{aL b:Int}{ks:List Span}{kv:z}(hk:Row w B 2 Span.R kv ks)(hB:B<=w.heap.size):
 ύ prog 132 #[η #[.string nm,Y I aL,kv],η #[Y I a,Y I b]] w λe w'=>e=Ω (Y I (lG ks a b))/\φ w w':=by
 obtain⟨A,n,c,rfl,hl,ey,hc,T⟩:=hk.Φ;unfold ϕ at hc;have ν:=K hl;have H2:=K T;clear hl T hk;go_enter func132,Tryz.ntmps132;go_wp2;go_loopw [5,7,11] (λm t k wr=>∃i:Nat,i<=n/\k=Y I i/\m=Y I (lG (ks.take i) a b)/\Γ (w.heap.size+2) ((w.alloc (Ϧ #[Value.string nm,Ϟ Ϛ aL,Value.slice A n c] 59)).alloc
 (Ϧ #[Ϟ Ϛ a,Ϟ Ϛ b] 37)) wr) (λ_ _ k _=>n - (ϭ k).toNat)
 case atStart=>exact⟨0,ϛ _,rfl,rfl,ό _ _⟩
 case round=>
  obtain⟨i,hi,rfl,rfl,hb⟩:=hrel;have hm:=alo (ks.take i) a b;have Wx:(ks.take i).length<=i:=ō _ _;by_cases ao:i<n
  ·obtain⟨ad,x,cs,rfl,aE,hx,rfl,-,aq⟩:=H2.e i ao;have st:=(Δ.aJ hb (by omega:B<=w.heap.size+2))
   have QH:=((Δ.refl (B:=B) w).alloc hB (Ϧ #[Value.string nm,Ϟ Ϛ aL,Value.slice (J ad) n c] 59)).alloc (by simp;omega) (Ϧ #[Ϟ Ϛ a,Ϟ Ϛ b] 37);have h0:=cA aq (QH.trans st) aE rfl;have h1:=bj aq (QH.trans st) aE 0 rfl;have h2: wr.cell? ⟨w.heap.size+1,0,H⟩=J (Y I a):=(hb.cell (p:=⟨w.heap.size+1,0,H⟩) (by simp)).trans (by simp[go_sem])
   have h3: wr.cell? ⟨w.heap.size+1,1,H⟩=J (Y I b):=(hb.cell (p:=⟨w.heap.size+1,1,H⟩) (by simp)).trans (by simp[go_sem]);have hz:w.heap.size+1<wr.heap.size:=(by have:=hb.size;simp at this;omega);have HH:=K (Ϗ hx hb);clear hx hb aq st QH;go_wp2;all_goals
    go_roundw;case rel=>
     have hb:=HH.e.2;refine⟨i+1,by omega,by go_num,?_,hb.trans ((ό _ _).alloc (by omega) _)⟩;rw[pT HH.e.1,alp];have e:ye a b x=(decide (x.lo<=b) && decide (a<=x.hi)):=rfl
     first
      | (rw[if_pos (by rw[e];simp;omega)])
      | (rw[if_neg (by rw[e];simp;omega)];go_num)
    case measure=>simp[ϭ];omega
  ·have dc:i=n:=by omega
   subst dc;go_wp2;go_ret;refine⟨bm ?_,?_⟩
   ·have:=ν.e;simp[Õ (ò this)]
   ·exact(((ό _ _).alloc (ϊ _) _).alloc (by simp) _).trans (hb.mono (by simp))
abbrev fv(ψ:Nat)(lb:Array z):z:=.func (.func ψ) #[] lb
def WJ{l:List Piece}(p:Piece->Bool)(eg:∀args w,(callFunc ψ args).run prog w=.ok (.enter ψ args) w)
 (hv:Row w B 4 Piece.R v l)(hB:B<=w.heap.size)
 (hK:∀(W:N) (x:Piece),φ w W->x.name.size<=ϕ->x∈l->ύ prog ψ (#[η #[.string x.name,Y I x.len.lo,Y I x.len.hi,Y I x.bears]]++lb) W λe W'=>e=Ω (.bool (p x))/\φ W W'):
 ύ prog 204 #[v,fv ψ lb] w λe w'=>e=Ω (Y I (qL p l))/\φ w w':=by
 obtain⟨A,n,c,rfl,hl,ey,hc,T⟩:=hv.Φ;unfold ϕ at hc;have ν:=K hl;have H2:=K T;have HK:=K hK;clear hl T hv hK;go_enter func204,Tryz.ntmps204;go_wp2;go_loopw [5,8] (λt k wr=>∃i:Nat,i<=n/\k=Y I i/\(∀j x,j<i->l[j]?=J x->p x=U)/\φ w wr) (λ_ k _=>n - (ϭ k).toNat)
 case atStart=>exact⟨0,ϛ _,rfl,λj _ hj=>by omega,ό _ _⟩
 case round=>
  obtain⟨i,hi,rfl,bS,hb⟩:=hrel;have HH:=K (Ϗ bS hb);by_cases ao:i<n
  ·obtain⟨ad,x,cs,rfl,aE,hx,⟨rfl,dD⟩,-,aq⟩:=H2.e i ao;have st:=Δ.aJ hb hB;have h0:=cA aq st aE rfl;have h1:=bj aq st aE 0 rfl;have h2:=bj aq st aE 1 rfl;have h3:=bj aq st aE 2 rfl;have HX:=K hx;clear bS hb hx aq st;go_wp2;refine(HK.e wr x HH.e.2 dD (ϡ HX.e)).mono ?_
   rintro e w1 ⟨rfl,ai⟩;have HB:=K ai;clear ai;cases hp:p x with
   |true=>go_wp2;go_ret;exact⟨bm (Fu HX.e hp HH.e.1).symm,HH.e.2.trans (HB.e.mono HH.e.2.size)⟩
   |false=>
    go_wp2;go_roundw;case rel=>exact⟨i+1,by omega,by go_num,λj y hj hy=>by
     rcases Ϯ.1 hj with h|rfl
     ·exact HH.e.1 j y h hy
     ·rw[HX.e] at hy;cases hy;exact hp,HH.e.2.trans (HB.e.mono HH.e.2.size)⟩
    case measure=>simp[ϭ];omega
  ·have dc:i=n:=by omega
   subst dc;go_wp2;go_ret;exact⟨bm (Ft (λj x hj=>HH.e.1 j x (by have:=(Ϫ.1 hj).1;have:=ν.e;omega) hj)).symm,HH.e.2⟩
def Hj{l:List Piece}(p:Piece->Bool)(eg:∀args w,(callFunc ψ args).run prog w=.ok (.enter ψ args) w)
 (hv:Row w B 4 Piece.R v l)(hB:B<=w.heap.size)
 (hK:∀(W:N) (x:Piece),φ w W->x.name.size<=ϕ->x∈l->ύ prog ψ (#[η #[.string x.name,Y I x.len.lo,Y I x.len.hi,Y I x.bears]]++lb) W λe W'=>e=Ω (.bool (p x))/\φ W W'):
 ύ prog 183 #[v,fv ψ lb] w λe w'=>e=Ω (.bool (l.any p))/\φ w w':=by
 have HV:=K hv;have HK:=K hK;clear hv hK;cases hp:l.any p with
 |true=>have hi:=(Cy (l:=l) (p:=p)).1 hp;go_enter func183,Tryz.ntmps183;go_wp2;refine(WJ p eg HV.e hB HK.e).mono ?_;rintro e w1 ⟨rfl,ai⟩;go_wp2;go_ret;exact⟨bU rfl,ai⟩
 |false=>have hi:=(Fs (l:=l) (p:=p)).1 hp;go_enter func183,Tryz.ntmps183;go_wp2;refine(WJ p eg HV.e hB HK.e).mono ?_;rintro e w1 ⟨rfl,ai⟩;go_wp2;go_ret;exact⟨bU (by simp;omega),ai⟩
def WK{l:List bN}(p:bN->Bool)(eg:∀args w,(callFunc ψ args).run prog w=.ok (.enter ψ args) w)
 (hv:Row w B 3 (bN.R w B) v l)(hB:B<=w.heap.size)
 (hK:∀(W:N) (x:bN) (kv:z),φ w W->x.name.size<=ϕ->Row w B 2 Span.R kv x.cM->x∈l->ύ prog ψ (#[η #[.string x.name,Y I x.aL,kv]]++lb) W λe W'=>e=Ω (.bool (p x))/\φ W W'):
 ύ prog 215 #[v,fv ψ lb] w λe w'=>e=Ω (Y I (qL p l))/\φ w w':=by
 obtain⟨A,n,c,rfl,hl,ey,hc,T⟩:=hv.Φ;unfold ϕ at hc;have ν:=K hl;have H2:=K T;have HK:=K hK;clear hl T hv hK;go_enter func215,Tryz.ntmps215;go_wp2;go_loopw [5,8] (λt k wr=>∃i:Nat,i<=n/\k=Y I i/\(∀j x,j<i->l[j]?=J x->p x=U)/\φ w wr) (λ_ k _=>n - (ϭ k).toNat)
 case atStart=>exact⟨0,ϛ _,rfl,λj _ hj=>by omega,ό _ _⟩
 case round=>
  obtain⟨i,hi,rfl,bS,hb⟩:=hrel;have HH:=K (Ϗ bS hb);by_cases ao:i<n
  ·obtain⟨ad,x,cs,rfl,aE,hx,⟨kv,rfl,dD,dC⟩,-,aq⟩:=H2.e i ao;have st:=Δ.aJ hb hB;have h0:=cA aq st aE rfl;have h1:=bj aq st aE 0 rfl;have h2:=bj aq st aE 1 rfl;have HX:=K hx;clear bS hb hx aq st;go_wp2;refine(HK.e wr x kv HH.e.2 dD dC (ϡ HX.e)).mono ?_
   rintro e w1 ⟨rfl,ai⟩;have HB:=K ai;clear ai;cases hp:p x with
   |true=>go_wp2;go_ret;exact⟨bm (Fu HX.e hp HH.e.1).symm,HH.e.2.trans (HB.e.mono HH.e.2.size)⟩
   |false=>
    go_wp2;go_roundw;case rel=>exact⟨i+1,by omega,by go_num,λj y hj hy=>by
     rcases Ϯ.1 hj with h|rfl
     ·exact HH.e.1 j y h hy
     ·rw[HX.e] at hy;cases hy;exact hp,HH.e.2.trans (HB.e.mono HH.e.2.size)⟩
    case measure=>simp[ϭ];omega
  ·have dc:i=n:=by omega
   subst dc;go_wp2;go_ret;exact⟨bm (Ft (λj x hj=>HH.e.1 j x (by have:=(Ϫ.1 hj).1;have:=ν.e;omega) hj)).symm,HH.e.2⟩
def aag{l:List bN}(p:bN->Bool)(eg:∀args w,(callFunc ψ args).run prog w=.ok (.enter ψ args) w)
 (hv:Row w B 3 (bN.R w B) v l)(hB:B<=w.heap.size)
 (hK:∀(W:N) (x:bN) (kv:z),φ w W->x.name.size<=ϕ->Row w B 2 Span.R kv x.cM->x∈l->ύ prog ψ (#[η #[.string x.name,Y I x.aL,kv]]++lb) W λe W'=>e=Ω (.bool (p x))/\φ W W'):
 ύ prog 205 #[v,fv ψ lb] w λe w'=>e=Ω (.bool (l.any p))/\φ w w':=by
 have HV:=K hv;have HK:=K hK;clear hv hK;cases hp:l.any p with
 |true=>have hi:=(Cy (l:=l) (p:=p)).1 hp;go_enter func205,Tryz.ntmps205;go_wp2;refine(WK p eg HV.e hB HK.e).mono ?_;rintro e w1 ⟨rfl,ai⟩;go_wp2;go_ret;exact⟨bU rfl,ai⟩
 |false=>have hi:=(Fs (l:=l) (p:=p)).1 hp;go_enter func205,Tryz.ntmps205;go_wp2;refine(WK p eg HV.e hB HK.e).mono ?_;rintro e w1 ⟨rfl,ai⟩;go_wp2;go_ret;exact⟨bU (by simp;omega),ai⟩
def WL{l:List Tape}(p:Tape->Bool)(eg:∀args w,(callFunc ψ args).run prog w=.ok (.enter ψ args) w)
 (hv:Row w B 3 (Tape.R w B) v l)(hB:B<=w.heap.size)
 (hK:∀(W:N) (x:Tape) (kv:z),φ w W->Row w B 1 bI kv x.pieces->x∈l->ύ prog ψ (#[η #[kv,Y I x.sum.lo,Y I x.sum.hi]]++lb) W λe W'=>e=Ω (.bool (p x))/\φ W W'):
 ύ prog 216 #[v,fv ψ lb] w λe w'=>e=Ω (Y I (qL p l))/\φ w w':=by
 obtain⟨A,n,c,rfl,hl,ey,hc,T⟩:=hv.Φ;unfold ϕ at hc;have ν:=K hl;have H2:=K T;have HK:=K hK;clear hl T hv hK;go_enter func216,Tryz.ntmps216;go_wp2;go_loopw [5,8] (λt k wr=>∃i:Nat,i<=n/\k=Y I i/\(∀j x,j<i->l[j]?=J x->p x=U)/\φ w wr) (λ_ k _=>n - (ϭ k).toNat)
 case atStart=>exact⟨0,ϛ _,rfl,λj _ hj=>by omega,ό _ _⟩
 case round=>
  obtain⟨i,hi,rfl,bS,hb⟩:=hrel;have HH:=K (Ϗ bS hb);by_cases ao:i<n
  ·obtain⟨ad,x,cs,rfl,aE,hx,⟨kv,rfl,dC⟩,-,aq⟩:=H2.e i ao;have st:=Δ.aJ hb hB;have h0:=cA aq st aE rfl;have h1:=bj aq st aE 0 rfl;have h2:=bj aq st aE 1 rfl;have HX:=K hx;clear bS hb hx aq st;go_wp2;refine(HK.e wr x kv HH.e.2 dC (ϡ HX.e)).mono ?_
   rintro e w1 ⟨rfl,ai⟩;have HB:=K ai;clear ai;cases hp:p x with
   |true=>go_wp2;go_ret;exact⟨bm (Fu HX.e hp HH.e.1).symm,HH.e.2.trans (HB.e.mono HH.e.2.size)⟩
   |false=>
    go_wp2;go_roundw;case rel=>exact⟨i+1,by omega,by go_num,λj y hj hy=>by
     rcases Ϯ.1 hj with h|rfl
     ·exact HH.e.1 j y h hy
     ·rw[HX.e] at hy;cases hy;exact hp,HH.e.2.trans (HB.e.mono HH.e.2.size)⟩
    case measure=>simp[ϭ];omega
  ·have dc:i=n:=by omega
   subst dc;go_wp2;go_ret;exact⟨bm (Ft (λj x hj=>HH.e.1 j x (by have:=(Ϫ.1 hj).1;have:=ν.e;omega) hj)).symm,HH.e.2⟩
def aj7{l:List Tape}(p:Tape->Bool)(eg:∀args w,(callFunc ψ args).run prog w=.ok (.enter ψ args) w)
 (hv:Row w B 3 (Tape.R w B) v l)(hB:B<=w.heap.size)
 (hK:∀(W:N) (x:Tape) (kv:z),φ w W->Row w B 1 bI kv x.pieces->x∈l->ύ prog ψ (#[η #[kv,Y I x.sum.lo,Y I x.sum.hi]]++lb) W λe W'=>e=Ω (.bool (p x))/\φ W W'):
 ύ prog 208 #[v,fv ψ lb] w λe w'=>e=Ω (.bool (l.any p))/\φ w w':=by
 have HV:=K hv;have HK:=K hK;clear hv hK;cases hp:l.any p with
 |true=>have hi:=(Cy (l:=l) (p:=p)).1 hp;go_enter func208,Tryz.ntmps208;go_wp2;refine(WL p eg HV.e hB HK.e).mono ?_;rintro e w1 ⟨rfl,ai⟩;go_wp2;go_ret;exact⟨bU rfl,ai⟩
 |false=>have hi:=(Fs (l:=l) (p:=p)).1 hp;go_enter func208,Tryz.ntmps208;go_wp2;refine(WL p eg HV.e hB HK.e).mono ?_;rintro e w1 ⟨rfl,ai⟩;go_wp2;go_ret;exact⟨bU (by simp;omega),ai⟩
def WI(p:Int->Bool)(eg:∀args w,(callFunc ψ args).run prog w=.ok (.enter ψ args) w)
 (hv:Row w B 1 bI v l)(hB:B<=w.heap.size)
 (hK:∀(W:N) (x:Int),φ w W->x∈l->ύ prog ψ (#[Y I x]++lb) W λe W'=>e=Ω (.bool (p x))/\φ W W'):
 ύ prog 202 #[v,fv ψ lb] w λe w'=>e=Ω (Y I (qL p l))/\φ w w':=by
 obtain⟨A,n,c,rfl,hl,ey,hc,T⟩:=hv.Φ;unfold ϕ at hc;have ν:=K hl;have H2:=K T;have HK:=K hK;clear hl T hv hK;go_enter func202,Tryz.ntmps202;go_wp2;go_loopw [5,8] (λt k wr=>∃i:Nat,i<=n/\k=Y I i/\(∀j x,j<i->l[j]?=J x->p x=U)/\φ w wr) (λ_ k _=>n - (ϭ k).toNat)
 case atStart=>exact⟨0,ϛ _,rfl,λj _ hj=>by omega,ό _ _⟩
 case round=>
  obtain⟨i,hi,rfl,bS,hb⟩:=hrel;have HH:=K (Ϗ bS hb);by_cases ao:i<n
  ·obtain⟨ad,x,cs,rfl,aE,hx,rfl,-,aq⟩:=H2.e i ao;have st:=Δ.aJ hb hB;have h0:=cA aq st aE rfl;rw[Ì] at h0;have HX:=K hx;clear bS hb hx aq st;go_wp2;refine(HK.e wr x HH.e.2 (ϡ HX.e)).mono ?_
   rintro e w1 ⟨rfl,ai⟩;have HB:=K ai;clear ai;cases hp:p x with
   |true=>go_wp2;go_ret;exact⟨bm (Fu HX.e hp HH.e.1).symm,HH.e.2.trans (HB.e.mono HH.e.2.size)⟩
   |false=>
    go_wp2;go_roundw;case rel=>exact⟨i+1,by omega,by go_num,λj y hj hy=>by
     rcases Ϯ.1 hj with h|rfl
     ·exact HH.e.1 j y h hy
     ·rw[HX.e] at hy;cases hy;exact hp,HH.e.2.trans (HB.e.mono HH.e.2.size)⟩
    case measure=>simp[ϭ];omega
  ·have dc:i=n:=by omega
   subst dc;go_wp2;go_ret;exact⟨bm (Ft (λj x hj=>HH.e.1 j x (by have:=(Ϫ.1 hj).1;have:=ν.e;omega) hj)).symm,HH.e.2⟩
def TJ(p:Int->Bool)(eg:∀args w,(callFunc ψ args).run prog w=.ok (.enter ψ args) w)
 (hv:Row w B 1 bI v l)(hB:B<=w.heap.size)
 (hK:∀(W:N) (x:Int),φ w W->x∈l->ύ prog ψ (#[Y I x]++lb) W λe W'=>e=Ω (.bool (p x))/\φ W W'):
 ύ prog 177 #[v,fv ψ lb] w λe w'=>e=Ω (.bool (l.any p))/\φ w w':=by
 have HV:=K hv;have HK:=K hK;clear hv hK;cases hp:l.any p with
 |true=>have hi:=(Cy (l:=l) (p:=p)).1 hp;go_enter func177,Tryz.ntmps177;go_wp2;refine(WI p eg HV.e hB HK.e).mono ?_;rintro e w1 ⟨rfl,ai⟩;go_wp2;go_ret;exact⟨bU rfl,ai⟩
 |false=>have hi:=(Fs (l:=l) (p:=p)).1 hp;go_enter func177,Tryz.ntmps177;go_wp2;refine(WI p eg HV.e hB HK.e).mono ?_;rintro e w1 ⟨rfl,ai⟩;go_wp2;go_ret;exact⟨bU (by simp;omega),ai⟩
def WH{l:List al}(p:al->Bool)(eg:∀args w,(callFunc ψ args).run prog w=.ok (.enter ψ args) w)
 (hv:Row w B 3 al.R v l)(hB:B<=w.heap.size)
 (hK:∀(W:N) (x:al),φ w W->x∈l->ύ prog ψ (#[η #[Y I x.a,Y I x.b,Y I x.c]]++lb) W λe W'=>e=Ω (.bool (p x))/\φ W W'):
 ύ prog 187 #[v,fv ψ lb] w λe w'=>e=Ω (Y I (qL p l))/\φ w w':=by
 obtain⟨A,n,c,rfl,hl,ey,hc,T⟩:=hv.Φ;unfold ϕ at hc;have ν:=K hl;have H2:=K T;have HK:=K hK;clear hl T hv hK;go_enter func187,Tryz.ntmps187;go_wp2;go_loopw [5,8] (λt k wr=>∃i:Nat,i<=n/\k=Y I i/\(∀j x,j<i->l[j]?=J x->p x=U)/\φ w wr) (λ_ k _=>n - (ϭ k).toNat)
 case atStart=>exact⟨0,ϛ _,rfl,λj _ hj=>by omega,ό _ _⟩
 case round=>
  obtain⟨i,hi,rfl,bS,hb⟩:=hrel;have HH:=K (Ϗ bS hb);by_cases ao:i<n
  ·obtain⟨ad,x,cs,rfl,aE,hx,rfl,-,aq⟩:=H2.e i ao;have st:=Δ.aJ hb hB;have h0:=cA aq st aE rfl;have h1:=bj aq st aE 0 rfl;have h2:=bj aq st aE 1 rfl;have HX:=K hx;clear bS hb hx aq st;go_wp2;refine(HK.e wr x HH.e.2 (ϡ HX.e)).mono ?_
   rintro e w1 ⟨rfl,ai⟩;have HB:=K ai;clear ai;cases hp:p x with
   |true=>go_wp2;go_ret;exact⟨bm (Fu HX.e hp HH.e.1).symm,HH.e.2.trans (HB.e.mono HH.e.2.size)⟩
   |false=>
    go_wp2;go_roundw;case rel=>exact⟨i+1,by omega,by go_num,λj y hj hy=>by
     rcases Ϯ.1 hj with h|rfl
     ·exact HH.e.1 j y h hy
     ·rw[HX.e] at hy;cases hy;exact hp,HH.e.2.trans (HB.e.mono HH.e.2.size)⟩
    case measure=>simp[ϭ];omega
  ·have dc:i=n:=by omega
   subst dc;go_wp2;go_ret;exact⟨bm (Ft (λj x hj=>HH.e.1 j x (by have:=(Ϫ.1 hj).1;have:=ν.e;omega) hj)).symm,HH.e.2⟩
def aj6{l:List al}(p:al->Bool)(eg:∀args w,(callFunc ψ args).run prog w=.ok (.enter ψ args) w)
 (hv:Row w B 3 al.R v l)(hB:B<=w.heap.size)
 (hK:∀(W:N) (x:al),φ w W->x∈l->ύ prog ψ (#[η #[Y I x.a,Y I x.b,Y I x.c]]++lb) W λe W'=>e=Ω (.bool (p x))/\φ W W'):
 ύ prog 150 #[v,fv ψ lb] w λe w'=>e=Ω (.bool (l.any p))/\φ w w':=by
 have HV:=K hv;have HK:=K hK;clear hv hK;cases hp:l.any p with
 |true=>have hi:=(Cy (l:=l) (p:=p)).1 hp;go_enter func150,Tryz.ntmps150;go_wp2;refine(WH p eg HV.e hB HK.e).mono ?_;rintro e w1 ⟨rfl,ai⟩;go_wp2;go_ret;exact⟨bU rfl,ai⟩
 |false=>have hi:=(Fs (l:=l) (p:=p)).1 hp;go_enter func150,Tryz.ntmps150;go_wp2;refine(WH p eg HV.e hB HK.e).mono ?_;rintro e w1 ⟨rfl,ai⟩;go_wp2;go_ret;exact⟨bU (by simp;omega),ai⟩
def gG(hb:Γ B W w1)(hB:B=W.heap.size):(∀b o,b<W.heap.size-> w1.cell? ⟨b,o,H⟩= W.cell? ⟨b,o,H⟩)/\(∀b o,b<W.heap.size-> w1.frozen? ⟨b,o,H⟩= W.frozen? ⟨b,o,H⟩):=by subst hB;exact⟨λb o h=>hb.cell (p:=⟨b,o,H⟩) h,λb o h=>hb.frozen (p:=⟨b,o,H⟩) h⟩
def Row.take{α:Type}{w:N}{B sz:Nat}{R:α->List z->Prop}{A:Option Addr}{n c:Nat}{l:List α}(h:Row w B sz R (E A n c) l){i:Nat}(hi:i<=n):Row w B sz R (E A i c) (l.take i):=by
 obtain⟨A',c',hv,h1,h2,h3⟩:=h;injection hv with e1 e2 e3;subst e1;subst e3;subst e2;have e:(l.take i).length=i:=by rw[List.length_take];omega
 refine⟨A,c,by rw[e],by omega,h2,λhx=>?_⟩;obtain⟨ad,ha,hb,hc⟩:=h3 (by rintro rfl;simp at hx);refine⟨ad,ha,hb,λj x hj=>hc j x ?_⟩;rw[List.getElem?_take] at hj;split at hj<;>simp_all
def scan{α:Type}(f:List α->α->Int):List α->List α->Int
 |_,[]=>0
 |dZ,x::l=>if f dZ x≠0 then f dZ x else scan f (dZ++ [x]) l
def Yr{α:Type}{f:List α->α->Int}:∀(l dZ:List α) (i:Nat) (x:α),l[i]?=J x->(∀(j:Nat) (y:α),j<i->l[j]?=J y->f (dZ++l.take j) y=0)->f (dZ++l.take i) x≠0->scan f dZ l=f (dZ++l.take i) x
 | [],_,_,_,h,_,_=>by simp at h
 |a::l,dZ,0,x,h,_,hf=>by simp at h;subst h;simp at hf;simp[scan,hf]
 |a::l,dZ,i+1,x,h,hz,hf=>by
  have h0:=hz 0 a (by omega) rfl;simp at h0;have:=Yr l (dZ++ [a]) i x (by simpa using h) (λj y hj hy=>by simpa using hz (j+1) y (by omega) (by simpa using hy)) (by simpa using hf)
  simp[scan,h0,this]
def vQ{f:List α->α->Int}{l:List α}{x:α}(h:l[i]?=J x)(hz:∀(j:Nat) (y:α),j<i->l[j]?=J y->f (l.take j) y=0)(hf:f (l.take i) x≠0):scan f [] l=f (l.take i) x:=by simpa using Yr l [] i x h (by simpa using hz) (by simpa using hf)
def Yq{α:Type}{f:List α->α->Int}:∀(l dZ:List α),(∀(j:Nat) (y:α),l[j]?=J y->f (dZ++l.take j) y=0)->scan f dZ l=0
 | [],_,_=>rfl
 |a::l,dZ,hz=>by
  have h0:=hz 0 a rfl;simp at h0;have:=Yq l (dZ++ [a]) (λj y hy=>by simpa using hz (j+1) y (by simpa using hy))
  simp[scan,h0,this]
def vP{f:List α->α->Int}{l:List α}(hz:∀(j:Nat) (y:α),l[j]?=J y->f (l.take j) y=0):scan f [] l=0:=Yq l [] (by simpa using hz)
def kI(a b lo hi many:Int):Bool:=decide (lo<=a) && decide (a<=b) && decide (b<=hi) && decide (b - a<many)
def xX{b many:Int}(qx:0<=lo)(Vj:hi<=1000000)(w:N):ύ prog 154 #[η #[Y I a,Y I b],Y I lo,Y I hi,Y I many] w λe w'=>e=Ω (.bool (kI a b lo hi many))/\φ w w':=by
 go_enter func154,Tryz.ntmps154;go_wp2;all_goals go_ret
 all_goals (refine⟨bU ?_,(ό _ _).alloc (ϊ _) _⟩;unfold kI;first| (simp;done) | (simp;omega) | (simp[*];omega) | (simp[*];done))
def ab{n:Int}(w:N):ύ prog 141 #[η #[Y I n,pv,bv,tv]] w λe w'=>e=Ω (Y I (if cj n 0 3 then 0 else 1))/\φ w w':=by
 cases h:cj n 0 3;all_goals
  go_enter func141,Tryz.ntmps141;go_wp2_with (first
   | (go_at_call 134;refine(inside _ _ _ _).mono ?_;rintro e w' ⟨rfl,rfl⟩))
  go_ret;exact⟨bm rfl,(ό _ _).alloc (ϊ _) _⟩
def there(k n:Int)(hn:0<=n)(w:N)(Ia:n<=9223372036854775807):ύ prog 100 #[Y I k,Y I n] w λe w'=>e=Ω (Y I (if cj k 0 (n - 1) then 0 else 6))/\w=w':=by
 cases h:cj k 0 (n - 1);all_goals
  go_enter func100,Tryz.ntmps100;go_wp2_with (first
   | (go_at_call 134;refine(inside _ _ _ _).mono ?_;rintro e w' ⟨rfl,rfl⟩))
  go_ret;exact⟨bm rfl,rfl⟩
def kH(a b:ByteArray):Bool:=a.toList==b.toList
def JW{b c:Int}(hp: w.cell? p=J (.string FX))(E4:p.block<w.heap.size):
 ύ prog 184 #[η #[.string nm,Y I a,Y I b,Y I c],π (J p)] w λe w'=>e=Ω (.bool (kH nm FX))/\φ w w':=by
 go_enter func184,Tryz.ntmps184;go_wp2;go_ret;exact⟨bU rfl,(ό _ _).alloc (ϊ _) _⟩
def JX{kv:z}(hp: w.cell? p=J (.string FX))(E4:p.block<w.heap.size):
 ύ prog 206 #[η #[.string nm,Y I a,kv],π (J p)] w λe w'=>e=Ω (.bool (kH nm FX))/\φ w w':=by
 go_enter func206,Tryz.ntmps206;go_wp2;go_ret;exact⟨bU rfl,(ό _ _).alloc (ϊ _) _⟩
def da(h:Γ B w wr)(h1:Γ (wr.alloc o).heap.size (wr.alloc o) w1)(hB:B<=wr.heap.size):Γ B w w1:=
 h.trans (((ό _ _).alloc hB _).trans (h1.mono (by simp;omega)))
def chain(h:Γ B w wr)(h1:φ wr w1)(hB:B<=wr.heap.size):Γ B w w1:=h.trans (h1.mono hB)
def pM(h:Γ B (wr.alloc o) w1):wr.heap.size<w1.heap.size:=by have:=h.size;simp at this;omega
def app1{a b:z}{R:Ending->N->Prop}(h:ύ P f #[a,b] w R):ύ P f (#[a]++#[b]) w R:=by
 have e:(#[a]++#[b]:Array z)=#[a,b]:=by simp
 rw[e];exact h
def uN{a:N}(h:Γ B a.drew w):Γ B a w:=⟨h.os,h.tape,h.output,h.size,h.block⟩
def kg(h:Γ (w.heap.size+1) (w.alloc o) wr):φ w wr:=((ό _ _).alloc (ϊ _) _).trans (h.mono (by omega))
def lI(dZ:List Piece)(p:Piece):Int:=
 if nU p.name.data.toList then if dZ.any (λq=>kH q.name p.name) then 5 else if kI p.len.lo p.len.hi 1 40 3 then if cj p.bears 0 2 then 0 else 1 else 1 else 4
def jh(l:List Piece):Int:=if cj l.length 1 3 then scan lI [] l else 2
def pieces{n:Int}{l:List Piece}(hv:Row w B 4 Piece.R pv l)(hB:B<=w.heap.size):
 ύ prog 142 #[η #[Y I n,pv,bv,tv]] w λe w'=>e=Ω (Y I (jh l))/\φ w w':=by
 have HV:=K hv;obtain⟨A,m,c,rfl,hl,ey,hc,T⟩:=hv.Φ;have dM:=K hl;unfold ϕ at hc;have H2:=K T;clear hl T hv;cases hlen:cj m 1 3 with
 |false=>
  go_enter func142,Tryz.ntmps142;go_wp2_with (first
   | (go_at_call 134;refine(inside _ _ _ _).mono ?_;rintro e w' ⟨rfl,rfl⟩))
  go_ret;exact⟨bm (by unfold jh;rw[dM.e,hlen];rfl),(ό _ _).alloc (ϊ _) _⟩
 |true=>
  go_enter func142,Tryz.ntmps142;go_wp2_with (first
   | (go_at_call 134;refine(inside _ _ _ _).mono ?_;rintro e w' ⟨rfl,rfl⟩))
  go_loopw [2,3,4,15] (λr t q k wr=>∃i:Nat,i<=m/\k=Y I i/\(∀(j:Nat) (x:Piece),j<i->l[j]?=J x->lI (l.take j) x=0)/\Γ (w.heap.size+1) (w.alloc (Ϧ #[Y I n,E A m c,bv,tv] 117)) wr) (λ_ _ _ k _=>m - (ϭ k).toNat)
  case atStart=>exact⟨0,ϛ _,rfl,λj _ hj=>by omega,ό _ _⟩
  case round=>
   obtain⟨i,hi,rfl,bS,hb⟩:=hrel;have HH:=K (Ϗ bS hb);have ef:=hb.size;have aN:w.heap.size+1<=wr.heap.size:=by simpa using ef
   have vA:w.heap.size<=wr.heap.size:=(by omega);have E7:w.heap.size<wr.heap.size:=(by omega);have ho: wr.cell? ⟨w.heap.size,1,H⟩=J (E A m c):=(hb.cell (p:=⟨w.heap.size,1,H⟩) (by simp)).trans (by simp[go_sem]);by_cases ao:i<m
   ·obtain⟨ad,x,cs,rfl,aE,hx,⟨rfl,dD⟩,-,aq⟩:=H2.e i ao;have st:Δ B w wr:=((Δ.refl w).alloc hB _).trans (Δ.aJ hb (by omega));have ST:=K st;have h0:=cA aq st aE rfl;have h1:=bj aq st aE 0 rfl;have h2:=bj aq st aE 1 rfl;have h3:=bj aq st aE 2 rfl;have HX:=K hx;clear bS hb hx aq st ef;have lu:=K HH.e.2;have bad:∀s:Int,lI (l.take i) x=s->s≠0->s=jh l:=λs V h0=>by
     unfold jh;rw[dM.e,hlen,if_pos rfl,vQ HX.e HH.e.1 (by rw[V];exact h0),V]
    have gW:=K bad;clear bad;cases ej:nU x.name.data.toList with
    |false=>
     go_wp2_with (first
      | (go_at_call 182;refine(isName dD _).mono ?_;rintro e w1 ⟨rfl,ai⟩;obtain⟨fU,iz⟩:=gG ai rfl))
     go_ret;exact⟨bm (gW.e 4 (by unfold lI;rw[ej];rfl) (by omega)),kg (da lu.e ai aN)⟩
    |true=>
     cases oO:(l.take i).any (λq=>kH q.name x.name) with
     |true=>
      go_wp2_with (first
       | (go_at_call 182;refine(isName dD _).mono ?_;rintro e w1 ⟨rfl,ai⟩;obtain⟨fU,iz⟩:=gG ai rfl;have aO:wr.heap.size<w1.heap.size:=pM ai;have kC:w.heap.size<w1.heap.size:=Agt vA aO;have dY:=K (da lu.e ai aN);have lP:Hid (w1.cell? ⟨wr.heap.size,0,H⟩=J (.string x.name)):=K ((fU wr.heap.size 0 (by simp)).trans (Ļ wr _ _ _ 0));clear ai)
       | (go_at_call 183;have HS:=K ((HV.e.take hi).still (Δ.aJ (kg dY.e) hB) λ_ _ h=>h);refine(Hj (λq=>kH q.name x.name) call184 HS.e (Ϥ hB (ÿ kC)) (λW y hW _ _=>app1 (JW (p:=⟨wr.heap.size,0,H⟩) ((hW.cell (p:=⟨wr.heap.size,0,H⟩) aO).trans lP.e) (Ϣ aO hW.size)))).mono ?_;rintro e w2 ⟨rfl,an⟩;obtain⟨eu,oJ⟩:=gG an rfl;have aZ:wr.heap.size<w2.heap.size:=Ϣ aO an.size;have pL:w.heap.size<w2.heap.size:=Ϣ kC an.size;have eH:=K (chain dY.e an kC);clear an))
      go_ret;exact⟨bm (gW.e 5 (by unfold lI;rw[ej,oO];rfl) (by omega)),kg eH.e⟩
     |false=>
      cases iX:kI x.len.lo x.len.hi 1 40 3 with
      |false=>
       go_wp2_with (first
           | (go_at_call 182;refine(isName dD _).mono ?_;rintro e w1 ⟨rfl,ai⟩;obtain⟨fU,iz⟩:=gG ai rfl;have aO:wr.heap.size<w1.heap.size:=pM ai;have kC:w.heap.size<w1.heap.size:=Agt vA aO;have dY:=K (da lu.e ai aN);have lP:Hid (w1.cell? ⟨wr.heap.size,0,H⟩=J (.string x.name)):=K ((fU wr.heap.size 0 (by simp)).trans (Ļ wr _ _ _ 0));clear ai)
           | (go_at_call 183;have HS:=K ((HV.e.take hi).still (Δ.aJ (kg dY.e) hB) λ_ _ h=>h);refine(Hj (λq=>kH q.name x.name) call184 HS.e (Ϥ hB (ÿ kC)) (λW y hW _ _=>app1 (JW (p:=⟨wr.heap.size,0,H⟩) ((hW.cell (p:=⟨wr.heap.size,0,H⟩) aO).trans lP.e) (Ϣ aO hW.size)))).mono ?_;rintro e w2 ⟨rfl,an⟩;obtain⟨eu,oJ⟩:=gG an rfl;have aZ:wr.heap.size<w2.heap.size:=Ϣ aO an.size;have pL:w.heap.size<w2.heap.size:=Ϣ kC an.size;have eH:=K (chain dY.e an kC);clear an)
           | (go_at_call 154;refine(xX (by omega) (by omega) _).mono ?_;rintro e w3 ⟨rfl,bK⟩;obtain⟨Iw,zS⟩:=gG bK rfl;have Dr:=K (chain eH.e bK pL);have gw:wr.heap.size<w3.heap.size:=Ϣ aZ bK.size;have Wz:w.heap.size<w3.heap.size:=Ϣ pL bK.size;clear bK))
       go_ret;exact⟨bm (gW.e 1 (by unfold lI;rw[ej,oO,iX];rfl) (by omega)),kg Dr.e⟩
      |true=>
       cases Ah:cj x.bears 0 2 with
       |false=>
        go_wp2_with (first
                | (go_at_call 182;refine(isName dD _).mono ?_;rintro e w1 ⟨rfl,ai⟩;obtain⟨fU,iz⟩:=gG ai rfl;have aO:wr.heap.size<w1.heap.size:=pM ai;have kC:w.heap.size<w1.heap.size:=Agt vA aO;have dY:=K (da lu.e ai aN);have lP:Hid (w1.cell? ⟨wr.heap.size,0,H⟩=J (.string x.name)):=K ((fU wr.heap.size 0 (by simp)).trans (Ļ wr _ _ _ 0));clear ai)
                | (go_at_call 183;have HS:=K ((HV.e.take hi).still (Δ.aJ (kg dY.e) hB) λ_ _ h=>h);refine(Hj (λq=>kH q.name x.name) call184 HS.e (Ϥ hB (ÿ kC)) (λW y hW _ _=>app1 (JW (p:=⟨wr.heap.size,0,H⟩) ((hW.cell (p:=⟨wr.heap.size,0,H⟩) aO).trans lP.e) (Ϣ aO hW.size)))).mono ?_;rintro e w2 ⟨rfl,an⟩;obtain⟨eu,oJ⟩:=gG an rfl;have aZ:wr.heap.size<w2.heap.size:=Ϣ aO an.size;have pL:w.heap.size<w2.heap.size:=Ϣ kC an.size;have eH:=K (chain dY.e an kC);clear an)
                | (go_at_call 154;refine(xX (by omega) (by omega) _).mono ?_;rintro e w3 ⟨rfl,bK⟩;obtain⟨Iw,zS⟩:=gG bK rfl;have Dr:=K (chain eH.e bK pL);have gw:wr.heap.size<w3.heap.size:=Ϣ aZ bK.size;have Wz:w.heap.size<w3.heap.size:=Ϣ pL bK.size;clear bK)
                | (go_at_call 134;refine(inside _ _ _ _).mono ?_;rintro e w' ⟨rfl,rfl⟩))
        go_ret;exact⟨bm (gW.e 1 (by unfold lI;rw[ej,oO,iX,Ah];rfl) (by omega)),kg Dr.e⟩
       |true=>
        go_wp2_with (first
                | (go_at_call 182;refine(isName dD _).mono ?_;rintro e w1 ⟨rfl,ai⟩;obtain⟨fU,iz⟩:=gG ai rfl;have aO:wr.heap.size<w1.heap.size:=pM ai;have kC:w.heap.size<w1.heap.size:=Agt vA aO;have dY:=K (da lu.e ai aN);have lP:Hid (w1.cell? ⟨wr.heap.size,0,H⟩=J (.string x.name)):=K ((fU wr.heap.size 0 (by simp)).trans (Ļ wr _ _ _ 0));clear ai)
                | (go_at_call 183;have HS:=K ((HV.e.take hi).still (Δ.aJ (kg dY.e) hB) λ_ _ h=>h);refine(Hj (λq=>kH q.name x.name) call184 HS.e (Ϥ hB (ÿ kC)) (λW y hW _ _=>app1 (JW (p:=⟨wr.heap.size,0,H⟩) ((hW.cell (p:=⟨wr.heap.size,0,H⟩) aO).trans lP.e) (Ϣ aO hW.size)))).mono ?_;rintro e w2 ⟨rfl,an⟩;obtain⟨eu,oJ⟩:=gG an rfl;have aZ:wr.heap.size<w2.heap.size:=Ϣ aO an.size;have pL:w.heap.size<w2.heap.size:=Ϣ kC an.size;have eH:=K (chain dY.e an kC);clear an)
                | (go_at_call 154;refine(xX (by omega) (by omega) _).mono ?_;rintro e w3 ⟨rfl,bK⟩;obtain⟨Iw,zS⟩:=gG bK rfl;have Dr:=K (chain eH.e bK pL);have gw:wr.heap.size<w3.heap.size:=Ϣ aZ bK.size;have Wz:w.heap.size<w3.heap.size:=Ϣ pL bK.size;clear bK)
                | (go_at_call 134;refine(inside _ _ _ _).mono ?_;rintro e w' ⟨rfl,rfl⟩))
        go_roundw;case rel=>exact⟨i+1,by omega,by go_num,λj y hj hy=>by
                rcases Ϯ.1 hj with h|rfl
                ·exact HH.e.1 j y h hy
                ·rw[HX.e] at hy;cases hy;unfold lI;rw[ej,oO,iX,Ah];rfl,Dr.e⟩
        case measure=>simp[ϭ];omega
   ·obtain rfl:i=m:=by omega
    go_wp2;go_ret;refine⟨bm ?_,kg HH.e.2⟩;unfold jh;rw[dM.e,hlen,if_pos rfl,vP (λj x hj=>HH.e.1 j x (by have:=(Ϫ.1 hj).1;have:=dM.e;omega) hj)]
def nS{n b:Int}(h:cj n a b=D):a<=n/\n<=b:=by simpa [cj] using h
def mU(aL:Int):Int->List Span->Int
 |_,[]=>0
 |last,k::l=>if kI k.lo k.hi 0 (aL - 1) aL then if k.lo<=last then 7 else mU aL k.hi l else 1
def iw(dZ:List bN)(x:bN):Int:=
 if nU x.name.data.toList then if dZ.any (λq=>kH q.name x.name) then 5 else if cj x.aL 1 40 then if 3<x.cM.length then 2 else mU x.aL (-1) x.cM else 1 else 4
def drop_cons{l:List α}{x:α}(h:l[i]?=J x):l.drop i=x::l.drop (i+1):=by obtain⟨hi,e⟩:=Ϫ.1 h;rw[List.drop_eq_getElem_cons hi,e]
def bt{x:bN}{kv:z}{l:List bN}(dD:x.name.size<=ϕ)(hk:Row w B 2 Span.R kv x.cM)(hv:Row w B 3 (bN.R w B) v l)(hB:B<=w.heap.size):
 ύ prog 185 #[η #[.string x.name,Y I x.aL,kv],v] w λe w'=>e=Ω (Y I (iw l x))/\φ w w':=by
 have HV:=K hv;have HK:=K hk;obtain⟨A,m,c,rfl,hl,ey,hc,T⟩:=hk.Φ;have dM:=K hl;unfold ϕ at hc;have H2:=K T;have vA:w.heap.size<=w.heap.size:=ϊ _;clear hl T hk hv;cases ej:nU x.name.data.toList with
 |false=>
  go_enter func185,Tryz.ntmps185;go_wp2_with (first
   | (go_at_call 182;refine(isName dD _).mono ?_;rintro e w1 ⟨rfl,ai⟩;obtain⟨fU,iz⟩:=gG ai rfl))
  go_ret;exact⟨bm (by unfold iw;rw[ej];rfl),da (ό _ _) ai (ϊ _)⟩
 |true=>
  cases oO:l.any (λq=>kH q.name x.name) with
  |true=>
   go_enter func185,Tryz.ntmps185;go_wp2_with (first
    | (go_at_call 182;refine(isName dD _).mono ?_;rintro e w1 ⟨rfl,ai⟩;obtain⟨fU,iz⟩:=gG ai rfl;have aO:w.heap.size<w1.heap.size:=pM ai;have dY:=K (da (ό w.heap.size w) ai (ϊ _));have lP:Hid (w1.cell? ⟨w.heap.size,0,H⟩=J (.string x.name)):=K ((fU w.heap.size 0 (by simp)).trans (Ļ w _ _ _ 0));clear ai)
    | (go_at_call 205;have HS:=K (HV.e.still (Δ.aJ dY.e hB) λ_ _ h=>h.still (Δ.aJ dY.e hB));refine(aag (λq=>kH q.name x.name) call206 HS.e (Ϥ hB (ÿ aO)) (λW y kv hW _ _ _=>app1 (JX (p:=⟨w.heap.size,0,H⟩) ((hW.cell (p:=⟨w.heap.size,0,H⟩) aO).trans lP.e) (Ϣ aO hW.size)))).mono ?_;rintro e w2 ⟨rfl,an⟩;obtain⟨eu,oJ⟩:=gG an rfl;have aZ:w.heap.size<w2.heap.size:=Ϣ aO an.size;have eH:=K (chain dY.e an (ÿ aO));clear an))
   go_ret;exact⟨bm (by unfold iw;rw[ej,oO];rfl),eH.e⟩
  |false=>
   cases iX:cj x.aL 1 40 with
   |false=>
    go_enter func185,Tryz.ntmps185;go_wp2_with (first
     | (go_at_call 182;refine(isName dD _).mono ?_;rintro e w1 ⟨rfl,ai⟩;obtain⟨fU,iz⟩:=gG ai rfl;have aO:w.heap.size<w1.heap.size:=pM ai;have dY:=K (da (ό w.heap.size w) ai (ϊ _));have lP:Hid (w1.cell? ⟨w.heap.size,0,H⟩=J (.string x.name)):=K ((fU w.heap.size 0 (by simp)).trans (Ļ w _ _ _ 0));clear ai)
     | (go_at_call 205;have HS:=K (HV.e.still (Δ.aJ dY.e hB) λ_ _ h=>h.still (Δ.aJ dY.e hB));refine(aag (λq=>kH q.name x.name) call206 HS.e (Ϥ hB (ÿ aO)) (λW y kv hW _ _ _=>app1 (JX (p:=⟨w.heap.size,0,H⟩) ((hW.cell (p:=⟨w.heap.size,0,H⟩) aO).trans lP.e) (Ϣ aO hW.size)))).mono ?_;rintro e w2 ⟨rfl,an⟩;obtain⟨eu,oJ⟩:=gG an rfl;have aZ:w.heap.size<w2.heap.size:=Ϣ aO an.size;have eH:=K (chain dY.e an (ÿ aO));clear an)
     | (go_at_call 134;refine(inside _ _ _ _).mono ?_;rintro e w' ⟨rfl,rfl⟩))
    go_ret;exact⟨bm (by unfold iw;rw[ej,oO,iX];rfl),eH.e⟩
   |true=>
    obtain⟨qx,Vj⟩:=nS iX;by_cases h3:3<m
    ·go_enter func185,Tryz.ntmps185;go_wp2_with (first
      | (go_at_call 182;refine(isName dD _).mono ?_;rintro e w1 ⟨rfl,ai⟩;obtain⟨fU,iz⟩:=gG ai rfl;have aO:w.heap.size<w1.heap.size:=pM ai;have dY:=K (da (ό w.heap.size w) ai (ϊ _));have lP:Hid (w1.cell? ⟨w.heap.size,0,H⟩=J (.string x.name)):=K ((fU w.heap.size 0 (by simp)).trans (Ļ w _ _ _ 0));clear ai)
      | (go_at_call 205;have HS:=K (HV.e.still (Δ.aJ dY.e hB) λ_ _ h=>h.still (Δ.aJ dY.e hB));refine(aag (λq=>kH q.name x.name) call206 HS.e (Ϥ hB (ÿ aO)) (λW y kv hW _ _ _=>app1 (JX (p:=⟨w.heap.size,0,H⟩) ((hW.cell (p:=⟨w.heap.size,0,H⟩) aO).trans lP.e) (Ϣ aO hW.size)))).mono ?_;rintro e w2 ⟨rfl,an⟩;obtain⟨eu,oJ⟩:=gG an rfl;have aZ:w.heap.size<w2.heap.size:=Ϣ aO an.size;have eH:=K (chain dY.e an (ÿ aO));clear an)
      | (go_at_call 134;refine(inside _ _ _ _).mono ?_;rintro e w' ⟨rfl,rfl⟩))
     go_ret;exact⟨bm (by unfold iw;rw[ej,oO,iX,dM.e];simp[h3]),eH.e⟩
    ·go_enter func185,Tryz.ntmps185;go_wp2_with (first
      | (go_at_call 182;refine(isName dD _).mono ?_;rintro e w1 ⟨rfl,ai⟩;obtain⟨fU,iz⟩:=gG ai rfl;have aO:w.heap.size<w1.heap.size:=pM ai;have dY:=K (da (ό w.heap.size w) ai (ϊ _));have lP:Hid (w1.cell? ⟨w.heap.size,0,H⟩=J (.string x.name)):=K ((fU w.heap.size 0 (by simp)).trans (Ļ w _ _ _ 0));have Y7:Hid (w1.cell? ⟨w.heap.size,1,H⟩=J (Y I x.aL)):=K ((fU w.heap.size 1 (by simp)).trans (Ļ w _ _ _ 1));clear ai)
      | (go_at_call 205;have HS:=K (HV.e.still (Δ.aJ dY.e hB) λ_ _ h=>h.still (Δ.aJ dY.e hB));refine(aag (λq=>kH q.name x.name) call206 HS.e (Ϥ hB (ÿ aO)) (λW y kv hW _ _ _=>app1 (JX (p:=⟨w.heap.size,0,H⟩) ((hW.cell (p:=⟨w.heap.size,0,H⟩) aO).trans lP.e) (Ϣ aO hW.size)))).mono ?_;rintro e w2 ⟨rfl,an⟩;obtain⟨eu,oJ⟩:=gG an rfl;have aZ:w.heap.size<w2.heap.size:=Ϣ aO an.size;have eH:=K (chain dY.e an (ÿ aO));have Y8:Hid (w2.cell? ⟨w.heap.size,1,H⟩=J (Y I x.aL)):=K ((eu w.heap.size 1 aO).trans Y7.e);clear an)
      | (go_at_call 134;refine(inside _ _ _ _).mono ?_;rintro e w' ⟨rfl,rfl⟩))
     clear fU iz eu oJ;go_loopw [4,5,7,30] (λr la q k wr=>∃(i:Nat) (υ:Int),i<=m/\k=Y I i/\la=Y I υ/\mU x.aL (-1) x.cM=mU x.aL υ (x.cM.drop i)/\φ w2 wr) (λ_ _ _ k _=>m - (ϭ k).toNat);case atStart=>exact⟨0,-1,ϛ _,rfl,rfl,rfl,ό _ _⟩
     case round=>
      obtain⟨i,υ,hi,rfl,rfl,bS,hb⟩:=hrel;have HH:=K (Ϗ bS hb);have ef:=hb.size;have E7:w.heap.size<wr.heap.size:=Ϣ aZ ef;have hlg: wr.cell? ⟨w.heap.size,1,H⟩=J (Y I x.aL):=(hb.cell (p:=⟨w.heap.size,1,H⟩) aZ).trans Y8.e;by_cases ao:i<m
      ·obtain⟨ad,y,cs,rfl,aE,hx,rfl,-,aq⟩:=H2.e i ao;have st:Δ B w wr:=(Δ.aJ eH.e hB).trans (Δ.aJ hb (by omega));have h0:=cA aq st aE rfl;have h1:=bj aq st aE 0 rfl;have HX:=K (drop_cons hx);clear bS hb hx aq st;cases hq:kI y.lo y.hi 0 (x.aL - 1) x.aL with
       |false=>
        go_wp2_with (first
            | (go_at_call 154;refine(xX (by omega) (by omega) _).mono ?_;rintro e w3 ⟨rfl,bK⟩;obtain⟨Iw,zS⟩:=gG bK rfl))
        go_ret;exact⟨bm (by unfold iw;rw[ej,oO,iX,dM.e];simp[h3,HH.e.1,HX.e,mU,hq]),chain eH.e (da HH.e.2 bK ef) (ÿ aZ)⟩
       |true=>
        go_wp2_with (first
            | (go_at_call 154;refine(xX (by omega) (by omega) _).mono ?_;rintro e w3 ⟨rfl,bK⟩;obtain⟨Iw,zS⟩:=gG bK rfl;have gw:wr.heap.size<w3.heap.size:=pM bK))
        ·have hz:y.lo<=υ:=by assumption
         go_ret;exact⟨bm (by unfold iw;rw[ej,oO,iX,dM.e];simp[h3,HH.e.1,HX.e,mU,hq,hz]),chain eH.e (da HH.e.2 bK ef) (ÿ aZ)⟩
        ·have hz:υ<y.lo:=by assumption
         go_roundw;case rel=>exact⟨i+1,y.hi,by omega,by go_num,rfl,by rw[HH.e.1,HX.e];simp[mU,hq];omega,da HH.e.2 bK ef⟩
         case measure=>simp[ϭ];omega
      ·obtain rfl:i=m:=by omega
       go_wp2;go_ret;refine⟨bm ?_,chain eH.e HH.e.2 (ÿ aZ)⟩;unfold iw;rw[ej,oO,iX,dM.e];simp[h3,HH.e.1];rw[Agk (ò dM.e)];rfl
def tA{id:Nat}{Q:Exit->Act->N->Prop}{a:Act}{l:List Oper}(n:Nat)(hm:P.follows .mixedOrders=D)(hB:Region.lexTailB .any l.toArray n=D)
 (h:wpStill P l.toArray w.drew (λa'=>wpList P l.toArray Q (l.drop n) a' w.drew) (l.take n) a):(Code.region id l.toArray D).wp P Q a w:=
 wp_region_still_tail n hm hB h
def lB(l:List bN):Int:=if 3<l.length then 2 else scan iw [] l
def aC{n:Int}{l:List bN}(hv:Row w B 3 (bN.R w B) bv l)(hB:B<=w.heap.size):
 ύ prog 143 #[η #[Y I n,pv,bv,tv]] w λe w'=>e=Ω (Y I (lB l))/\φ w w':=by
 have HV:=K hv;obtain⟨A,m,c,rfl,hl,ey,hc,T⟩:=hv.Φ;have dM:=K hl;unfold ϕ at hc;have H2:=K T;clear hl T hv;by_cases hlen:3<m
 ·go_enter func143,Tryz.ntmps143;go_wp2;go_ret;exact⟨bm (by unfold lB;rw[dM.e,if_pos hlen]),(ό _ _).alloc (ϊ _) _⟩
 ·go_enter func143,Tryz.ntmps143;go_wp2;go_loopw [2,3,4,5,15] (λr t q s k wr=>∃i:Nat,i<=m/\k=Y I i/\(∀(j:Nat) (x:bN),j<i->l[j]?=J x->iw (l.take j) x=0)/\Γ (w.heap.size+1) (w.alloc (Ϧ #[Y I n,pv,E A m c,tv] 117)) wr) (λ_ _ _ _ k _=>m - (ϭ k).toNat);case atStart=>exact⟨0,ϛ _,rfl,λj _ hj=>by omega,ό _ _⟩
  case round=>
   obtain⟨i,hi,rfl,bS,hb⟩:=hrel;have HH:=K (Ϗ bS hb);have ef:=hb.size;have aN:w.heap.size+1<=wr.heap.size:=by simpa using ef
   have vA:w.heap.size<=wr.heap.size:=(by omega);have E7:w.heap.size<wr.heap.size:=(by omega);have ho: wr.cell? ⟨w.heap.size,2,H⟩=J (E A m c):=(hb.cell (p:=⟨w.heap.size,2,H⟩) (by simp)).trans (by simp[go_sem]);by_cases ao:i<m
   ·obtain⟨ad,x,cs,rfl,aE,hx,⟨kv,rfl,dD,dC⟩,-,aq⟩:=H2.e i ao;have st:Δ B w wr:=((Δ.refl w).alloc hB _).trans (Δ.aJ hb (by omega));have ST:=K st;obtain⟨A2,c2,rfl,-⟩:=id dC;obtain⟨n2,dn⟩:∃n2,n2=x.cM.length:=⟨_,rfl⟩
    rw[<-dn] at dC aq;clear dn;have uL:=K dC;have h0:=cA aq st aE rfl;have h1:=bj aq st aE 0 rfl;have h2:=bj aq st aE 1 rfl;have HX:=K hx;clear bS hb hx aq st ef dC;have lu:=K HH.e.2;have EJ:i<=c:=by omega
    go_wp2;refine tA 6 (by kernel_rfl) (by kernel_rfl) ?_;simp only[ñ,þ,õ,ö];repeat still_step
    refine wpStill_nil ?_;have HS:Hid (Δ B w (wr.alloc (Ϧ #[Value.string x.name,Ϟ Ϛ x.aL,Value.slice A2 n2 c2] 59)).drew):=K λp hp=>(ð wr _ p (by omega)).trans (ST.e p hp);have HR:=K ((HV.e.take hi).still HS.e λ_ _ h=>h.still HS.e);have GM:=K (uL.e.still HS.e λ_ _ h=>h);by_cases hz:iw (l.take i) x=0
    ·go_wp2_with (first
      | (go_at_call 185;refine(bt dD GM.e HR.e (by simp;omega)).mono ?_;rintro e w1 ⟨rfl,ai⟩;have dY:=K (da lu.e (uN ai) aN);clear ai))
     go_roundw;case rel=>exact⟨i+1,by omega,by go_num,λj y hj hy=>by
      rcases Ϯ.1 hj with h|rfl
      ·exact HH.e.1 j y h hy
      ·rw[HX.e] at hy;cases hy;exact hz,dY.e⟩
     case measure=>simp[ϭ];omega
    ·go_wp2_with (first
      | (go_at_call 185;refine(bt dD GM.e HR.e (by simp;omega)).mono ?_;rintro e w1 ⟨rfl,ai⟩;have dY:=K (da lu.e (uN ai) aN);clear ai))
     go_ret;exact⟨bm (by unfold lB;rw[dM.e,if_neg hlen,vQ HX.e HH.e.1 hz]),kg dY.e⟩
   ·obtain rfl:i=m:=by omega
    go_wp2;go_ret;refine⟨bm ?_,kg HH.e.2⟩;unfold lB;rw[dM.e,if_neg hlen,vP (λj x hj=>HH.e.1 j x (by have:=(Ϫ.1 hj).1;have:=dM.e;omega) hj)]
def eN(np:Int):Option Int->List Int->Int
 |_,[]=>0
 |none,k::l=>if cj k 0 (np - 1) then eN np (J k) l else 6
 |some p,k::l=>if cj k 0 (np - 1) then if k<=p then 7 else eN np (J k) l else 6
def lh(np:Int)(t:Tape):Int:=
 if t.pieces.length=0 then 2 else if eN np H t.pieces≠0 then eN np H t.pieces else if kI t.sum.lo t.sum.hi 0 120 121 then 0 else 1
def lJ(np:Int)(l:List Tape):Int:=if 4<l.length then 2 else scan (λ_ t=>lh np t) [] l
def mY(l:List Int)(i:Nat):Option Int:=if i=0 then H else l[i - 1]?
def aI{n:Int}{lp:List Piece}{l:List Tape}(hp:Row w B 4 Piece.R pv lp)(hv:Row w B 3 (Tape.R w B) tv l)(hB:B<=w.heap.size):
 ύ prog 144 #[η #[Y I n,pv,bv,tv]] w λe w'=>e=Ω (Y I (lJ lp.length l))/\φ w w':=by
 obtain⟨PA,np,pc,rfl,kX,rV,xO,-⟩:=hp.Φ;obtain⟨A,m,c,rfl,hl,ey,hc,T⟩:=hv.Φ;have dM:=K hl;have EW:=K kX;unfold ϕ at hc xO;have H2:=K T;clear hl T hv kX hp;by_cases hlen:4<m
 ·go_enter func144,Tryz.ntmps144;go_wp2;go_ret;exact⟨bm (by unfold lJ;rw[dM.e,if_pos hlen]),(ό _ _).alloc (ϊ _) _⟩
 ·go_enter func144,Tryz.ntmps144;go_wp2;go_loopw [2,4,5,6,16] (λr t q s k wr=>∃i:Nat,i<=m/\k=Y I i/\(∀(j:Nat) (x:Tape),j<i->l[j]?=J x->lh np x=0)/\Γ (w.heap.size+1) (w.alloc (Ϧ #[Y I n,E PA np pc,bv,E A m c] 117)) wr) (λ_ _ _ _ k _=>m - (ϭ k).toNat);case atStart=>exact⟨0,ϛ _,rfl,λj _ hj=>by omega,ό _ _⟩
  case round=>
   obtain⟨i,hi,rfl,bS,hb⟩:=hrel;have HH:=K (Ϗ bS hb);have ef:=hb.size;have aN:w.heap.size+1<=wr.heap.size:=by simpa using ef
   have vA:w.heap.size<=wr.heap.size:=(by omega);have E7:w.heap.size<wr.heap.size:=(by omega);have ho: wr.cell? ⟨w.heap.size,1,H⟩=J (E PA np pc):=(hb.cell (p:=⟨w.heap.size,1,H⟩) (by simp)).trans (by simp[go_sem]);by_cases ao:i<m
   ·obtain⟨ad,x,cs,rfl,aE,hx,⟨kv,rfl,dC⟩,-,aq⟩:=H2.e i ao;have st:Δ B w wr:=((Δ.refl w).alloc hB _).trans (Δ.aJ hb (by omega));obtain⟨KA,kn,kc,rfl,cP,Vr,EO,zY⟩:=dC.Φ;unfold ϕ at EO;have ST:=K st;have KL:=K cP;have KR:=K zY;have h0:=cA aq st aE rfl;have h1:=bj aq st aE 0 rfl;have h2:=bj aq st aE 1 rfl;have HX:=K hx;clear bS hb hx aq st ef dC cP zY;have lu:=K HH.e.2;have bad:∀s:Int,lh np x=s->s≠0->s=lJ lp.length l:=λs V h0=>by
     unfold lJ;rw[dM.e,if_neg hlen,EW.e,vQ (f:=λ_ t=>lh np t) HX.e HH.e.1 (by rw[V];exact h0),V]
    have gW:=K bad;clear bad;by_cases iA:kn=0
    ·subst iA;go_wp2;go_ret;exact⟨bm (gW.e 2 (by unfold lh;rw[KL.e];rfl) (by omega)),kg (lu.e.trans ((ό _ _).alloc aN _))⟩
    ·have IG:0<kn:=by omega
     have eP:((kn:Int)==0)=U:=(by simp;omega);go_wp2
     go_loop [2,5,6,27] (λr q s k=>∃j:Nat,j<=kn/\k=Y I j/\eN np H x.pieces=eN np (mY x.pieces j) (x.pieces.drop j)) (λ_ _ _ k=>kn - (ϭ k).toNat)
     case atStart=>exact⟨0,ϛ _,rfl,rfl⟩
     case round=>
      obtain⟨j,hj,rfl,xP⟩:=hrel;have RE:=K xP;clear xP;by_cases oL:j<kn
      ·obtain⟨kd,y,ju,rfl,rR,hy,rfl,-,fa⟩:=KR.e j oL;have g0:=cA fa ST.e rR rfl;rw[Ì] at g0;have g1:(wr.alloc (Ϧ #[Value.slice (J kd) kn kc,Ϟ Ϛ x.sum.lo,Ϟ Ϛ x.sum.hi] 95)).cell? (kd.add j)=J (Y I y):=(ð wr _ _ (by rw[b9];omega)).trans g0
       clear g0;have HY:=K hy;clear hy fa;cases dc:cj y 0 (np - 1) with
       |false=>
        go_wp2_with (first
            | (go_at_call 134;refine(inside _ _ _ _).mono ?_;rintro e w' ⟨rfl,rfl⟩))
        go_ret;refine⟨bm (gW.e 6 ?_ (by omega)),kg (lu.e.trans ((ό _ _).alloc aN _))⟩;have e:eN np H x.pieces=6:=by rw[RE.e,drop_cons HY.e];cases mY x.pieces j<;>simp[eN,dc]
        unfold lh;rw[KL.e,if_neg iA,e];rfl
       |true=>
        rcases Nat.eq_zero_or_pos j with wZ|wZ
        ·subst wZ;rw[show kd.add 0=kd from rfl] at g1;go_wp2_with (first
            | (go_at_call 134;refine(inside _ _ _ _).mono ?_;rintro e w' ⟨rfl,rfl⟩))
         have hrel:eN np H x.pieces=eN np (mY x.pieces 1) (x.pieces.drop 1):=by rw[RE.e,drop_cons HY.e];simp[mY,eN,dc,HY.e]
         go_round
         case rel=>exact⟨1,oL,by go_num,hrel⟩
         case measure=>simp[ϭ];omega
        ·obtain⟨q,rfl⟩:∃q,j=q+1:=⟨j - 1,by omega⟩
         obtain⟨fl,υ,TL,DY,Vs,hz,rfl,-,xm⟩:=KR.e q (by omega);cases DY;rw[show kd.add (q+1)=⟨kd.block,kd.off+(q+1),H⟩ from rfl] at g1;have g2:=cA xm ST.e rR rfl;rw[Ì] at g2;have g3:(wr.alloc (Ϧ #[Value.slice (J kd) kn kc,Ϟ Ϛ x.sum.lo,Ϟ Ϛ x.sum.hi] 95)).cell? (kd.add q)=J (Y I υ):=(ð wr _ _ (by rw[b9];omega)).trans g2
         have HZ:=K hz;clear g2 hz xm;go_wp2_with (first
            | (go_at_call 134;refine(inside _ _ _ _).mono ?_;rintro e w' ⟨rfl,rfl⟩))
         ·have sa:y<=υ:=by assumption
          go_ret;refine⟨bm (gW.e 7 ?_ (by omega)),kg (lu.e.trans ((ό _ _).alloc aN _))⟩;have e:eN np H x.pieces=7:=by rw[RE.e,drop_cons HY.e];simp[mY,HZ.e,eN,dc,sa]
          unfold lh;rw[KL.e,if_neg iA,e];rfl
         ·have sa:υ<y:=by assumption
          have hrel:eN np H x.pieces=eN np (mY x.pieces (q+2)) (x.pieces.drop (q+2)):=by rw[RE.e,drop_cons HY.e];simp[mY,HZ.e,HY.e,eN,dc];omega
          go_round
          case rel=>exact⟨q+2,by omega,by go_num,hrel⟩
          case measure=>simp[ϭ];omega
      ·obtain rfl:j=kn:=by omega
       have e:eN np H x.pieces=0:=(by rw[RE.e,Agk (ò KL.e)];cases mY x.pieces j<;>rfl);have HE:=K e;clear e;cases mQ:kI x.sum.lo x.sum.hi 0 120 121 with
       |false=>
        go_wp2_with (first
            | (go_at_call 154;refine(xX (by omega) (by omega) _).mono ?_;rintro e w3 ⟨rfl,bK⟩))
        go_ret;exact⟨bm (gW.e 1 (by unfold lh;rw[KL.e,if_neg iA,HE.e,mQ];rfl) (by omega)),kg (da lu.e bK aN)⟩
       |true=>
        go_wp2_with (first
            | (go_at_call 154;refine(xX (by omega) (by omega) _).mono ?_;rintro e w3 ⟨rfl,bK⟩))
        go_roundw;case rel=>exact⟨i+1,by omega,by go_num,λk y hk hy=>by
            rcases Ϯ.1 hk with h|rfl
            ·exact HH.e.1 k y h hy
            ·rw[HX.e] at hy;cases hy;unfold lh;rw[KL.e,if_neg iA,HE.e,mQ];rfl,da lu.e bK aN⟩
        case measure=>simp[ϭ];omega
   ·obtain rfl:i=m:=by omega
    go_wp2;go_ret;refine⟨bm ?_,kg HH.e.2⟩;unfold lJ;rw[dM.e,if_neg hlen,EW.e,vP (f:=λ_ t=>lh np t) (λj x hj=>HH.e.1 j x (by have:=(Ϫ.1 hj).1;have:=dM.e;omega) hj)]
def kR(b:eR):List Int:=[if cj b.ab 0 3 then 0 else 1,jh b.pieces,lB b.aC,lJ b.pieces.length b.aI]
def cZ(b:eR):Int:=scan (λ_ s=>s) [] (kR b)
def qU(w:N)(s:Int)(p q r:z):N:=
 ((w.alloc (Ϧ #[Ϟ Ϛ s,p,q,r] 26)).alloc (Ϧ #[Ϟ Ϛ s,p,q,r] 117)).alloc
   (Ϧ #[Value.func (Fn.func 141) #[Value.agg #[Ϟ Ϛ s,p,q,r]] #[],Value.func (Fn.func 142) #[Value.agg #[Ϟ Ϛ s,p,q,r]] #[],Value.func (Fn.func 143) #[Value.agg #[Ϟ Ϛ s,p,q,r]] #[],Value.func (Fn.func 144) #[Value.agg #[Ϟ Ϛ s,p,q,r]] #[]] 175)
section
variable (w:N)(s:Int)(p q r:z)
def aqv:(qU w s p q r).heap.size=w.heap.size+3:=by simp[qU]
def aqq:φ w (qU w s p q r):=(((ό _ _).alloc (ϊ _) _).alloc (by simp) _).alloc (by simp;omega) _
def aqr:(qU w s p q r).cell? ⟨w.heap.size+1+1,0,H⟩=J (Value.func (Fn.func 141) #[Value.agg #[Ϟ Ϛ s,p,q,r]] #[]):=by simp[qU,go_sem]
def aqs:(qU w s p q r).cell? ⟨w.heap.size+1+1,1,H⟩=J (Value.func (Fn.func 142) #[Value.agg #[Ϟ Ϛ s,p,q,r]] #[]):=by simp[qU,go_sem]
def aqt:(qU w s p q r).cell? ⟨w.heap.size+1+1,2,H⟩=J (Value.func (Fn.func 143) #[Value.agg #[Ϟ Ϛ s,p,q,r]] #[]):=by simp[qU,go_sem]
def aqu:(qU w s p q r).cell? ⟨w.heap.size+1+1,3,H⟩=J (Value.func (Fn.func 144) #[Value.agg #[Ϟ Ϛ s,p,q,r]] #[]):=by simp[qU,go_sem]
end
def MD{b:eR}(hb:aQ w B b pv bv tv)(hB:B<=w.heap.size):
 ύ prog 68 #[η #[Y I b.ab,pv,bv,tv]] w λe w'=>e=Ω (Y I (cZ b))/\φ w w':=by
 have HB:=K hb;obtain⟨A1,c1,e1,-⟩:=id hb.pieces;obtain⟨A2,c2,e2,-⟩:=id hb.aC;obtain⟨A3,c3,e3,-⟩:=id hb.aI;obtain⟨n1,h1⟩:∃n,n=b.pieces.length:=⟨_,rfl⟩
 obtain⟨n2,h2⟩:∃n,n=b.aC.length:=⟨_,rfl⟩
 obtain⟨n3,h3⟩:∃n,n=b.aI.length:=⟨_,rfl⟩
 rw[<-h1] at e1;rw[<-h2] at e2;rw[<-h3] at e3;subst e1;subst e2;subst e3;clear hb h1 h2 h3;go_enter func68,Tryz.ntmps68;go_wp2;go_loopw [2,5,6,19] (λa f u k wr=>∃i:Nat,i<=4/\k=Y I i/\(∀(j:Nat) (x:Int),j<i->(kR b)[j]?=J x->x=0)/\Γ (w.heap.size+3) (qU w b.ab (E A1 n1 c1) (E A2 n2 c2) (E A3 n3 c3)) wr) (λ_ _ _ k _=>4 - (ϭ k).toNat);case atStart=>exact⟨0,ϛ _,rfl,λj _ hj=>by omega,ό _ _⟩
 case round=>
  obtain⟨i,hi,rfl,bS,gU⟩:=hrel;have HH:=K (Ϗ bS gU);have aN:w.heap.size+3<=wr.heap.size:=by have:=gU.size;rw[aqv] at this;exact this
  have rh:=K ((aqq w b.ab (E A1 n1 c1) (E A2 n2 c2) (E A3 n3 c3)).trans (gU.mono (by omega)));have bD:=K (HB.e.still (Δ.aJ rh.e hB));have Nl:B<=wr.heap.size:=by omega
  clear bS;have done:∀(s:Int),(kR b)[i]?=J s->s≠0->s=cZ b:=λs V h0=>(vQ (f:=λ_ s=>s) V HH.e.1 h0).symm
  have GG:=K done;clear done;have next:∀(s:Int),(kR b)[i]?=J s->s=0->∀(j:Nat) (x:Int),j<i+1->(kR b)[j]?=J x->x=0:=λs V h0 j x hj hx=>by
   rcases Ϯ.1 hj with h|rfl
   ·exact HH.e.1 j x h hx
   ·rw[V] at hx;cases hx;exact h0
  have GW:=K next
  clear next
  by_cases ao:i<4
  ·match i,ao with
   |0,_=>
    have g:=(gU.cell (p:=⟨w.heap.size+1+1,0,H⟩) (by simp)).trans (aqr _ _ _ _ _);clear gU;have call:ύ prog 141 #[η #[Y I b.ab,E A1 n1 c1,E A2 n2 c2,E A3 n3 c3]] wr λe w'=>e=Ω (Y I (if cj b.ab 0 3 then 0 else 1))/\φ wr w':=(ab _)
    obtain⟨s,V⟩:∃s:Int,s=(if cj b.ab 0 3 then 0 else 1):=⟨_,rfl⟩
    rw[<-V] at call;have cI:(kR b)[0]?=J s:=by rw[V];rfl
    have HS:=K cI;have aG:=K call;clear V cI call;by_cases h0:s=0
    ·go_wp2_with (first
      | (go_at_call 141;refine aG.e.mono ?_;rintro e w1 ⟨rfl,ai⟩;have aW:=K ai;clear ai))
     go_roundw;case rel=>exact⟨0+1,by omega,by go_num,GW.e s HS.e h0,HH.e.2.trans (aW.e.mono aN)⟩
     case measure=>simp[ϭ]
    ·go_wp2_with (first
      | (go_at_call 141;refine aG.e.mono ?_;rintro e w1 ⟨rfl,ai⟩;have aW:=K ai;clear ai))
     go_ret;exact⟨bm (GG.e s HS.e h0),rh.e.trans (aW.e.mono (by omega))⟩
   |1,_=>
    have g:=(gU.cell (p:=⟨w.heap.size+1+1,1,H⟩) (by simp)).trans (aqs _ _ _ _ _);clear gU;have call:ύ prog 142 #[η #[Y I b.ab,E A1 n1 c1,E A2 n2 c2,E A3 n3 c3]] wr λe w'=>e=Ω (Y I (jh b.pieces))/\φ wr w':=(pieces bD.e.pieces Nl)
    obtain⟨s,V⟩:∃s:Int,s=(jh b.pieces):=⟨_,rfl⟩
    rw[<-V] at call;have cI:(kR b)[1]?=J s:=by rw[V];rfl
    have HS:=K cI;have aG:=K call;clear V cI call;by_cases h0:s=0
    ·go_wp2_with (first
      | (go_at_call 142;refine aG.e.mono ?_;rintro e w1 ⟨rfl,ai⟩;have aW:=K ai;clear ai))
     go_roundw;case rel=>exact⟨1+1,by omega,by go_num,GW.e s HS.e h0,HH.e.2.trans (aW.e.mono aN)⟩
     case measure=>simp[ϭ]
    ·go_wp2_with (first
      | (go_at_call 142;refine aG.e.mono ?_;rintro e w1 ⟨rfl,ai⟩;have aW:=K ai;clear ai))
     go_ret;exact⟨bm (GG.e s HS.e h0),rh.e.trans (aW.e.mono (by omega))⟩
   |2,_=>
    have g:=(gU.cell (p:=⟨w.heap.size+1+1,2,H⟩) (by simp)).trans (aqt _ _ _ _ _);clear gU;have call:ύ prog 143 #[η #[Y I b.ab,E A1 n1 c1,E A2 n2 c2,E A3 n3 c3]] wr λe w'=>e=Ω (Y I (lB b.aC))/\φ wr w':=(aC bD.e.aC Nl)
    obtain⟨s,V⟩:∃s:Int,s=(lB b.aC):=⟨_,rfl⟩
    rw[<-V] at call;have cI:(kR b)[2]?=J s:=by rw[V];rfl
    have HS:=K cI;have aG:=K call;clear V cI call;by_cases h0:s=0
    ·go_wp2_with (first
      | (go_at_call 143;refine aG.e.mono ?_;rintro e w1 ⟨rfl,ai⟩;have aW:=K ai;clear ai))
     go_roundw;case rel=>exact⟨2+1,by omega,by go_num,GW.e s HS.e h0,HH.e.2.trans (aW.e.mono aN)⟩
     case measure=>simp[ϭ]
    ·go_wp2_with (first
      | (go_at_call 143;refine aG.e.mono ?_;rintro e w1 ⟨rfl,ai⟩;have aW:=K ai;clear ai))
     go_ret;exact⟨bm (GG.e s HS.e h0),rh.e.trans (aW.e.mono (by omega))⟩
   |3,_=>
    have g:=(gU.cell (p:=⟨w.heap.size+1+1,3,H⟩) (by simp)).trans (aqu _ _ _ _ _);clear gU;have call:ύ prog 144 #[η #[Y I b.ab,E A1 n1 c1,E A2 n2 c2,E A3 n3 c3]] wr λe w'=>e=Ω (Y I (lJ b.pieces.length b.aI))/\φ wr w':=(aI bD.e.pieces bD.e.aI Nl)
    obtain⟨s,V⟩:∃s:Int,s=(lJ b.pieces.length b.aI):=⟨_,rfl⟩
    rw[<-V] at call;have cI:(kR b)[3]?=J s:=by rw[V];rfl
    have HS:=K cI;have aG:=K call;clear V cI call;by_cases h0:s=0
    ·go_wp2_with (first
      | (go_at_call 144;refine aG.e.mono ?_;rintro e w1 ⟨rfl,ai⟩;have aW:=K ai;clear ai))
     go_roundw;case rel=>exact⟨3+1,by omega,by go_num,GW.e s HS.e h0,HH.e.2.trans (aW.e.mono aN)⟩
     case measure=>simp[ϭ]
    ·go_wp2_with (first
      | (go_at_call 144;refine aG.e.mono ?_;rintro e w1 ⟨rfl,ai⟩;have aW:=K ai;clear ai))
     go_ret;exact⟨bm (GG.e s HS.e h0),rh.e.trans (aW.e.mono (by omega))⟩
  ·obtain rfl:i=4:=by omega
   clear gU;go_wp2;go_ret;refine⟨bm (vP (f:=λ_ s=>s) (λj x hx=>HH.e.1 j x (by have:=(Ϫ.1 hx).1;simpa [kR] using this) hx)).symm,rh.e⟩
def fO(c d:Cut):Int:=if c.bt≠d.bt then c.bt - d.bt else c.from_ - d.from_
def less{c d:Cut}(h1:0<=c.bt)(h2:0<=d.bt)(h3:0<=c.from_)(h4:0<=d.from_)(h5:c.bt<=1000)(h6:d.bt<=1000)(h7:c.from_<=1000)(h8:d.from_<=1000):
 ύ prog 173 #[η #[Y I c.bt,Y I c.from_],η #[Y I d.bt,Y I d.from_]] w λe w'=>e=Ω (Y I (fO c d))/\φ w w':=by
 by_cases h:c.bt=d.bt
 ·have hb:(c.bt !=d.bt)=U:=by simp[h]
  have ν:=K h;clear h;go_enter func173,Tryz.ntmps173;go_wp2;go_ret;exact⟨bm (by unfold fO;rw[if_neg (by simp[ν.e])]),((ό _ _).alloc (ϊ _) _).alloc (by simp) _⟩
 ·have hb:(c.bt !=d.bt)=D:=by simp[h]
  have ν:=K h;clear h;go_enter func173,Tryz.ntmps173;go_wp2;go_ret;exact⟨bm (by unfold fO;rw[if_pos ν.e]),((ό _ _).alloc (ϊ _) _).alloc (by simp) _⟩
def nA(s:Int)(c d:Cut)(n m:Int):Bool:= !(c.bt==d.bt) || (decide (c.from_+n+s<=d.from_) ||decide (d.from_+m+s<=c.from_))
def apart{n m:Int}{c d:Cut}(h1:0<=s/\s<=1000)(h2:0<=n/\n<=1000)(h3:0<=m/\m<=1000)(h4:0<=c.from_/\c.from_<=1000)(h5:0<=d.from_/\d.from_<=1000)
 (hp:∃A n c,pv=E A n c)(hb:∃A n c,bv=E A n c)(ht:∃A n c,tv=E A n c):
 ύ prog 166 #[η #[Y I s,pv,bv,tv],η #[Y I c.bt,Y I c.from_],η #[Y I d.bt,Y I d.from_],Y I n,Y I m] w λe w'=>e=Ω (.bool (nA s c d n m))/\φ w w':=by
 obtain⟨A1,n1,c1,rfl⟩:=hp;obtain⟨A2,n2,c2,rfl⟩:=hb;obtain⟨A3,n3,c3,rfl⟩:=ht;obtain⟨h1,du⟩:=h1;obtain⟨h2,ei⟩:=h2;obtain⟨h3,xd⟩:=h3;obtain⟨h4,h4'⟩:=h4;obtain⟨h5,H9⟩:=h5;by_cases h:c.bt=d.bt
 ·have hb:(c.bt !=d.bt)=U:=by simp[h]
  have ν:=K h;clear h;go_enter func166,Tryz.ntmps166;go_wp2;all_goals go_ret
  all_goals refine⟨bU ?_,(((ό _ _).alloc (ϊ _) _).alloc (by simp) _).alloc (by simp;omega) _⟩
  all_goals (unfold nA;simp[ν.e];try omega)
 ·have hb:(c.bt !=d.bt)=D:=by simp[h]
  have ν:=K h;clear h;go_enter func166,Tryz.ntmps166;go_wp2;go_ret;exact⟨bU (by unfold nA;simp[ν.e]),(((ό _ _).alloc (ϊ _) _).alloc (by simp) _).alloc (by simp;omega) _⟩
def Xl(n:Int)(w:N):ύ prog 178 (#[Y I n]++#[]) w λe w'=>e=Ω (.bool (!cj n 1 40))/\φ w w':=by
 have e:(#[Y I n]++#[]:Array z)=#[Y I n]:=by simp
 rw[e];go_enter func178,Tryz.ntmps178;go_wp2_with (first
  | (go_at_call 134;refine(inside _ _ _ _).mono ?_;rintro e w' ⟨rfl,rfl⟩))
 go_ret;exact⟨bU rfl,ό _ _⟩
def sf(b:eR)(l:List Int):Int:=if l.length≠b.pieces.length then 2 else if l.any (λn=> !cj n 1 40) then 1 else 0
def akv{b:eR}(hb:aQ w B b pv bv tv)(hl:Row w B 1 bI lv l)(hB:B<=w.heap.size):
 ύ prog 127 #[η #[Y I b.ab,pv,bv,tv],lv] w λe w'=>e=Ω (Y I (sf b l))/\φ w w':=by
 have HB:=K hb;have HL:=K hl;obtain⟨A1,n1,c1,rfl,e1,h1,du,-⟩:=hb.pieces.Φ;obtain⟨A2,n2,c2,rfl,-⟩:=hb.aC.Φ;obtain⟨A3,n3,c3,rfl,-⟩:=hb.aI.Φ;obtain⟨A,m,c,rfl,e2,h2,ei,-⟩:=hl.Φ;unfold ϕ at du ei;have E1:=K e1;have E2:=K e2;clear hb hl e1 e2;by_cases iB:m=n1
 ·have hq:((m:Int) !=(n1:Int))=U:=by simp[iB]
  have HQ:=K iB;clear iB;cases ha:l.any (λn=> !cj n 1 40) with
  |true=>
   go_enter func127,Tryz.ntmps127;go_wp2_with (first
    | (go_at_call 177;refine(TJ (λn=> !cj n 1 40) call178 (HL.e.still (Δ.aJ ((ό w.heap.size w).alloc (ϊ _) _) hB) λ_ _ h=>h) (by simp;omega) (λW x _ _=>Xl x W)).mono ?_;rintro e w1 ⟨rfl,ai⟩))
   go_ret;exact⟨bm (by unfold sf;rw[E1.e,E2.e,if_neg (by simp[HQ.e]),ha];rfl),da (ό _ _) ai (ϊ _)⟩
  |false=>
   go_enter func127,Tryz.ntmps127;go_wp2_with (first
    | (go_at_call 177;refine(TJ (λn=> !cj n 1 40) call178 (HL.e.still (Δ.aJ ((ό w.heap.size w).alloc (ϊ _) _) hB) λ_ _ h=>h) (by simp;omega) (λW x _ _=>Xl x W)).mono ?_;rintro e w1 ⟨rfl,ai⟩))
   go_ret;exact⟨bm (by unfold sf;rw[E1.e,E2.e,if_neg (by simp[HQ.e]),ha];rfl),da (ό _ _) ai (ϊ _)⟩
 ·have hq:((m:Int) !=(n1:Int))=D:=by simp;omega
  have HQ:=K iB;clear iB;go_enter func127,Tryz.ntmps127;go_wp2;go_ret;exact⟨bm (by unfold sf;rw[E1.e,E2.e,if_pos HQ.e]),(ό _ _).alloc (ϊ _) _⟩
def lW(w:N)(s:Int)(p q r:z)(k f:Int)(nm:ByteArray)(aL:Int)(kv:z):N:=
 ((w.alloc (Ϧ #[Y I s,p,q,r] 117)).alloc (Ϧ #[Y I k,Y I f] 56)).alloc (Ϧ #[.string nm,Y I aL,kv] 59)
section
variable (w:N)(s:Int)(p q r:z)(k f:Int)(nm:ByteArray)(aL:Int)(kv:z)
def ajU:(lW w s p q r k f nm aL kv).heap.size=w.heap.size+3:=by simp[lW]
def ajT:φ w (lW w s p q r k f nm aL kv):=(((ό _ _).alloc (ϊ _) _).alloc (by simp) _).alloc (by simp;omega) _
def ajO:(lW w s p q r k f nm aL kv).cell? ⟨w.heap.size,1,H⟩=J p:=by simp[lW,go_sem]
def ajP:(lW w s p q r k f nm aL kv).cell? ⟨w.heap.size+1,1,H⟩=J (Y I f):=by simp[lW,go_sem]
def ajQ:(lW w s p q r k f nm aL kv).cell? ⟨w.heap.size+1+1,0,H⟩=J (.string nm):=by simp[lW,go_sem]
def ajR:(lW w s p q r k f nm aL kv).cell? ⟨w.heap.size+1+1,1,H⟩=J (Y I aL):=by simp[lW,go_sem]
def ajS:(lW w s p q r k f nm aL kv).cell? ⟨w.heap.size+1+1,2,H⟩=J kv:=by simp[lW,go_sem]
end
def pO(x:bN)(bears length:Int)(c:Cut):Bool:=decide (c.from_+length - 1<x.aL) && decide (lG x.cM c.from_ (c.from_+length - 1)<=bears)
def Xi{b:eR}{p:Piece}{x:bN}{from_ length:Int}(hb:aQ w B b pv bv tv)(hB:B<=w.heap.size)
 (hp:b.pieces[i]?=J p)(hx:b.aC[k]?=J x)(hf:0<=from_/\from_<=1000)(hl:0<=length/\length<=1000):
 ύ prog 165 #[η #[Y I b.ab,pv,bv,tv],Y I i,Y I length,η #[Y I k,Y I from_]] w λe w'=>e=Ω (.bool (pO x p.bears length ⟨k,from_⟩))/\φ w w':=by
 have HB:=K hb;obtain⟨A1,n1,c1,rfl,e1,h1,du,r1⟩:=hb.pieces.Φ;obtain⟨A2,n2,c2,rfl,e2,h2,ei,r2⟩:=hb.aC.Φ;obtain⟨A3,n3,c3,rfl,-⟩:=hb.aI.Φ;unfold ϕ at du ei;have hi:i<n1:=by have:=(Ϫ.1 hp).1;omega
 have hk:k<n2:=by have:=(Ϫ.1 hx).1;omega
 obtain⟨er,p',wT,rfl,K5,E0,⟨rfl,VZ⟩,-,fU⟩:=r1 i hi;obtain⟨cR,x',ju,rfl,gT,ij,⟨kv,rfl,abw,dC⟩,-,eu⟩:=r2 k hk;obtain rfl:p'=p:=by rw[E0] at hp;exact ϟ hp
 obtain rfl:x'=x:=by rw[ij] at hx;exact ϟ hx
 obtain⟨A4,n4,c4,rfl,-⟩:=dC.Φ;have st:=Δ.refl (B:=B) w;have g3:=bj fU st K5 2 rfl;have b0:=cA eu st gT rfl;have b1:=bj eu st gT 0 rfl;have b2:=bj eu st gT 1 rfl;have uL:=K dC;obtain⟨hf,Iz⟩:=hf;obtain⟨hl,dM⟩:=hl;clear hb e1 e2 r1 r2 hp hx E0 ij fU eu dC st;have q0:(cR.add (k * 3)).block<w.heap.size:=by rw[b9];omega
 have q1:(cR.add (k * 3)).block<=w.heap.size:=by omega
 have q2:(cR.add (k * 3)).block<=w.heap.size+1:=by omega
 have s0:(er.add (i * 4)).block<w.heap.size:=by rw[b9];omega
 have s1:(er.add (i * 4)).block<=w.heap.size:=by omega
 have s2:(er.add (i * 4)).block<=w.heap.size+1:=by omega
 by_cases VD:from_+length - 1<x'.aL
 ·go_enter func165,Tryz.ntmps165;go_wp2;have HW:=K (ajT w b.ab (E (J er) n1 c1) (E (J cR) n2 c2) (E A3 n3 c3) k from_ x'.name x'.aL (E A4 n4 c4));have k1:=ajO w b.ab (E (J er) n1 c1) (E (J cR) n2 c2) (E A3 n3 c3) k from_ x'.name x'.aL (E A4 n4 c4);have k2:=ajP w b.ab (E (J er) n1 c1) (E (J cR) n2 c2) (E A3 n3 c3) k from_ x'.name x'.aL (E A4 n4 c4);have Ay:=ajQ w b.ab (E (J er) n1 c1) (E (J cR) n2 c2) (E A3 n3 c3) k from_ x'.name x'.aL (E A4 n4 c4);have Az:=ajR w b.ab (E (J er) n1 c1) (E (J cR) n2 c2) (E A3 n3 c3) k from_ x'.name x'.aL (E A4 n4 c4);have Pq:=ajS w b.ab (E (J er) n1 c1) (E (J cR) n2 c2) (E A3 n3 c3) k from_ x'.name x'.aL (E A4 n4 c4);have HS:=K (ajU w b.ab (E (J er) n1 c1) (E (J cR) n2 c2) (E A3 n3 c3) k from_ x'.name x'.aL (E A4 n4 c4));change Code.wp _ _ _ _ (lW w b.ab (E (J er) n1 c1) (E (J cR) n2 c2) (E A3 n3 c3) k from_ x'.name x'.aL (E A4 n4 c4));generalize lW w b.ab (E (J er) n1 c1) (E (J cR) n2 c2) (E A3 n3 c3) k from_ x'.name x'.aL (E A4 n4 c4)=W3 at HW k1 k2 Ay Az Pq HS |-
  have k4: W3.cell? ⟨(er.add (i * 4)).block,(er.add (i * 4)).off+(2+1),H⟩=J (Y I p'.bears):=(HW.e.cell (p:=⟨(er.add (i * 4)).block,(er.add (i * 4)).off+(2+1),H⟩) s0).trans g3;have lx:Hid (Γ (w.heap.size+3) W3 W3.drew):=K (dT (ό _ _));have LL:Hid (Row W3.drew B 2 Span.R (E A4 n4 c4) x'.cM):=K (uL.e.still (Δ.aJ (dT HW.e) hB) λ_ _ h=>h)
  have HT:Hid (W3.drew.heap.size=w.heap.size+3):=K HS.e;go_region_held3 (λw'=> w'.cell? ⟨w.heap.size,1,H⟩=J (E (J er) n1 c1)/\ w'.cell? ⟨w.heap.size+1,1,H⟩=J (Y I from_)/\ w'.cell? ⟨w.heap.size+1+1,0,H⟩=J (.string x'.name)/\ w'.cell? ⟨w.heap.size+1+1,1,H⟩=J (Y I x'.aL)/\ w'.cell? ⟨w.heap.size+1+1,2,H⟩=J (E A4 n4 c4)/\ w'.cell? ⟨(er.add (i * 4)).block,(er.add (i * 4)).off+(2+1),H⟩=J (Y I p'.bears)/\Hid (Γ (w.heap.size+3) W3 w')) (first|exact⟨k1,k2,Ay,Az,Pq,k4,lx⟩ |exact⟨m1,m2,m30,m31,m32,m4,ow⟩)
   (first| (go_at_call 132;refine(met LL.e (by rw[HT.e];omega)).mono ?_;rintro e w1 ⟨rfl,ai⟩
            have m1:=(ai.cell (p:=⟨w.heap.size,1,H⟩) (by rw[HT.e];simp)).trans k1;have m2:=(ai.cell (p:=⟨w.heap.size+1,1,H⟩) (by rw[HT.e];simp)).trans k2;have m30:=(ai.cell (p:=⟨w.heap.size+1+1,0,H⟩) (by rw[HT.e];simp)).trans Ay;have m31:=(ai.cell (p:=⟨w.heap.size+1+1,1,H⟩) (by rw[HT.e];simp)).trans Az;have m32:=(ai.cell (p:=⟨w.heap.size+1+1,2,H⟩) (by rw[HT.e];simp)).trans Pq;have m4:=(ai.cell (p:=⟨(er.add (i * 4)).block,(er.add (i * 4)).off+(2+1),H⟩) (by rw[HT.e];simp;omega)).trans k4;have ow:Hid (Γ (w.heap.size+3) W3 w1):=K (uN (ai.mono (by rw[HT.e];omega)))))
  go_wp2;go_ret;refine⟨bU ?_,HW.e.trans (ow.e.mono (by omega))⟩;simp[pO,VD]
 ·have hd:decide (from_+length - 1<x'.aL)=U:=by simpa using VD
  go_enter func165,Tryz.ntmps165;go_wp2;go_quiet (fail);go_wp2;go_ret;refine⟨bU ?_,jr ((((ό _ _).alloc (ϊ _) _).alloc (by simp) _).alloc (by simp;omega) _) _⟩;simp[pO,hd]
def mK(nb:Int)(c:Cut):Int:=if cj c.bt 0 (nb - 1) then if cj c.from_ 0 40 then 0 else 1 else 6
def gZ(b:eR)(l:List Cut):Int:=if l.length≠b.pieces.length then 2 else scan (λ_ c=>mK b.aC.length c) [] l
def MK{b:eR}{l:List Cut}(hb:aQ w B b pv bv tv)(hl:Row w B 2 Cut.R lv l)(hB:B<=w.heap.size):
 ύ prog 109 #[η #[Y I b.ab,pv,bv,tv],lv] w λe w'=>e=Ω (Y I (gZ b l))/\φ w w':=by
 obtain⟨A1,n1,c1,rfl,e1,h1,du,-⟩:=hb.pieces.Φ;obtain⟨A2,nb,c2,rfl,eb,h2,ei,-⟩:=hb.aC.Φ;obtain⟨A3,n3,c3,rfl,-⟩:=hb.aI.Φ;obtain⟨A,m,c,rfl,e2,h3,xd,T⟩:=hl.Φ;unfold ϕ at du ei xd;have E1:=K e1;have EB:=K eb;have E2:=K e2;have H2:=K T;clear hb hl e1 eb e2 T;by_cases iB:m=n1
 ·have hq:((m:Int) !=(n1:Int))=U:=by simp[iB]
  have HQ:=K iB;clear iB;have QD:gZ b l=scan (λ_ c=>mK nb c) [] l:=by unfold gZ;rw[E1.e,E2.e,EB.e,if_neg (by simp[HQ.e])]
  have SN:=K QD;clear QD;go_enter func109,Tryz.ntmps109;go_wp2;go_loopw [4,6,7,17] (λr t q k wr=>∃i:Nat,i<=m/\k=Y I i/\(∀(j:Nat) (x:Cut),j<i->l[j]?=J x->mK nb x=0)/\Γ (w.heap.size+1) (w.alloc (Ϧ #[Y I b.ab,E A1 n1 c1,E A2 nb c2,E A3 n3 c3] 117)) wr) (λ_ _ _ k _=>m - (ϭ k).toNat);case atStart=>exact⟨0,ϛ _,rfl,λj _ hj=>by omega,ό _ _⟩
  case round=>
   obtain⟨i,hi,rfl,bS,hb⟩:=hrel;have HH:=K (Ϗ bS hb);have ef:=hb.size;have aN:w.heap.size+1<=wr.heap.size:=by simpa using ef
   have vA:w.heap.size<=wr.heap.size:=(by omega);have E7:w.heap.size<wr.heap.size:=(by omega);have ho: wr.cell? ⟨w.heap.size,2,H⟩=J (E A2 nb c2):=(hb.cell (p:=⟨w.heap.size,2,H⟩) (by simp)).trans (by simp[go_sem]);by_cases ao:i<m
   ·obtain⟨ad,x,cs,rfl,aE,hx,rfl,-,aq⟩:=H2.e i ao;have st:Δ B w wr:=((Δ.refl w).alloc hB _).trans (Δ.aJ hb (by omega));have h0:=cA aq st aE rfl;have h1:=bj aq st aE 0 rfl;have HX:=K hx;clear bS hb hx aq st ef;have lu:=K HH.e.2;have bad:∀s:Int,mK nb x=s->s≠0->s=gZ b l:=λs V h0=>by
     rw[SN.e,vQ (f:=λ_ c=>mK nb c) HX.e HH.e.1 (by rw[V];exact h0),V]
    have gW:=K bad;clear bad;cases ej:cj x.bt 0 (nb - 1) with
    |false=>
     go_wp2_with (first
      | (go_at_call 100;refine(there _ _ (by omega) _ (by omega)).mono ?_;rintro e w' ⟨rfl,rfl⟩;simp only[ej]))
     go_ret;exact⟨bm (gW.e 6 (by unfold mK;rw[ej];rfl) (by omega)),kg (lu.e.trans ((ό _ _).alloc aN _))⟩
    |true=>
     cases oO:cj x.from_ 0 40 with
     |false=>
      go_wp2_with (first
       | (go_at_call 100;refine(there _ _ (by omega) _ (by omega)).mono ?_;rintro e w' ⟨rfl,rfl⟩;simp only[ej])
       | (go_at_call 134;refine(inside _ _ _ _).mono ?_;rintro e w' ⟨rfl,rfl⟩))
      go_ret;exact⟨bm (gW.e 1 (by unfold mK;rw[ej,oO];rfl) (by omega)),kg (lu.e.trans ((ό _ _).alloc aN _))⟩
     |true=>
      go_wp2_with (first
       | (go_at_call 100;refine(there _ _ (by omega) _ (by omega)).mono ?_;rintro e w' ⟨rfl,rfl⟩;simp only[ej])
       | (go_at_call 134;refine(inside _ _ _ _).mono ?_;rintro e w' ⟨rfl,rfl⟩))
      go_roundw;case rel=>exact⟨i+1,by omega,by go_num,λj y hj hy=>by
       rcases Ϯ.1 hj with h|rfl
       ·exact HH.e.1 j y h hy
       ·rw[HX.e] at hy;cases hy;unfold mK;rw[ej,oO];rfl,lu.e.trans ((ό _ _).alloc aN _)⟩
      case measure=>simp[ϭ];omega
   ·obtain rfl:i=m:=by omega
    go_wp2;go_ret;refine⟨bm ?_,kg HH.e.2⟩;rw[SN.e,vP (f:=λ_ c=>mK nb c) (λj x hj=>HH.e.1 j x (by have:=(Ϫ.1 hj).1;have:=E2.e;omega) hj)]
 ·have hq:((m:Int) !=(n1:Int))=D:=by simp;omega
  have HQ:=K iB;clear iB;go_enter func109,Tryz.ntmps109;go_wp2;go_ret;exact⟨bm (by unfold gZ;rw[E1.e,E2.e,if_pos HQ.e]),(ό _ _).alloc (ϊ _) _⟩
def al.at(ω:al)(i:Nat):Int:=if i=0 then ω.a else if i=1 then ω.b else ω.c
def pN(b:eR)(i:Nat)(n:Int)(c:Cut):Bool:=match b.pieces[i]?,b.aC[c.bt.toNat]? with
 |some p,J x=>pO x p.bears n c
 |_,_=>U
def sg(b:eR)(ω:al)(l:List Cut)(i:Nat)(c:Cut)(k:Nat):Bool:=match l[k]? with
 |some d=>nA b.ab c d (ω.at i) (ω.at k)
 |none=>D
def ql(b:eR)(ω:al)(l:List Cut)(i:Nat):Bool:=match l[i]? with
 |some c=>pN b i (ω.at i) c && (ϣ i).all (sg b ω l i c)
 |none=>D
def db(b:eR)(ω:al)(l:List Cut):Bool:=(ϣ l.length).all (ql b ω l)
def j7{f:Nat->Bool}:(ϣ n).all f=D↔∀i,i<n->f i=D:=by simp
def Mg{f:Nat->Bool}(hi:i<n)(h:f i=U):(ϣ n).all f=U:=by
 cases e:(ϣ n).all f with
 |false=>rfl
 |true=>have:=j7.1 e i hi;rw[h] at this;cases this
structure q9(b:eR)(c:Cut):Prop where
 bt:∃k:Nat,c.bt=k/\k<b.aC.length
 from_:0<=c.from_/\c.from_<=40
structure DH(w:N)(s:Int)(p q r:z)(ω:al)(W:N):Prop where
 size:w.heap.size+2<=W.heap.size
 f0: W.cell? ⟨w.heap.size,0,H⟩=J (Y I s)
 f1: W.cell? ⟨w.heap.size,1,H⟩=J p
 f2: W.cell? ⟨w.heap.size,2,H⟩=J q
 f3: W.cell? ⟨w.heap.size,3,H⟩=J r
 g:∀i,i<3-> W.cell? ⟨w.heap.size+1,i,H⟩=J (Y I (ω.at i))
def DH.below{p q r:z}{ω:al}{W':N}(h:DH w s p q r ω W)(hb:Γ B W W')(hB:w.heap.size+2<=B):DH w s p q r ω W':=
 ⟨Ϥ h.size hb.size,(hb.cell (p:=⟨w.heap.size,0,H⟩) (by simp;omega)).trans h.f0,(hb.cell (p:=⟨w.heap.size,1,H⟩) (by simp;omega)).trans h.f1,(hb.cell (p:=⟨w.heap.size,2,H⟩) (by simp;omega)).trans h.f2,
   (hb.cell (p:=⟨w.heap.size,3,H⟩) (by simp;omega)).trans h.f3,λi hi=>(hb.cell (p:=⟨w.heap.size+1,i,H⟩) (by simp;omega)).trans (h.g i hi)⟩
def DH.start(w:N)(s:Int)(p q r:z)(ω:al):DH w s p q r ω ((w.alloc (Ϧ #[Y I s,p,q,r] 117)).alloc (Ϧ #[Y I ω.a,Y I ω.b,Y I ω.c] 128)):=by
 refine⟨by simp,by simp[go_sem],by simp[go_sem],by simp[go_sem],by simp[go_sem],λi hi=>?_⟩
 match i,hi with
 |0,_=>simp[go_sem,al.at]
 |1,_=>simp[go_sem,al.at]
 |2,_=>simp[go_sem,al.at]
def MN{b:eR}{ω:al}{l:List Cut}(hb:aQ w B b pv bv tv)(hl:Row w B 2 Cut.R lv l)(hB:B<=w.heap.size)
 (hlen:l.length=b.pieces.length)(iX:b.pieces.length<=3)(cD:∀(i:Nat) (c:Cut),l[i]?=J c->q9 b c)(hL:∀i,0<=ω.at i/\ω.at i<=1000)(r8:0<=b.ab/\b.ab<=1000):
 ύ prog 110 #[η #[Y I b.ab,pv,bv,tv],η #[Y I ω.a,Y I ω.b,Y I ω.c],lv] w λe w'=>e=Ω (.bool (db b ω l))/\φ w w':=by
 have bD:=K hb;obtain⟨A1,n1,c1,rfl,e1,h1,du,-⟩:=hb.pieces.Φ;obtain⟨A2,nb,c2,rfl,eb,h2,ei,-⟩:=hb.aC.Φ;obtain⟨A3,n3,c3,rfl,-⟩:=hb.aI.Φ;obtain⟨A,m,c,rfl,e2,h3,xd,T⟩:=hl.Φ;unfold ϕ at du ei xd;have IL:m<=3:=by omega
 have E2:=K e2;have EN:=K hlen;have H2:=K T;have OK:=K cD;have HL:=K hL;have ZO:=K r8;clear hb hl e1 eb e2 T cD hL r8 hlen iX;go_enter func110,Tryz.ntmps110;go_wp2;go_loopw [6,7,8,9,10,13,28,29,30] (λr t q s u k x y υ wr=>∃i:Nat,i<=m/\k=Y I i/\(∀j:Nat,j<i->ql b ω l j=D)/\Hid (DH w b.ab (E A1 n1 c1) (E A2 nb c2) (E A3 n3 c3) ω wr)/\φ w wr) (λ_ _ _ _ _ k _ _ _ _=>m - (ϭ k).toNat)
 case atStart=>exact⟨0,ϛ _,rfl,λj hj=>by omega,K (DH.start w b.ab _ _ _ ω),((ό _ _).alloc (ϊ _) _).alloc (by simp) _⟩
 case round=>
  obtain⟨wo,rfl⟩:∃wo:N,wo=wr:=⟨_,rfl⟩
  obtain⟨i,hi,rfl,bS,zR,hb⟩:=hrel;have HH:=K (Ϗ bS hb);have aN:w.heap.size+2<=wo.heap.size:=zR.e.size;by_cases ao:i<m
  ·obtain⟨ad,x,cs,rfl,aE,hx,rfl,-,aq⟩:=H2.e i ao;have st:Δ B w wo:=Δ.aJ hb hB;have ok:=OK.e i x hx;obtain⟨bd,fr⟩:=x;obtain⟨k,hk,cP⟩:=ok.bt;obtain rfl:bd=(k:Int):=hk;have cq:0<=fr/\fr<=40:=ok.from_;have h0:=cA aq st aE rfl;have h1:=bj aq st aE 0 rfl;have HX:=K hx;have f0:=zR.e.f0;have f1:=zR.e.f1;have f2:=zR.e.f2;have f3:=zR.e.f3;have gi:=zR.e.g i (by omega)
   have a0:w.heap.size<wo.heap.size:=(by omega);have a1:w.heap.size<=wo.heap.size:=(by omega);have a2:w.heap.size+1<wo.heap.size:=(by omega);have a3:w.heap.size+1<=wo.heap.size:=(by omega);have i3:i<3:=(by omega);have i3':(i:Int)<3:=(by omega);have EJ:i<=c:=(by omega);clear bS hb hx aq ok;go_wp2;refine tA 6 (by kernel_rfl) (by kernel_rfl) ?_;simp only[ñ,þ,õ,ö];repeat still_step
   refine wpStill_nil ?_;have hp:∃p,b.pieces[i]?=J p:=⟨_,Ñ (by have:=E2.e;have:=EN.e;omega)⟩
   obtain⟨p,hp⟩:=hp;have nH:b.aC[k]?=J (b.aC[k]):=Ñ cP
   obtain⟨bx,nH⟩:∃bx,b.aC[k]?=J bx:=⟨_,nH⟩
   have Ot:pN b i (ω.at i) ⟨k,fr⟩=pO bx p.bears (ω.at i) ⟨k,fr⟩:=(by unfold pN;simp[hp,nH]);have Lt:=K Ot;have call:ύ prog 165 #[η #[Y I b.ab,E A1 n1 c1,E A2 nb c2,E A3 n3 c3],Y I i,Y I (ω.at i),η #[Y I k,Y I fr]] (wo.alloc (Ϧ #[Ϟ Ϛ ↑k,Ϟ Ϛ fr] 56)).drew
    λe w'=>e=Ω (.bool (pO bx p.bears (ω.at i) ⟨k,fr⟩))/\Γ (wo.alloc (Ϧ #[Ϟ Ϛ ↑k,Ϟ Ϛ fr] 56)).drew.heap.size (wo.alloc (Ϧ #[Ϟ Ϛ ↑k,Ϟ Ϛ fr] 56)).drew w':=
    Xi (B:=B) (bD.e.still λq hq=>(ð wo _ q (by omega)).trans (st q hq)) (by simp;omega) hp nH ⟨cq.1,by omega⟩ (HL.e i)
   have aG:=K call;clear call hp nH Ot st;cases Cg:pO bx p.bears (ω.at i) ⟨k,fr⟩ with
   |false=>
    go_wp2_with (first
     | (go_at_call 165;refine aG.e.mono ?_;rintro e w1 ⟨rfl,ai⟩;have dY:=K (da HH.e.2 (uN ai) a1);clear ai))
    go_ret;refine⟨bU ?_,dY.e⟩;unfold db;rw[E2.e];exact(Mg ao (by unfold ql;rw[HX.e];simp[Lt.e,Cg])).symm
   |true=>
    go_wp2_with (first
     | (go_at_call 165;refine aG.e.mono ?_;rintro e w1 ⟨rfl,ai⟩;have dY:=K (da HH.e.2 (uN ai) a1);have Xc:=K (zR.e.below (da (ό (w.heap.size+2) wo) (uN ai) aN) (ϊ _));have Bg:=K (uN ai);clear ai))
    have aO:wo.heap.size<w1.heap.size:=pM Bg.e;have UW: w1.cell? ⟨wo.heap.size,0,H⟩=J (Y I k):=(Bg.e.cell (p:=⟨wo.heap.size,0,H⟩) (by simp)).trans (by simp[go_sem])
    have UX: w1.cell? ⟨wo.heap.size,1,H⟩=J (Y I fr):=(Bg.e.cell (p:=⟨wo.heap.size,1,H⟩) (by simp)).trans (by simp[go_sem]);have Jm:=K (Ϗ UW (Ϗ UX aO));clear UW UX f0 f1 f2 f3 gi h0 h1 aO;go_loopw [6,9,10,30] (λr s u υ W=>∃j:Nat,j<=i/\υ=Y I j/\(∀q:Nat,q<j->sg b ω l i ⟨k,fr⟩ q=D)/\Hid (DH w b.ab (E A1 n1 c1) (E A2 nb c2) (E A3 n3 c3) ω W)/\Hid (W.cell? ⟨wo.heap.size,0,H⟩=J (Y I k)/\ W.cell? ⟨wo.heap.size,1,H⟩=J (Y I fr)/\wo.heap.size<W.heap.size)/\φ w W) (λ_ _ _ υ _=>i - (ϭ υ).toNat);case atStart=>exact⟨0,ϛ _,rfl,λj hj=>by omega,Xc,Jm,dY.e⟩
    case round=>
     obtain⟨j,hj,rfl,UR,vh,dg,zK⟩:=hrel;have HJ:=K (Ϗ UR zK);have aiM:w.heap.size+2<=wr.heap.size:=vh.e.size;clear UR;by_cases oL:j<i
     ·obtain⟨DE,y,bu,lZ,ag7,hy,rfl,-,Cb⟩:=H2.e j (by omega);cases lZ;have QI:Δ B w wr:=Δ.aJ zK hB;have XP:=OK.e j y hy;obtain⟨nC,jv⟩:=y;have nI:0<=jv/\jv<=40:=XP.from_;have h0:=cA Cb QI aE rfl;have h1:=bj Cb QI aE 0 rfl;have HY:=K hy;have f0:=vh.e.f0;have f1:=vh.e.f1;have f2:=vh.e.f2;have f3:=vh.e.f3;have gi:=vh.e.g i i3;have gj:=vh.e.g j (by omega)
      obtain⟨Mw,Mx,Pb⟩:=dg.e;have b0:w.heap.size<wr.heap.size:=by omega
      have b1:w.heap.size<=wr.heap.size:=(by omega);have b2:w.heap.size+1<wr.heap.size:=(by omega);have b3:w.heap.size+1<=wr.heap.size:=(by omega);have b4:wo.heap.size<=wr.heap.size:=(by omega);have j3:(j:Int)<3:=(by omega);clear zK hy Cb XP QI;go_wp2;refine tA 9 (by kernel_rfl) (by kernel_rfl) ?_;simp only[ñ,þ,õ,ö];repeat still_step
      refine wpStill_nil ?_;have KG:sg b ω l i ⟨k,fr⟩ j=nA b.ab ⟨k,fr⟩ ⟨nC,jv⟩ (ω.at i) (ω.at j):=(by unfold sg;rw[HY.e]);have Dt:=K KG;clear KG;have call:∀W:N,ύ prog 166 #[η #[Y I b.ab,E A1 n1 c1,E A2 nb c2,E A3 n3 c3],η #[Y I k,Y I fr],η #[Y I nC,Y I jv],Y I (ω.at i),Y I (ω.at j)] W
            λe w'=>e=Ω (.bool (nA b.ab ⟨k,fr⟩ ⟨nC,jv⟩ (ω.at i) (ω.at j)))/\φ W w':=λW=>
          apart (c:=⟨k,fr⟩) (d:=⟨nC,jv⟩) ZO.e (HL.e i) (HL.e j) ⟨cq.1,by have:=cq.2;show fr<=1000;omega⟩ ⟨nI.1,by have:=nI.2;show jv<=1000;omega⟩ ⟨_,_,_,rfl⟩ ⟨_,_,_,rfl⟩ ⟨_,_,_,rfl⟩
      have wh:=K call;clear call;cases EP:nA b.ab ⟨k,fr⟩ ⟨nC,jv⟩ (ω.at i) (ω.at j) with
      |false=>
       go_wp2_with (first
            | (go_at_call 166;refine(wh.e _).mono ?_;rintro e w2 ⟨rfl,an⟩;have eH:=K (da HJ.e.2 (uN an) b1);clear an))
       go_ret;refine⟨bU ?_,eH.e⟩;unfold db;rw[E2.e];refine(Mg ao ?_).symm;unfold ql;rw[HX.e];simp only[Lt.e,Cg,Bool.true_and];exact Mg oL (by rw[Dt.e,EP])
      |true=>
       go_wp2_with (first
            | (go_at_call 166;refine(wh.e _).mono ?_;rintro e w2 ⟨rfl,an⟩;have eH:=K (da HJ.e.2 (uN an) b1);have uJ:=K (da (ό wr.heap.size wr) (uN an) (ϊ _));clear an))
       go_roundw;case rel=>exact⟨j+1,by omega,by go_num,λq hq=>by
            rcases Ϯ.1 hq with h|rfl
            ·exact HJ.e.1 q h
            ·rw[Dt.e,EP],K (vh.e.below uJ.e aiM),K ⟨(uJ.e.cell (p:=⟨wo.heap.size,0,H⟩) Pb).trans Mw,(uJ.e.cell (p:=⟨wo.heap.size,1,H⟩) Pb).trans Mx,Ϣ Pb uJ.e.size⟩,eH.e⟩
       case measure=>simp[ϭ];omega
     ·obtain rfl:j=i:=by omega
      clear zK;go_wp2;go_roundw;case rel=>exact⟨j+1,by omega,by go_num,λq hq=>by
          rcases Ϯ.1 hq with h|rfl
          ·exact HH.e.1 q h
          ·unfold ql;rw[HX.e];simp only[Lt.e,Cg,Bool.true_and];exact j7.2 HJ.e.1,vh,HJ.e.2⟩
      case measure=>simp[ϭ];omega
  ·obtain rfl:i=m:=by omega
   clear hb;go_wp2;go_ret;refine⟨bU ?_,HH.e.2⟩;unfold db;rw[E2.e];exact(j7.2 HH.e.1).symm
def tE(ω:al)(l:List Int):Int:=(l.map λk=>ω.at k.toNat).sum
def apE(ω:al)(l:List Int)(k:Int):tE ω (l++ [k])=tE ω l+ω.at k.toNat:=by simp[tE]
def QM(ω:al)(hL:∀i,0<=ω.at i/\ω.at i<=1000):∀l:List Int,0<=tE ω l/\tE ω l<=1000 * l.length
 | []=>by simp[tE]
 |k::l=>by have:=QM ω hL l;have:=hL k.toNat;simp[tE] at *;omega
def Gr(ω:al)(t:Tape):Bool:= !cj (tE ω t.pieces) t.sum.lo t.sum.hi
def anO{t:Tape}{ω:al}(qG:Row w B 1 bI pv t.pieces)(hB:B<=w.heap.size)(hg:g<w.heap.size)
 (hc:∀i,i<3-> w.cell? ⟨g,i,H⟩=J (Y I (ω.at i)))(hk:∀k∈t.pieces,0<=k/\k<3)(h3:t.pieces.length<=3)(hL:∀i,0<=ω.at i/\ω.at i<=1000):
 ύ prog 209 #[η #[pv,Y I t.sum.lo,Y I t.sum.hi],π (J ⟨g,0,H⟩)] w λe w'=>e=Ω (.bool (Gr ω t))/\φ w w':=by
 obtain⟨A,n,c,rfl,hl,ey,dg,T⟩:=qG.Φ;have iW:n<=3:=by omega
 have ox:=K hl;have H2:=K T;have HC:=K hc;have HK:=K hk;have HL:=K hL;have fD:g<=w.heap.size:=by omega
 clear hl T hc hk hL qG dg h3;go_enter func209,Tryz.ntmps209;go_wp2
 go_loop [4,6,10] (λs q k=>∃i:Nat,i<=n/\k=Y I i/\s=Y I (tE ω (t.pieces.take i))) (λ_ _ k=>n - (ϭ k).toNat)
 case atStart=>exact⟨0,ϛ _,rfl,rfl⟩
 case round=>
  obtain⟨i,hi,rfl,rfl⟩:=hrel;have xR:=(QM ω HL.e (t.pieces.take i)).1;have xQ:tE ω (t.pieces.take i)<=3000:=by have:=(QM ω HL.e (t.pieces.take i)).2;have:(t.pieces.take i).length<=i:=ō _ _;omega
  by_cases ao:i<n
  ·obtain⟨ad,x,cs,rfl,aE,hx,rfl,-,aq⟩:=H2.e i ao;have Wy:=HK.e x (ϡ hx);obtain⟨j,rfl⟩:=Int.eq_ofNat_of_zero_le Wy.1;have RF:j<3:=by omega
   have Vo:(j:Int)<3:=(by omega);have h0:=cA aq (Δ.refl (B:=B) w) aE rfl;rw[Ì] at h0;have q0:(ad.add i).block<w.heap.size:=by rw[b9];omega
   have gj:=HC.e j RF;have HX:=K hx;have VH:=HL.e j;obtain⟨VH,asm⟩:=VH;clear hx aq Wy;go_wp2
   go_round
   case rel=>exact⟨i+1,by omega,by go_num,by rw[pT HX.e,apE];rfl⟩
   case measure=>simp[ϭ];omega
  ·obtain rfl:i=n:=by omega
   go_wp2_with (first
    | (go_at_call 134;refine(inside _ _ _ _).mono ?_;rintro e w' ⟨rfl,rfl⟩))
   go_ret;refine⟨bU ?_,(ό _ _).alloc (ϊ _) _⟩;unfold Gr;rw[Õ (ò ox.e)]
def Bs(b:eR):Prop:=∀t∈b.aI,(∀k∈t.pieces,0<=k/\k<3)/\t.pieces.length<=3
def tC(ω:al)(l:List Tape):Bool:= !(l.any (Gr ω))
def right{b:eR}{ω:al}(hb:aQ w B b pv bv tv)(hB:B<=w.heap.size)(cD:Bs b)(hL:∀i,0<=ω.at i/\ω.at i<=1000):
 ύ prog 189 #[η #[Y I b.ab,pv,bv,tv],η #[Y I ω.a,Y I ω.b,Y I ω.c]] w λe w'=>e=Ω (.bool (tC ω b.aI))/\φ w w':=by
 have bD:=K hb;obtain⟨A1,n1,c1,A2,nb,c2,A3,n3,c3,rfl,rfl,rfl⟩:=hb.op;have OK:=K cD;have HL:=K hL;have ST:Hid (Δ B w ((w.alloc (Ϧ #[Y I b.ab,E A1 n1 c1,E A2 nb c2,E A3 n3 c3] 117)).alloc (Ϧ #[Y I ω.a,Y I ω.b,Y I ω.c] 128))):=K (((Δ.refl w).alloc hB _).alloc (by simp;omega) _)
 have HD:=K (DH.start w b.ab (E A1 n1 c1) (E A2 nb c2) (E A3 n3 c3) ω);clear hb cD hL;have call:ύ prog 208 #[E A3 n3 c3,fv 209 #[π (J ⟨w.heap.size+1,0,H⟩)]] ((w.alloc (Ϧ #[Y I b.ab,E A1 n1 c1,E A2 nb c2,E A3 n3 c3] 117)).alloc (Ϧ #[Y I ω.a,Y I ω.b,Y I ω.c] 128))
  λe w'=>e=Ω (.bool (b.aI.any (Gr ω)))/\Γ ((w.alloc (Ϧ #[Y I b.ab,E A1 n1 c1,E A2 nb c2,E A3 n3 c3] 117)).alloc (Ϧ #[Y I ω.a,Y I ω.b,Y I ω.c] 128)).heap.size _ w':=
  aj7 (Gr ω) call209 ((bD.e.still ST.e).aI) (by simp;omega) λW x kv hW dC hx=>app1 (anO (B:=B) (dC.still (Δ.aJ hW (by simp;omega)) λ_ _ h=>h)
   (Ϥ (by simp;omega) hW.size) (Ϣ (by simp) hW.size) (λi hi=>(hW.cell (p:=⟨w.heap.size+1,i,H⟩) (by simp)).trans (HD.e.g i hi)) (OK.e x hx).1 (OK.e x hx).2 HL.e)
 have aG:=K call;clear call;go_enter func189,Tryz.ntmps189;go_wp2_with (first
  | (go_at_call 208;refine aG.e.mono ?_;rintro e w1 ⟨rfl,ai⟩))
 go_ret;exact⟨bU rfl,(((ό _ _).alloc (ϊ _) _).alloc (by simp) _).trans (ai.mono (by simp;omega))⟩
def first(hv:Row w B 1 bI v l):
 ύ prog 126 #[v] w λe w'=>e=Ω (Y I (scan (λ_ s=>s) [] l))/\w=w':=by
 obtain⟨A,n,c,rfl,hl,ey,dg,T⟩:=hv.Φ;unfold ϕ at dg;have ox:=K hl;have H2:=K T;clear hl T hv;go_enter func126,Tryz.ntmps126;go_wp2
 go_loop [2,4,7] (λr q k=>∃i:Nat,i<=n/\k=Y I i/\(∀(j:Nat) (x:Int),j<i->l[j]?=J x->x=0)) (λ_ _ k=>n - (ϭ k).toNat)
 case atStart=>exact⟨0,ϛ _,rfl,λj _ hj=>by omega⟩
 case round=>
  obtain⟨i,hi,rfl,bS⟩:=hrel;have HA:=K bS;clear bS;by_cases ao:i<n
  ·obtain⟨ad,x,cs,rfl,aE,hx,rfl,-,aq⟩:=H2.e i ao;have h0:=cA aq (Δ.refl (B:=B) w) aE rfl;rw[Ì] at h0;have HX:=K hx;clear hx aq;by_cases xW:x=0
   ·go_wp2
    go_round
    case rel=>exact⟨i+1,by omega,by go_num,λj y hj hy=>by
     rcases Ϯ.1 hj with h|rfl
     ·exact HA.e j y h hy
     ·rw[HX.e] at hy;cases hy;exact xW⟩
    case measure=>simp[ϭ];omega
   ·go_wp2;go_ret;exact⟨bm (vQ (f:=λ_ s=>s) HX.e HA.e xW).symm,rfl⟩
  ·obtain rfl:i=n:=by omega
   go_wp2;go_ret;exact⟨bm (vP (f:=λ_ s=>s) (λj x hx=>HA.e j x (by have:=(Ϫ.1 hx).1;have:=ox.e;omega) hx)).symm,rfl⟩
def ack{a b c:z}{R:Ending->N->Prop}(h:ύ P f #[a,b,c] w R):ύ P f (#[a]++#[b,c]) w R:=by
 have e:(#[a]++#[b,c]:Array z)=#[a,b,c]:=by simp
 rw[e];exact h
structure aaP(b:eR)(l:List Cut):Prop where
 len:l.length=b.pieces.length
 three:b.pieces.length<=3
 lC:∀(i:Nat) (c:Cut),l[i]?=J c->q9 b c
 ab:0<=b.ab/\b.ab<=1000
def al.Ok(ω:al):Prop:=∀i,0<=ω.at i/\ω.at i<=1000
def apH{b:eR}{ω:al}{l:List Cut}{g1 g2:Nat}(hb:aQ w B b pv bv tv)(hl:Row w B 2 Cut.R lv l)(hB:B<=w.heap.size)(ok:aaP b l)(hL:ω.Ok)
 (fD:g1<w.heap.size)(oK:g2<w.heap.size)(f0: w.cell? ⟨g1,0,H⟩=J (Y I b.ab))(f1: w.cell? ⟨g1,1,H⟩=J pv)(f2: w.cell? ⟨g1,2,H⟩=J bv)(f3: w.cell? ⟨g1,3,H⟩=J tv)
 (f4: w.cell? ⟨g2,0,H⟩=J lv):
 ύ prog 169 #[η #[Y I ω.a,Y I ω.b,Y I ω.c],π (J ⟨g1,0,H⟩),π (J ⟨g2,0,H⟩)] w λe w'=>e=Ω (.bool (!db b ω l))/\φ w w':=by
 have call:=MN (w:=w.alloc (Ϧ #[Y I ω.a,Y I ω.b,Y I ω.c] 128)) (B:=B) (hb.still ((Δ.refl w).alloc hB _)) (hl.still ((Δ.refl w).alloc hB _) λ_ _ h=>h) (by simp;omega) ok.len ok.three ok.lC hL ok.ab;have aG:=K call;have xu:g1<=w.heap.size:=by omega
 have ar8:g2<=w.heap.size:=by omega
 obtain⟨A1,n1,c1,A2,nb,c2,A3,n3,c3,rfl,rfl,rfl⟩:=hb.op;obtain⟨A,n,c,rfl,-⟩:=hl.Φ;clear call hb hl ok hL;go_enter func169,Tryz.ntmps169;go_wp2_with (first
  | (go_at_call 110;refine aG.e.mono ?_;rintro e w1 ⟨rfl,ai⟩))
 go_ret;exact⟨bU rfl,da (ό _ _) ai (ϊ _)⟩
def Gk(b:eR)(am4:List al)(l:List Cut):Bool:= !(am4.any λω=> !db b ω l)
def Y1{b:eR}{ps:List al}{l:List Cut}(hb:aQ w B b pv bv tv)(V:Row w B 3 al.R sv ps)(hl:Row w B 2 Cut.R lv l)(hB:B<=w.heap.size)(ok:aaP b l)(hL:∀ω∈ps,ω.Ok):
 ύ prog 114 #[η #[Y I b.ab,pv,bv,tv,sv],lv] w λe w'=>e=Ω (.bool (Gk b ps l))/\φ w w':=by
 have ST:Hid (Δ B w ((w.alloc (Ϧ #[Y I b.ab,pv,bv,tv,sv] 122)).alloc (Ϧ #[lv] 27))):=K (((Δ.refl w).alloc hB _).alloc (by simp;omega) _);have call:ύ prog 150 #[sv,fv 169 #[π (J ⟨w.heap.size,0,H⟩),π (J ⟨w.heap.size+1,0,H⟩)]] ((w.alloc (Ϧ #[Y I b.ab,pv,bv,tv,sv] 122)).alloc (Ϧ #[lv] 27))
  λe w'=>e=Ω (.bool (ps.any λω=> !db b ω l))/\Γ ((w.alloc (Ϧ #[Y I b.ab,pv,bv,tv,sv] 122)).alloc (Ϧ #[lv] 27)).heap.size _ w':=
  aj6 (λω=> !db b ω l) call169 (V.still ST.e λ_ _ h=>h) (by simp;omega) λW x hW hx=>by
   have sW:Δ B w W:=ST.e.trans (Δ.aJ hW (by simp;omega));have hz:w.heap.size+2<=W.heap.size:=(by have:=hW.size;simpa using this);exact ack (apH (B:=B) (hb.still sW) (hl.still sW λ_ _ h=>h) (by omega) ok (hL x hx) (by omega) (by omega)
    ((hW.cell (p:=⟨w.heap.size,0,H⟩) (by simp;try omega)).trans (by simp[go_sem])) ((hW.cell (p:=⟨w.heap.size,1,H⟩) (by simp;try omega)).trans (by simp[go_sem])) ((hW.cell (p:=⟨w.heap.size,2,H⟩) (by simp;try omega)).trans (by simp[go_sem]))
    ((hW.cell (p:=⟨w.heap.size,3,H⟩) (by simp;try omega)).trans (by simp[go_sem])) ((hW.cell (p:=⟨w.heap.size+1,0,H⟩) (by simp;try omega)).trans (by simp[go_sem])))
 have aG:=K call;obtain⟨A1,n1,c1,A2,nb,c2,A3,n3,c3,rfl,rfl,rfl⟩:=hb.op;obtain⟨A4,n4,c4,rfl,-⟩:=V.Φ;obtain⟨A,n,c,rfl,-⟩:=hl.Φ;clear call hb V hl ok hL;go_enter func114,Tryz.ntmps114;go_wp2_with (first
  | (go_at_call 150;refine aG.e.mono ?_;rintro e w1 ⟨rfl,ai⟩))
 go_ret;exact⟨bU rfl,(((ό _ _).alloc (ϊ _) _).alloc (by simp) _).trans (ai.mono (by simp;omega))⟩
def Bk(w:N)(g:Nat)(t:ώ)(cs:Array z):Prop:=w.heap[g]?=J (.cells cs t (0,0))
section
variable {w w':N}{g:Nat}{t:ώ}{cs:Array z}
def Bk.lt(h:Bk w g t cs):g<w.heap.size:=(Ϝ.1 h).1
def Bk.cell(h:Bk w g t cs)(i:Nat): w.cell? ⟨g,i,H⟩=cs[i]?:=cell_of_row w g i cs t (0,0) h
def Bk.frozen(h:Bk w g t cs)(i:Nat): w.frozen? ⟨g,i,H⟩=U:=by have h':w.heap[g]?=J (.cells cs t (0,0)):=h;simp[World.frozen?,h']
def Bk.alloc(h:Bk w g t cs)(o:Obj):Bk (w.alloc o) g t cs:=(Below.heap_alloc w o g h.lt).trans h
def Bk.new(w:N)(t:ώ)(cs:Array z):Bk (w.alloc (.cells cs t)) w.heap.size t cs:=heap_alloc_new w _
def Bk.bZ{w:N}{g:Nat}(h:g=w.heap.size)(t:ώ)(cs:Array z):Bk (w.alloc (.cells cs t)) g t cs:=by subst h;exact Bk.new w t cs
def Bk.dV(h:Bk w g t cs)(hp:g≠p.block)(u:z):Bk (w.setCell p u) g t cs:=(Below.heap_setCell w p u g hp).trans h
def Bk.set(h:Bk w g t cs)(i:Nat)(u:z):Bk (w.setCell ⟨g,i,H⟩ u) g t (cs.setIfInBounds i u):=by have h':w.heap[g]?=J (.cells cs t (0,0)):=h;show(w.setCell ⟨g,i,H⟩ u).heap[g]?=_;simp[World.setCell,Array.getElem?_modify,h']
def Bk.below(h:Bk w g t cs)(hb:Γ B w w')(hg:g<B):Bk w' g t cs:=(hb.block g hg).trans h
end
def al.cs(ω:al):Array z:=#[Y I ω.a,Y I ω.b,Y I ω.c]
def iq(M x:al)(i:Nat):al:=⟨if 0<i then(if M.a<x.a then x.a else M.a) else M.a,if 1<i then(if M.b<x.b then x.b else M.b) else M.b,if 2<i then(if M.c<x.c then x.c else M.c) else M.c⟩
def cB(l:List al):al:=l.foldl (λM x=>iq M x 3) ⟨0,0,0⟩
def PK(a b:Int):max a b=if a<b then b else a:=by rw[Int.max_def];split<;>split<;>omega
def UD(l:List al)(x:al):cB (l++ [x])=iq (cB l) x 3:=by simp[cB]
def UB{ps:List al}(V:Row w B 3 al.R sv ps)(hB:B<=w.heap.size)(hp:∃A n c,pv=E A n c)(hb:∃A n c,bv=E A n c)(ht:∃A n c,tv=E A n c):
 ύ prog 115 #[η #[Y I s,pv,bv,tv,sv]] w λe w'=>e=Ω (.agg (cB ps).cs)/\φ w w':=by
 obtain⟨A1,n1,c1,rfl⟩:=hp;obtain⟨A2,n2,c2,rfl⟩:=hb;obtain⟨A3,n3,c3,rfl⟩:=ht;obtain⟨A,n,c,rfl,hl,ey,dg,T⟩:=V.Φ;unfold ϕ at dg;have ox:=K hl;have H2:=K T;clear hl T V;go_enter func115,Tryz.ntmps115;go_wp2;go_loopw [5,6,7,11,16] (λa b d k υ wr=>∃i:Nat,i<=n/\k=Y I i/\Hid (Bk wr (w.heap.size+1+1) 128 (cB (ps.take i)).cs)/\Hid (Bk wr (w.heap.size+1) 128 #[Y I 0,Y I 0,Y I 0])/\φ w wr) (λ_ _ _ k _ _=>n - (ϭ k).toNat)
 case atStart=>exact⟨0,ϛ _,rfl,K (Bk.bZ (by simp) _ _),K ((Bk.bZ (by simp) _ _).alloc _),(((ό _ _).alloc (ϊ _) _).alloc (by simp) _).alloc (by simp;omega) _⟩
 case round=>
  obtain⟨wo,rfl⟩:∃wo:N,wo=wr:=⟨_,rfl⟩
  obtain⟨i,hi,rfl,hk,eD,hb⟩:=hrel;have HB:=K hb;have hz:w.heap.size+1+1<wo.heap.size:=hk.e.lt;by_cases ao:i<n
  ·obtain⟨ad,x,cs,rfl,aE,hx,rfl,-,aq⟩:=H2.e i ao;have st:Δ B w wo:=Δ.aJ hb hB;have h0:=cA aq st aE rfl;have h1:=bj aq st aE 0 rfl;have h2:=bj aq st aE 1 rfl;have HX:=K hx;clear hb hx aq st;go_wp2;go_loopw [6,7,16] (λa b υ W=>∃j:Nat,j<=3/\υ=Y I j/\Hid (Bk W (w.heap.size+1+1) 128 (iq (cB (ps.take i)) x j).cs)/\Hid (Bk W (w.heap.size+1) 128 #[Y I 0,Y I 0,Y I 0])/\φ w W) (λ_ _ υ _=>3 - (ϭ υ).toNat)
   case atStart=>exact⟨0,by omega,rfl,K (by simpa [iq] using hk.e.alloc _),K (eD.e.alloc _),HB.e.trans ((ό _ _).alloc (by omega) _)⟩
   case round=>
    obtain⟨j,hj,rfl,hq,rX,zK⟩:=hrel;have rh:=K zK;clear zK;obtain⟨M,hM⟩:∃M,M=cB (ps.take i):=⟨_,rfl⟩
    rw[<-hM] at hq;have HM:=K hM;clear hM;match j,hj with
    |0,_=>
     have g0: wr.cell? ⟨w.heap.size+1+1,0,H⟩=J (Y I M.a):=(hq.e.cell 0).trans (by simp[al.cs,iq]);have fz:=hq.e.frozen 0;have i0:∀w:N,(ģ 128 (η #[Y I x.a,Y I x.b,Y I x.c]) (Y I 0)).run prog w=.ok (Y I x.a) w:=λw=>by simp[ģ,go_sem]
     go_wp2;have di:=hq.e.set 0 (Y I (if M.a<x.a then x.a else M.a))
     have wC:=K di;clear di;go_roundw;case rel=>exact⟨0+1,by omega,by go_num,K (by rw[<-HM.e];first|simpa [al.cs,iq] using wC.e| (rw[PK];simpa [al.cs,iq] using wC.e)),K (rX.e.dV (by simp) _),rh.e.setCell (by simp;omega) _⟩
     case measure=>simp[ϭ]
    |1,_=>
     have g0: wr.cell? ⟨w.heap.size+1+1,1,H⟩=J (Y I M.b):=(hq.e.cell 1).trans (by simp[al.cs,iq]);have fz:=hq.e.frozen 1;have i0:∀w:N,(ģ 128 (η #[Y I x.a,Y I x.b,Y I x.c]) (Y I 1)).run prog w=.ok (Y I x.b) w:=λw=>by simp[ģ,go_sem]
     go_wp2;have di:=hq.e.set 1 (Y I (if M.b<x.b then x.b else M.b))
     have wC:=K di;clear di;go_roundw;case rel=>exact⟨1+1,by omega,by go_num,K (by rw[<-HM.e];first|simpa [al.cs,iq] using wC.e| (rw[PK];simpa [al.cs,iq] using wC.e)),K (rX.e.dV (by simp) _),rh.e.setCell (by simp;omega) _⟩
     case measure=>simp[ϭ]
    |2,_=>
     have g0: wr.cell? ⟨w.heap.size+1+1,2,H⟩=J (Y I M.c):=(hq.e.cell 2).trans (by simp[al.cs,iq]);have fz:=hq.e.frozen 2;have i0:∀w:N,(ģ 128 (η #[Y I x.a,Y I x.b,Y I x.c]) (Y I 2)).run prog w=.ok (Y I x.c) w:=λw=>by simp[ģ,go_sem]
     go_wp2;have di:=hq.e.set 2 (Y I (if M.c<x.c then x.c else M.c))
     have wC:=K di;clear di;go_roundw;case rel=>exact⟨2+1,by omega,by go_num,K (by rw[<-HM.e];first|simpa [al.cs,iq] using wC.e| (rw[PK];simpa [al.cs,iq] using wC.e)),K (rX.e.dV (by simp) _),rh.e.setCell (by simp;omega) _⟩
     case measure=>simp[ϭ]
    |3,_=>
     go_wp2;go_roundw;case rel=>exact⟨i+1,by omega,by go_num,K (by rw[pT HX.e,UD,<-HM.e];exact hq.e),rX,rh.e⟩
     case measure=>simp[ϭ];omega
  ·obtain rfl:i=n:=by omega
   have e0:=(hk.e.cell 0);have e1:=(hk.e.cell 1);have e2:=(hk.e.cell 2);rw[Õ (ò ox.e)] at e0 e1 e2;generalize hG:cB ps=G at e0 e1 e2 |-
   replace e0: wo.cell? ⟨w.heap.size+1+1,0,H⟩=J (Y I G.a):=e0;replace e1: wo.cell? ⟨w.heap.size+1+1,1,H⟩=J (Y I G.b):=e1;replace e2: wo.cell? ⟨w.heap.size+1+1,2,H⟩=J (Y I G.c):=e2;have q0: wo.cell? ⟨w.heap.size+1,0,H⟩=J (Y I 0):=(eD.e.cell 0);have q1: wo.cell? ⟨w.heap.size+1,1,H⟩=J (Y I 0):=(eD.e.cell 1);have q2: wo.cell? ⟨w.heap.size+1,2,H⟩=J (Y I 0):=(eD.e.cell 2);have z0:=eD.e.frozen 0;have z1:=eD.e.frozen 1;have z2:=eD.e.frozen 2;clear hb;go_wp2;exact bodyPost_ret (v:=.agg G.cs) (by simp[results,Tryz.results115,go_sem,q0,q1,q2,al.cs]) rfl ⟨by rw[<-hG],((HB.e.setCell (by simp) _).setCell (by simp) _).setCell (by simp) _⟩
end Go.Tw
namespace Go.Tw
variable [Go.Tw.aK]
open Go
def Ga{α:Type}{f:List α->α->Int}:∀(l dZ:List α),scan f dZ l=0->∀x∈l,∃acv,f acv x=0
 | [],_,_,x,h=>by cases h
 |a::l,dZ,h,x,hx=>by
  unfold scan at h;by_cases h0:f dZ a≠0
  ·rw[if_pos h0] at h;exact absurd h h0
  ·rw[if_neg h0] at h;rcases Ϡ.1 hx with rfl|hx
   ·exact⟨dZ,by simpa using h0⟩
   ·exact Ga l _ h x hx
def ao9{b m:Int}(h:kI a b lo hi m=D):lo<=a/\a<=b/\b<=hi/\b - a<m:=by simp only[kI,Ä,decide_eq_true_eq] at h;exact⟨h.1.1.1,h.1.1.2,h.1.2,h.2⟩
def X8{np:Int}:∀(l:List Int) (p:Int),eN np (J p) l=0->(∀k∈l,0<=k/\k<np)/\(l=[]\/(l.length:Int)<=np - 1 - p)
 | [],_,_=>⟨λk h=>(by cases h),.inl rfl⟩
 |a::l,p,h=>by
  unfold eN at h;by_cases hi:cj a 0 (np - 1)=D
  ·rw[if_pos hi] at h;have T:=nS hi;by_cases ha:a<=p
   ·rw[if_pos ha] at h;omega
   ·rw[if_neg ha] at h;obtain⟨h1,h2⟩:=X8 l a h;refine⟨λk hk=>?_,.inr ?_⟩
    ·rcases Ϡ.1 hk with rfl|hk
     ·omega
     ·exact h1 k hk
    ·rcases h2 with rfl|h2
     ·simp;omega
     ·simp;omega
  ·rw[if_neg hi] at h;omega
def anP{np:Int}(hn:0<=np)(h:eN np H l=0):(∀k∈l,0<=k/\k<np)/\(l.length:Int)<=np:=by
 cases l with
 |nil=>exact⟨λk h=>(by cases h),by simpa using hn⟩
 |cons a l=>
  unfold eN at h;by_cases hi:cj a 0 (np - 1)=D
  ·rw[if_pos hi] at h;have T:=nS hi;obtain⟨h1,h2⟩:=X8 l a h;refine⟨λk hk=>?_,?_⟩
   ·rcases Ϡ.1 hk with rfl|hk
    ·omega
    ·exact h1 k hk
   ·rcases h2 with rfl|h2
    ·simp;omega
    ·simp;omega
  ·rw[if_neg hi] at h;omega
structure Sn(p:Piece):Prop where
 lo:1<=p.len.lo
 le:p.len.lo<=p.len.hi
 hi:p.len.hi<=40
 wide:p.len.hi - p.len.lo<3
 bears:0<=p.bears/\p.bears<=2
structure Ro(x:bN):Prop where
 aL:1<=x.aL/\x.aL<=40
 cM:x.cM.length<=3
structure Valid(b:eR):Prop where
 ab:0<=b.ab/\b.ab<=3
 np:1<=b.pieces.length/\b.pieces.length<=3
 piece:∀p∈b.pieces,Sn p
 nb:b.aC.length<=3
 bt:∀x∈b.aC,Ro x
 nt:b.aI.length<=4
 tape:∀t∈b.aI,(∀k∈t.pieces,0<=k/\k<b.pieces.length)/\t.pieces.length<=b.pieces.length
def am7{dZ:List Piece}{p:Piece}(h:lI dZ p=0):Sn p:=by
 unfold lI at h;split at h
 ·split at h
  ·omega
  ·split at h
   ·rename_i V;split at h
    ·rename_i hi;have h1:=ao9 V;have h2:=nS hi;exact⟨h1.1,h1.2.1,h1.2.2.1,h1.2.2.2,h2⟩
    ·omega
   ·omega
 ·omega
def acM{dZ:List bN}{x:bN}(h:iw dZ x=0):Ro x:=by
 unfold iw at h;split at h
 ·split at h
  ·omega
  ·split at h
   ·rename_i hi;split at h
    ·omega
    ·exact⟨nS hi,by omega⟩
   ·omega
 ·omega
def fG{b:eR}(h:cZ b=0):Valid b:=by
 have hz:=Ga (f:=λ_ s=>s) (kR b) [] h;obtain⟨_,h1⟩:=hz (if cj b.ab 0 3 then 0 else 1) (by simp[kR]);obtain⟨_,h2⟩:=hz (jh b.pieces) (by simp[kR]);obtain⟨_,h3⟩:=hz (lB b.aC) (by simp[kR]);obtain⟨_,h4⟩:=hz (lJ b.pieces.length b.aI) (by simp[kR]);clear hz h;have V:cj b.ab 0 3=D:=by
  cases e:cj b.ab 0 3 with
  |true=>rfl|false=>rw[e] at h1;simp at h1
 have kX:cj b.pieces.length 1 3=D:=by
  cases e:cj b.pieces.length 1 3 with
  |true=>rfl|false=>unfold jh at h2;rw[e] at h2;simp at h2
 have hn:=nS kX;unfold jh at h2;rw[kX,if_pos rfl] at h2;unfold lB at h3;split at h3
 ·omega
 unfold lJ at h4;split at h4
 ·omega
 refine⟨nS V,by omega,λp hp=>?_,by omega,λx hx=>?_,by omega,λt ht=>?_⟩
 ·obtain⟨dZ,h⟩:=Ga _ _ h2 p hp;exact am7 h
 ·obtain⟨dZ,h⟩:=Ga _ _ h3 x hx;exact acM h
 ·obtain⟨dZ,h⟩:=Ga _ _ h4 t ht;simp only[lh] at h;split at h
  ·omega
  ·split at h
   ·contradiction
   ·rename_i h0;have:=anP (np:=b.pieces.length) (by omega) (by simpa using h0);exact⟨this.1,by omega⟩
def Valid.apR{b:eR}(h:Valid b):Bs b:=λt ht=>⟨λk hk=>by have:=(h.tape t ht).1 k hk;have:=h.np;omega,by have:=(h.tape t ht).2;have:=h.np;omega⟩
end Go.Tw
namespace Go.Tw
variable [Go.Tw.aK]
open Go Go.Proofs
def χ{d:Option TypeDesc}(h:ϋ.underlying t=d):Tw.prog.underlying t=d:=(Ke t).trans h
def A{b:Bool}(h:∀w:N,(isAgg t).run ϋ w=.ok b w):∀w:N,(isAgg t).run Tw.prog w=.ok b w:=λw=>(ap2 t w).trans (h w)
def ρ(h:∀w:N,(sizeOf t).run ϋ w=.ok b w):∀w:N,(sizeOf t).run Tw.prog w=.ok b w:=λw=>(ap3 t w).trans (h w)
def hs{b:z}(h:∀w:N,(zeroValue t).run ϋ w=.ok b w):∀w:N,(zeroValue t).run Tw.prog w=.ok b w:=λw=>(QS t w).trans (h w)
end Go.Tw
namespace Go.Proofs
variable [Go.Tw.aK]
open Go.Shelf
def Sh.aj0:Go.Shelf.Ren:=⟨λ|122=>181|215=>203|n=>n,λ|3=>3|4=>4|n=>n,λ|n=>n⟩
def Sh.ajZ:Go.Proofs.Lays.n122 Tw.prog Sh.aj0:={
 mixed:=by kernel_rfl
 f122:=Tw.func181.trans (congrArg J (by kernel_rfl))
 f215:=Tw.func203.trans (congrArg J (by kernel_rfl))
 t3:=Tw.χ Tryz.underlying3
 a3:=Tw.A Tryz.isAgg3
 z3:=Tw.ρ Tryz.sizeOf3
 v3:=Tw.hs Tryz.zeroValue3
 t4:=Tw.χ Tryz.underlying4
 a4:=Tw.A Tryz.isAgg4
 z4:=Tw.ρ Tryz.sizeOf4
 v4:=Tw.hs Tryz.zeroValue4}
open Go.RowKit in
def Sh.cmp_Compare_int(x y:Int)(w:N):
 ύ Tw.prog 181 #[Y I x,Y I y] w λe w'=>e=Ω (Y I (Lib.compareInt x y))/\w'=w:=Any.cmp_Compare_int Sh.ajZ x y w
def Sh.aj1:Go.Shelf.Ren:=⟨λ|189=>101|125=>164|257=>163|128=>199|129=>200|294=>190|295=>191|296=>192|297=>193|298=>194|299=>195|216=>196|300=>197|301=>198|328=>210|329=>211|330=>212|331=>213|332=>214|215=>203|343=>217|n=>n,λ|28=>33|3=>3|46=>194|0=>0|51=>220|53=>222|4=>4|183=>213|182=>212|131=>87|5=>5|9=>9|218=>234|222=>238|228=>242|229=>62|n=>n,λ|n=>n⟩
def Sh.Xe:Go.Proofs.Lays.n189 Tw.prog Sh.aj1:={
 mixed:=by kernel_rfl
 f125:=Tw.func164.trans (congrArg J (by kernel_rfl))
 f128:=Tw.func199.trans (congrArg J (by kernel_rfl))
 f129:=Tw.func200.trans (congrArg J (by kernel_rfl))
 f189:=Tw.func101.trans (congrArg J (by kernel_rfl))
 f215:=Tw.func203.trans (congrArg J (by kernel_rfl))
 f216:=Tw.func196.trans (congrArg J (by kernel_rfl))
 f257:=Tw.func163.trans (congrArg J (by kernel_rfl))
 f294:=Tw.func190.trans (congrArg J (by kernel_rfl))
 f295:=Tw.func191.trans (congrArg J (by kernel_rfl))
 f296:=Tw.func192.trans (congrArg J (by kernel_rfl))
 f297:=Tw.func193.trans (congrArg J (by kernel_rfl))
 f298:=Tw.func194.trans (congrArg J (by kernel_rfl))
 f299:=Tw.func195.trans (congrArg J (by kernel_rfl))
 f300:=Tw.func197.trans (congrArg J (by kernel_rfl))
 f301:=Tw.func198.trans (congrArg J (by kernel_rfl))
 f328:=Tw.func210.trans (congrArg J (by kernel_rfl))
 f329:=Tw.func211.trans (congrArg J (by kernel_rfl))
 f330:=Tw.func212.trans (congrArg J (by kernel_rfl))
 f331:=Tw.func213.trans (congrArg J (by kernel_rfl))
 f332:=Tw.func214.trans (congrArg J (by kernel_rfl))
 f343:=Tw.func217.trans (congrArg J (by kernel_rfl))
 t0:=Tw.χ Tryz.underlying0
 a0:=Tw.A Tryz.isAgg0
 z0:=Tw.ρ Tryz.sizeOf0
 v0:=Tw.hs Tryz.zeroValue0
 t3:=Tw.χ Tryz.underlying3
 a3:=Tw.A Tryz.isAgg3
 z3:=Tw.ρ Tryz.sizeOf3
 v3:=Tw.hs Tryz.zeroValue3
 t4:=Tw.χ Tryz.underlying4
 a4:=Tw.A Tryz.isAgg4
 z4:=Tw.ρ Tryz.sizeOf4
 v4:=Tw.hs Tryz.zeroValue4
 t5:=Tw.χ Tryz.underlying5
 a5:=Tw.A Tryz.isAgg5
 z5:=Tw.ρ Tryz.sizeOf5
 v5:=Tw.hs Tryz.zeroValue5
 t9:=Tw.χ Tryz.underlying9
 a9:=Tw.A Tryz.isAgg9
 z9:=Tw.ρ Tryz.sizeOf9
 v9:=Tw.hs Tryz.zeroValue9
 t28:=Tw.χ Tryz.underlying33
 a28:=Tw.A Tryz.isAgg33
 z28:=Tw.ρ Tryz.sizeOf33
 v28:=Tw.hs Tryz.zeroValue33
 t46:=Tw.χ Tryz.underlying194
 a46:=Tw.A Tryz.isAgg194
 z46:=Tw.ρ Tryz.sizeOf194
 v46:=Tw.hs Tryz.zeroValue194
 t51:=Tw.χ Tryz.underlying220
 a51:=Tw.A Tryz.isAgg220
 z51:=Tw.ρ Tryz.sizeOf220
 v51:=Tw.hs Tryz.zeroValue220
 t53:=Tw.χ Tryz.underlying222
 a53:=Tw.A Tryz.isAgg222
 z53:=Tw.ρ Tryz.sizeOf222
 v53:=Tw.hs Tryz.zeroValue222
 t131:=Tw.χ Tryz.underlying87
 a131:=Tw.A Tryz.isAgg87
 z131:=Tw.ρ Tryz.sizeOf87
 v131:=Tw.hs Tryz.zeroValue87
 t182:=Tw.χ Tryz.underlying212
 a182:=Tw.A Tryz.isAgg212
 z182:=Tw.ρ Tryz.sizeOf212
 v182:=Tw.hs Tryz.zeroValue212
 t183:=Tw.χ Tryz.underlying213
 a183:=Tw.A Tryz.isAgg213
 z183:=Tw.ρ Tryz.sizeOf213
 v183:=Tw.hs Tryz.zeroValue213
 t218:=Tw.χ Tryz.underlying234
 a218:=Tw.A Tryz.isAgg234
 z218:=Tw.ρ Tryz.sizeOf234
 v218:=Tw.hs Tryz.zeroValue234
 t222:=Tw.χ Tryz.underlying238
 a222:=Tw.A Tryz.isAgg238
 z222:=Tw.ρ Tryz.sizeOf238
 v222:=Tw.hs Tryz.zeroValue238
 t228:=Tw.χ Tryz.underlying242
 a228:=Tw.A Tryz.isAgg242
 z228:=Tw.ρ Tryz.sizeOf242
 v228:=Tw.hs Tryz.zeroValue242
 t229:=Tw.χ Tryz.underlying62
 a229:=Tw.A Tryz.isAgg62
 z229:=Tw.ρ Tryz.sizeOf62
 v229:=Tw.hs Tryz.zeroValue62}
open Go.Sort Go.RowKit in
def Sh.slices_Sort_int(blk off cap:Nat)(zs:List Int)(w:N)(hH:Holds (Y I) w blk off zs.toArray)(ahh:blk<w.heap.size)(aN:zs.length<4611686018427387904):
 ύ Tw.prog 101 #[E (J ⟨blk,off,H⟩) zs.length cap] w λe w'=>
  e=Ω (μ #[])/\∃n os,w'=grow (putRow (Y I) (Sort.ahead w n) blk off (zs.mergeSort λx y=>decide (x<=y)).toArray) os:=Any.slices_Sort_int Sh.Xe blk off cap zs w hH ahh aN
def Sh.aj2:Go.Shelf.Ren:=⟨λ|20=>102|n=>n,λ|22=>33|3=>3|4=>4|0=>0|n=>n,λ|n=>n⟩
def Sh.Xf:Go.Proofs.Lays2.n20 Tw.prog Sh.aj2:={
 mixed:=by kernel_rfl
 f20:=Tw.func102.trans (congrArg J (by kernel_rfl))
 t0:=Tw.χ Tryz.underlying0
 a0:=Tw.A Tryz.isAgg0
 z0:=Tw.ρ Tryz.sizeOf0
 v0:=Tw.hs Tryz.zeroValue0
 t3:=Tw.χ Tryz.underlying3
 a3:=Tw.A Tryz.isAgg3
 z3:=Tw.ρ Tryz.sizeOf3
 v3:=Tw.hs Tryz.zeroValue3
 t4:=Tw.χ Tryz.underlying4
 a4:=Tw.A Tryz.isAgg4
 z4:=Tw.ρ Tryz.sizeOf4
 v4:=Tw.hs Tryz.zeroValue4
 t22:=Tw.χ Tryz.underlying33
 a22:=Tw.A Tryz.isAgg33
 z22:=Tw.ρ Tryz.sizeOf33
 v22:=Tw.hs Tryz.zeroValue33
 i3:=by kernel_rfl}
open Go.RowKit Go.Lib Go.Sort in
def Sh.slices_Compact_int(blk off cap:Nat)(zs:List Int)(w:N)(hH:Holds (Y I) w blk off zs.toArray)(aN:zs.length<=9223372036854775807)(NS:zs.length<=cap):
 ύ Tw.prog 102 #[E (J ⟨blk,off,H⟩) zs.length cap] w λe w'=>e=Ω (E (J ⟨blk,off,H⟩) (Ī zs).length cap)/\∃q,w'=putRow (Y I) (Sort.ahead w q) blk off (Ī zs++List.replicate (zs.length - (Ī zs).length) 0).toArray:=Any.slices_Compact_int Sh.Xf blk off cap zs w hH aN NS
open Go.RowKit Go.Lib Go.Sort in
def Sh.slices_Compact_int_empty(a:Option Addr)(cap:Nat)(w:N):
 ύ Tw.prog 102 #[E a 0 cap] w λe w'=>e=Ω (E a 0 cap)/\w'=w:=Any.slices_Compact_int_empty Sh.Xf a cap w
open Go.RowKit Go.Sort in
def Sh.slices_Sort_int_none(p:Option Addr)(cap:Nat)(w:N):
 ύ Tw.prog 101 #[E p 0 cap] w λe w'=>e=Ω (μ #[])/\w'=w:=Any.slices_Sort_int_none Sh.Xe p cap w
end Go.Proofs
namespace Go.Tw
variable [Go.Tw.aK]
open Go Go.Proofs Go.RowKit Go.Sort Go.Lib
def acx{w0:N}{os:Array Obj}(h:Γ B w0 w)(hB:B<=w.heap.size):Γ B w0 (Sort.grow w os):=
 ⟨h.os,h.tape,h.output,by have:=h.size;simp[Sort.grow];omega,λk hk=>by rw[<-h.block k hk];exact heap_grow_old w os (by omega)⟩
def amV{base:Nat}{e:ώ}{sz:Nat}{os:Array Obj}(h:w.ownsRow base e sz v n xs):(Sort.grow w os).ownsRow base e sz v n xs:=by
 refine⟨h.1,?_⟩;rcases h.2 with h0| ⟨g,cap,cur,h1,h2,h3,h4⟩
 ·exact .inl h0
 ·exact .inr ⟨g,cap,cur,h1,h2,(heap_grow_old w os (Ϝ.1 h3).1).trans h3,h4⟩
def fQ(l:List Int):List Int:=l.mergeSort λx y=>decide (x<=y)
def QE{base:Nat}(h:w.ownsRow base 3 1 v n (zs.map (Y I)))(hn:n<=100000)(hb:base<=w.heap.size):
 ύ prog 101 #[v] w λe w'=>e=Ω (μ #[])/\w'.ownsRow base 3 1 v n ((fQ zs).map (Y I))/\Γ base w w':=by
 by_cases hv:v=E H 0 0
 ·subst hv;have h0:n=0/\zs=[]:=by
   rcases h.2 with⟨_,e⟩ | ⟨g,cap,cur,e,_⟩
   ·have:=h.1;simp at this;cases zs with
    |nil=>simp at this;exact⟨by omega,rfl⟩
    |cons=>simp_all
   ·cases e
  obtain⟨rfl,rfl⟩:=h0;refine(Sh.slices_Sort_int_none H 0 w).mono ?_;rintro e w' ⟨rfl,rfl⟩;exact⟨rfl,by simpa [fQ] using h,ό _ _⟩
 ·obtain⟨g,cap,rfl,ky,ao,ey,oI,hl,hH⟩:=holds_of_ownsRow h hv;subst hl;refine(Sh.slices_Sort_int g 0 cap zs w hH ao (by omega)).mono ?_;rintro e w' ⟨rfl,q,os,rfl⟩;have V:(fQ zs).length=zs.length:=by simp[fQ]
  refine⟨rfl,amV ?_,acx (below_putRow (ό _ _) ky) (by simp;exact hb)⟩;have:=ownsRow_putRow (q:=q) (k:=zs.length) (ys:=fQ zs) h V (ϊ _);rwa[Õ (by omega)] at this
def TG(zs:List Int):(Ī zs).length<=zs.length:=by unfold Ī compactUpTo;rw[List.length_map];exact Ϥ (Agg _ _) (by simp)
def TF{base:Nat}(h:w.ownsRow base 3 1 v n (zs.map (Y I)))(hn:n<=100000):
 ύ prog 102 #[v] w λe w'=>∃u,e=Ω u/\w'.ownsRow base 3 1 u (Ī zs).length ((Ī zs).map (Y I))/\Γ base w w':=by
 by_cases hv:v=E H 0 0
 ·subst hv;have h0:n=0/\zs=[]:=by
   rcases h.2 with⟨_,e⟩ | ⟨g,cap,cur,e,_⟩
   ·have:=h.1;simp at this;cases zs with
    |nil=>simp at this;exact⟨by omega,rfl⟩
    |cons=>simp_all
   ·cases e
  obtain⟨rfl,rfl⟩:=h0;refine(Sh.slices_Compact_int_empty H 0 w).mono ?_;rintro e w' ⟨rfl,rfl⟩;exact⟨_,rfl,h,ό _ _⟩
 ·obtain⟨g,cap,rfl,ky,ao,ey,oI,hl,hH⟩:=holds_of_ownsRow h hv;subst hl;refine(Sh.slices_Compact_int g 0 cap zs w hH (by omega) ey).mono ?_;rintro e w' ⟨rfl,q,rfl⟩;have hk:(Ī zs).length<=zs.length:=TG zs;refine⟨_,rfl,?_,below_putRow (ό _ _) ky⟩
  have:=ownsRow_putRow (q:=q) (k:=(Ī zs).length) (ys:=Ī zs++List.replicate (zs.length - (Ī zs).length) 0) h (by simp;omega) hk;simpa using this
end Go.Tw
namespace Go.Tw
variable [Go.Tw.aK]
open Go Go.Proofs Go.RowKit
def jX(l:List Cut):List Int:=Ī (fQ (l.map (·.bt)))
def dX{base:Nat}{e:ώ}{sz:Nat}(h:w.ownsRow base e sz v n xs)(k:Nat)(hk:v.ownBlock=J k):base<=k:=by
 rcases h.2 with⟨rfl,_⟩ | ⟨g,cap,cur,rfl,ky,_⟩
 ·simp[Value.ownBlock] at hk
 ·simp[Value.ownBlock] at hk;omega
def Pd:(prog.info? 3).map (λi=>(i.zero,i.size,i.bytes))=J (J (Y I 0),1,8):=by rw[qS];kernel_rfl
def taken{l:List Cut}(hv:Row w B 2 Cut.R v l)(hB:B<=w.heap.size)(zx:l.length<=1000):
 ύ prog 235 #[v] w λe w'=>∃u,e=Ω u/\w'.ownsRow w.heap.size 3 1 u (jX l).length ((jX l).map (Y I))/\φ w w':=by
 obtain⟨i0,cJ,cK,aO,aZ⟩:=info_parts Pd;obtain⟨A,n,c,rfl,hl,ey,dg,T⟩:=hv.Φ;have hn:n<=1000:=by omega
 unfold ϕ at dg;have ox:=K hl;have H2:=K T;have HI:=K (Ϗ cJ (Ϗ cK (Ϗ aO aZ)));clear hl T hv zx cJ cK aO aZ;go_enter func235,Tryz.ntmps235;go_wp2;go_loopw [3,5,8] (λo u k wr=>∃i:Nat,i<=n/\k=Y I i/\wr.ownsRow w.heap.size 3 1 o i ((l.take i).map λc=>Y I c.bt)/\φ w wr) (λ_ _ k _=>n - (RowKit.intOf k).toNat)
 case atStart=>exact⟨0,ϛ _,rfl,⟨by simp,.inl ⟨rfl,rfl⟩⟩,ό _ _⟩
 case round=>
  obtain⟨i,hi,rfl,aH,hb⟩:=hrel;have HO:=K aH;have HB:=K hb;have aN:=hb.size;by_cases ao:i<n
  ·obtain⟨ad,x,cs,rfl,aE,hx,rfl,-,aq⟩:=H2.e i ao;have st:Δ B w wr:=Δ.aJ hb hB;have h0:=cA aq st aE rfl;have h1:=bj aq st aE 0 rfl;have HX:=K hx;clear hb hx aq st aH;go_wp2_with (first
    | (at_builtin
       refine wpList_append_own _ rfl (.tmp 12) (.tmp 15) 33 rfl w.heap.size 3 i0 (Y I 0) 1 8 (χ Tryz.underlying33) HI.e.1 HI.e.2.1 HI.e.2.2.1 HI.e.2.2.2 rfl (by decide) _ i _ rfl ((HO.e.alloc _).alloc _) ⟨wr.heap.size+1,0,H⟩ 1 1 [Y I x.bt] rfl rfl ?c1 ?c2 ?c3 ?c4 ?c5 ?_;case c1=>(intro j u hu;match j,hu with|0,hu=>(simp at hu;subst hu;simp[go_sem,Addr.add]))
       case c2=>simp[Value.oneCell']
       case c3=>(simp only[ϕ];omega)
       case c4=>omega
       case c5=>(simp;omega)
       intro v' w1 b7 cW _;have gC:=K b7;have gX:=K cW;clear b7 cW))
   go_roundw;case rel=>exact⟨i+1,by omega,by go_num,by rw[pT HX.e,List.map_append];exact gC.e,
    ((HB.e.trans ((ό _ _).alloc aN _)).trans ((ό _ _).alloc (by simp;omega) _)).grown gX.e (by simp;omega) (λk hk=>dX HO.e k hk)⟩
   case measure=>simp[RowKit.intOf];omega
  ·obtain rfl:i=n:=by omega
   have xJ:((l.take i).map λc=>Y I c.bt)=(l.map (·.bt)).map (Y I):=(by rw[Õ (ò ox.e),List.map_map];rfl);have sB:Hid (wr.ownsRow w.heap.size 3 1 u3 i ((l.map (·.bt)).map (Y I))):=K (xJ▸HO.e);clear hb aH xJ HO;go_wp2_with (first
    | (go_at_call 101;refine(QE sB.e (by omega) aN).mono ?_;rintro e w1 ⟨rfl,b7,ai⟩;have wA:=K b7;have dR:=K ai;clear b7 ai)
    | (go_at_call 102;refine(TF wA.e (by omega)).mono ?_;rintro e w2 ⟨u,rfl,gv,an⟩;have yU:=K gv;have jK:=K an;clear gv an))
   go_ret;exact⟨_,rfl,yU.e,HB.e.trans (dR.e.trans jK.e)⟩
def nothing{A1 A2 A3:Option Addr}{n1 c1 n2 c2 n3 c3:Nat}(w:N):
 ύ prog 107 #[η #[Y I s,E A1 n1 c1,E A2 n2 c2,E A3 n3 c3]] w λe w'=>e=Ω (Y I 0)/\φ w w':=by
 go_enter func107,Tryz.ntmps107;go_wp2;go_ret;exact⟨bm rfl,(ό _ _).alloc (ϊ _) _⟩
end Go.Tw
end
